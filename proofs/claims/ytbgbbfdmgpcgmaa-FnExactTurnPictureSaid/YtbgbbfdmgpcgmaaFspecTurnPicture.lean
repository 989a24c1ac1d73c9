-- Written by tools/seatprint.py (over the kit's print, changed in memory). Not trusted: Lean checks it.
import Derived.Test.YtbgbbfdmgpcgmaaP0
import Derived.Test.YtbgbbfdmgpcgmaaFspecl1Empty
import Derived.Test.YtbgbbfdmgpcgmaaFspecIsPicture
namespace Go.Proofs.Ytbgbbfdmgpcgmaa.P
open Go.RowKit Go.Proofs.YtbgbbfdmgpcgmaaW.PrintWords Go.Proofs.YtbgbbfdmgpcgmaaW.PrintLast Go.Proofs.YtbgbbfdmgpcgmaaW.PrintMore
attribute [local go_sem] max2_int min2_int max_two min_two max_three min_three max_four min_four   -- for this text's walks alone
set_option linter.unusedVariables false
set_option linter.unusedSimpArgs false

/-! ### spec_TurnPicture: function 92 -/
def spec_TurnPicture.l0 : Nat → List Int → Int → Int → Int → Int → List Int → Int → Int → List Int → Option (Int × Int × List Int)
  | 0, _, _, _, _, _, _, _, _, _ => none
  | k + 1, x18, x19, x20, x1234000, x1234001, x1234002, x1242000, x1242001, x1242002 => if x20 < x19 then (if 0 ≤ x20 then (if x20 < (x18.length : Int) then (if x1234000 = 0 then (none) else (if 0 ≤ (wrap64 ((wrap64 ((wrap64 ((wrap64 (x1234000 - 1)) - (Int.tmod x20 x1234000))) * x1234001)) + (wrap64 (Int.tdiv x20 x1234000)))) then (if (wrap64 ((wrap64 ((wrap64 ((wrap64 (x1234000 - 1)) - (Int.tmod x20 x1234000))) * x1234001)) + (wrap64 (Int.tdiv x20 x1234000)))) < (x1242002.length : Int) then (spec_TurnPicture.l0 k x18 x19 (wrap64 (x20 + 1)) x1234000 x1234001 x1234002 x1242000 x1242001 (x1242002.set ((wrap64 ((wrap64 ((wrap64 ((wrap64 (x1234000 - 1)) - (Int.tmod x20 x1234000))) * x1234001)) + (wrap64 (Int.tdiv x20 x1234000)))) : Int).toNat (rd x18 x20))) else (none)) else (none))) else (none)) else (none)) else (some (x1242000, x1242001, x1242002))
def spec_TurnPicture.f (k : Nat) (a0_0 : Int) (a0_1 : Int) (l0_2 : List Int) : Option (Int × Int × List Int) := (spec_IsPicture.f k a0_0 a0_1 l0_2).bind fun t1235 => (if t1235 = true then ((spec_l1Empty.f a0_1 a0_0).bind fun bt1236 => (spec_TurnPicture.l0 k l0_2 (l0_2.length : Int) 0 a0_0 a0_1 l0_2 bt1236.1 bt1236.2.1 bt1236.2.2)) else (some (0, 0, ([] : List Int))))
theorem spec_TurnPicture.mono_l : ∀ k, (∀ y0 y1 y2 y3 y4 y5 y6 y7 y8, LeO (spec_TurnPicture.l0 k y0 y1 y2 y3 y4 y5 y6 y7 y8) (spec_TurnPicture.l0 (k + 1) y0 y1 y2 y3 y4 y5 y6 y7 y8))
  | 0 => fun _ _ _ _ _ _ _ _ _ r h => by simp [spec_TurnPicture.l0] at h
  | k + 1 => by
    have ih0 := spec_TurnPicture.mono_l k
    · intro y0 y1 y2 y3 y4 y5 y6 y7 y8
      unfold spec_TurnPicture.l0
      repeat' first
      | (with_reducible exact ih0 _ _ _ _ _ _ _ _ _)
      | (with_reducible exact spec_IsPicture.mono _ _ _ _)
      | (with_reducible exact LeO.refl _)
      | (with_reducible exact LeO.none _)
      | (with_reducible refine LeO.ite ?_ ?_)
      | (with_reducible refine LeO.bind ?_ (fun _ => ?_))
      | exact ih0 _ _ _ _ _ _ _ _ _
      | exact spec_IsPicture.mono _ _ _ _
      | exact LeO.none _
      | refine LeO.ite ?_ ?_
      | refine LeO.bind ?_ (fun _ => ?_)
theorem spec_TurnPicture.mono : ∀ a0 a1 a2 k, LeO (spec_TurnPicture.f k a0 a1 a2) (spec_TurnPicture.f (k + 1) a0 a1 a2) := by
  intro a0 a1 a2 k
  have ih0 := spec_TurnPicture.mono_l k
  unfold spec_TurnPicture.f
  repeat' first
      | (with_reducible exact ih0 _ _ _ _ _ _ _ _ _)
      | (with_reducible exact spec_IsPicture.mono _ _ _ _)
      | (with_reducible exact LeO.refl _)
      | (with_reducible exact LeO.none _)
      | (with_reducible refine LeO.ite ?_ ?_)
      | (with_reducible refine LeO.bind ?_ (fun _ => ?_))
      | exact ih0 _ _ _ _ _ _ _ _ _
      | exact spec_IsPicture.mono _ _ _ _
      | exact LeO.none _
      | refine LeO.ite ?_ ?_
      | refine LeO.bind ?_ (fun _ => ?_)
set_option maxHeartbeats 8000000 in
set_option maxRecDepth 100000 in
theorem spec_TurnPicture.calls (k : Nat) (a0_0 : Int) (a0_1 : Int) (A0_2 : Option Addr) (c0_2 : Nat) (l0_2 : List Int) (r1 : Int) (r2 : Int) (r3 : List Int) (w : World) (hr0_2 : Kd.C (Kd.int .i64) w A0_2 l0_2.length l0_2) (hc0_2 : l0_2.length ≤ c0_2) (h : spec_TurnPicture.f k a0_0 a0_1 l0_2 = some (r1, r2, r3)) :
    Calls Try.prog 92 #[.agg #[.int .i64 a0_0, .int .i64 a0_1, .slice A0_2 l0_2.length c0_2]] w fun e w' => ∃ v2_ : Value, e = .returned (.agg #[.int .i64 r1, .int .i64 r2, v2_]) ∧ Kd.R (Kd.int .i64) 3 w' w.heap.size (fun _ => True) v2_ r3 ∧ Below w.heap.size w w' := by
  have hu37 := Try.underlying37
  have HR0_2 := Aside0.mk hr0_2
  have HC0_2 := Aside0.mk hc0_2
  clear hr0_2 hc0_2
  have HB := Aside0.mk (Below.refl w.heap.size w)
  have H : ((spec_IsPicture.f k a0_0 a0_1 l0_2).bind fun t1235 => (if t1235 = true then ((spec_l1Empty.f a0_1 a0_0).bind fun bt1236 => (spec_TurnPicture.l0 k l0_2 (l0_2.length : Int) 0 a0_0 a0_1 l0_2 bt1236.1 bt1236.2.1 bt1236.2.2)) else (some (0, 0, ([] : List Int))))) = some (r1, r2, r3) := h
  clear h
  replace H := Option.bind_eq_some_iff.mp H
  obtain ⟨t1235, A20, H⟩ := H
  replace H : (if t1235 = true then ((spec_l1Empty.f a0_1 a0_0).bind fun bt1236 => (spec_TurnPicture.l0 k l0_2 (l0_2.length : Int) 0 a0_0 a0_1 l0_2 bt1236.1 bt1236.2.1 bt1236.2.2)) else (some (0, 0, ([] : List Int)))) = some (r1, r2, r3) := H
  have A2 := Aside0.mk A20
  clear A20
  by_cases c3 : t1235 = true
  · subst c3
    have H1 : ((spec_l1Empty.f a0_1 a0_0).bind fun bt1236 => (spec_TurnPicture.l0 k l0_2 (l0_2.length : Int) 0 a0_0 a0_1 l0_2 bt1236.1 bt1236.2.1 bt1236.2.2)) = some (r1, r2, r3) := by rw [if_pos rfl] at H; exact H
    clear H
    have H := H1
    clear H1
    replace H := Option.bind_eq_some_iff.mp H
    obtain ⟨⟨t1236, t1237, t1238⟩, A40, H⟩ := H
    replace H : (spec_TurnPicture.l0 k l0_2 (l0_2.length : Int) 0 a0_0 a0_1 l0_2 t1236 t1237 t1238) = some (r1, r2, r3) := H
    have A4 := Aside0.mk A40
    clear A40
    have H' := Aside0.mk H
    clear H
    go_enter Try.func92, Try.ntmps92
    go_wp2_with (first | ((with_reducible refine gate_dst (N := 1) rfl ?_); refine box_event ?hg (N := 1) ?hd (cs := #[.int .i64 a0_0, .int .i64 a0_1, .slice A0_2 l0_2.length c0_2]) (t := 37) ?hr ?_; (case hd => rfl); (case hg => rfl); (case hr => first | (go_simp; done) | (go_simp; rfl)); intro gb1233 hg w5 hbox hb; have n0_ := Aside0.mk (below_step (by repeat (first | (with_reducible first | exact HB.out | apply below_alloc | apply pw_below_drewN | apply below_drew1) | exact HB.out)) hb); have n1_ := Aside0.mk (hbox); have n2_ := Aside0.mk ((by rw [hg]; exact (below_size (by repeat (first | (with_reducible first | exact HB.out | apply below_alloc | apply pw_below_drewN | apply below_drew1) | exact HB.out))) : w.heap.size ≤ gb1233)); have n3_ := Aside0.mk ((by rw [hg]; exact (below_size (by repeat (first | (with_reducible first | exact HB.out | apply below_alloc | apply pw_below_drewN | apply below_drew1) | exact HB.out))) : w.heap.size ≤ gb1233)); clear HB; have HB := n0_; have BK1233 := n1_; have GW1233 := n2_; have GE1233 := n3_; clear n0_ n1_ n2_ n3_; clear hb hbox hg) | ((with_reducible refine gate_dst (N := 2) rfl ?_); refine box_event ?hg (N := 2) ?hd (cs := #[.int .i64 0, .int .i64 0, .slice none 0 0]) (t := 37) ?hr ?_; (case hd => rfl); (case hg => rfl); (case hr => first | (go_simp; done) | (go_simp; rfl)); intro gb1234 hg w6 hbox hb; have n0_ := Aside0.mk (blk_below (g := gb1233) (o := .cells #[.int .i64 a0_0, .int .i64 a0_1, .slice A0_2 l0_2.length c0_2] 37 (0, 0)) (by (with_reducible repeat (first | refine blk_drewN ?_ _ | refine blk_drew ?_ | refine blk_alloc ?_ _)); exact BK1233.out) hb); have n1_ := Aside0.mk (below_step (by repeat (first | (with_reducible first | exact HB.out | apply below_alloc | apply pw_below_drewN | apply below_drew1 | refine below_set ?_ GE1233.out) | exact HB.out)) hb); have n2_ := Aside0.mk (hbox); have n3_ := Aside0.mk ((by rw [hg]; exact (below_size (by repeat (first | (with_reducible first | exact HB.out | apply below_alloc | apply pw_below_drewN | apply below_drew1 | refine below_set ?_ GE1233.out) | exact HB.out))) : w.heap.size ≤ gb1234)); have n4_ := Aside0.mk ((by rw [hg]; exact (below_size (by repeat (first | (with_reducible first | exact HB.out | apply below_alloc | apply pw_below_drewN | apply below_drew1 | refine below_set ?_ GE1233.out) | exact HB.out))) : w.heap.size ≤ gb1234)); have n5_ := Aside0.mk ((by rw [hg]; exact Nat.ne_of_lt (blk_lt (g := gb1233) (o := .cells #[.int .i64 a0_0, .int .i64 a0_1, .slice A0_2 l0_2.length c0_2] 37 (0, 0)) (by (with_reducible repeat (first | refine blk_drewN ?_ _ | refine blk_drew ?_ | refine blk_alloc ?_ _)); exact BK1233.out)) : gb1233 ≠ gb1234)); have n6_ := Aside0.mk ((by rw [hg]; exact Nat.ne_of_gt (blk_lt (g := gb1233) (o := .cells #[.int .i64 a0_0, .int .i64 a0_1, .slice A0_2 l0_2.length c0_2] 37 (0, 0)) (by (with_reducible repeat (first | refine blk_drewN ?_ _ | refine blk_drew ?_ | refine blk_alloc ?_ _)); exact BK1233.out)) : gb1234 ≠ gb1233)); clear BK1233; clear HB; have BK1233 := n0_; have HB := n1_; have BK1234 := n2_; have GW1234 := n3_; have GE1234 := n4_; have NB1233_1234 := n5_; have NB1234_1233 := n6_; clear n0_ n1_ n2_ n3_ n4_ n5_ n6_; clear hb hbox hg; have hnb7 := NB1233_1234.out; have hnc7 := NB1234_1233.out; have hcz8_0 : w6.cell? ⟨gb1233, 0, none⟩ = some (.int .i64 a0_0) := (blk_cell BK1233.out 0).trans rfl; have hcz8_1 : w6.cell? ⟨gb1233, 1, none⟩ = some (.int .i64 a0_1) := (blk_cell BK1233.out 1).trans rfl; have hcz8_2 : w6.cell? ⟨gb1233, 2, none⟩ = some (.slice A0_2 l0_2.length c0_2) := (blk_cell BK1233.out 2).trans rfl; have hfz8_0 := blk_frozen BK1233.out 0; have hfz8_1 := blk_frozen BK1233.out 1; have hfz8_2 := blk_frozen BK1233.out 2) | ((with_reducible refine gate_callee (f := 60) rfl ?_); refine goesL_ (some 9) rfl rfl Try.func60 (by kernel_rfl) rfl #[.agg #[.int .i64 a0_0, .int .i64 a0_1, .slice A0_2 l0_2.length c0_2]] rfl (by (try simp only [List.map_toArray, List.map_cons, List.map_nil]); first | done | rfl | (simp only [List.length_drop, List.length_take]; rfl)) ?_; (with_reducible refine (spec_IsPicture.calls k a0_0 a0_1 _ _ l0_2 true _ ?side1 ?side2 A2.out).mono ?_); (case side1 => repeat (first | exact (Kd.C_below HR0_2.out HB.out) | (with_reducible refine Kd.C_alloc ?_ _) | (with_reducible refine Kd.C_drewN ?_ _) | (with_reducible refine Kd.C_drew ?_))); (case side2 => exact HC0_2.out); rintro e w9 ⟨rfl, hb⟩; refine ⟨_, rfl, ?_⟩; have n0_ := Aside0.mk (blk_below (g := gb1233) (o := .cells #[.int .i64 a0_0, .int .i64 a0_1, .slice A0_2 l0_2.length c0_2] 37 (0, 0)) (by (with_reducible repeat (first | refine blk_drewN ?_ _ | refine blk_drew ?_ | refine blk_alloc ?_ _)); exact BK1233.out) hb); have n1_ := Aside0.mk (blk_below (g := gb1234) (o := .cells #[.int .i64 0, .int .i64 0, .slice none 0 0] 37 (0, 0)) (by (with_reducible repeat (first | refine blk_drewN ?_ _ | refine blk_drew ?_ | refine blk_alloc ?_ _)); exact BK1234.out) hb); have n2_ := Aside0.mk (below_step (by repeat (first | (with_reducible first | exact HB.out | apply below_alloc | apply pw_below_drewN | apply below_drew1 | refine below_set ?_ GE1233.out | refine below_set ?_ GE1234.out) | exact HB.out)) hb); clear BK1233; clear BK1234; clear HB; have BK1233 := n0_; have BK1234 := n1_; have HB := n2_; clear n0_ n1_ n2_; (try clear hb); (try clear hb2); (try clear hk); (try clear hi); have hcz10_0 : w9.cell? ⟨gb1233, 0, none⟩ = some (.int .i64 a0_0) := (blk_cell BK1233.out 0).trans rfl; have hcz10_1 : w9.cell? ⟨gb1233, 1, none⟩ = some (.int .i64 a0_1) := (blk_cell BK1233.out 1).trans rfl; have hcz10_2 : w9.cell? ⟨gb1233, 2, none⟩ = some (.slice A0_2 l0_2.length c0_2) := (blk_cell BK1233.out 2).trans rfl; have hfz10_0 := blk_frozen BK1233.out 0; have hfz10_1 := blk_frozen BK1233.out 1; have hfz10_2 := blk_frozen BK1233.out 2) | ((with_reducible refine gate_callee (f := 116) rfl ?_); refine goesL_ (some 16) rfl rfl Try.func116 (by kernel_rfl) rfl #[.int .i64 a0_1, .int .i64 a0_0] rfl (by (try simp only [List.map_toArray, List.map_cons, List.map_nil]); first | done | rfl | (simp only [List.length_drop, List.length_take]; rfl)) ?_; (with_reducible refine (spec_l1Empty.calls a0_1 a0_0 t1236 t1237 t1238 _ A4.out).mono ?_); rintro e w11 ⟨v1239, rfl, ho0, hb⟩; refine ⟨_, rfl, ?_⟩; have n0_ := Aside0.mk (Kd.R_lower ho0 (below_size (by repeat (first | (with_reducible first | exact HB.out | apply below_alloc | apply pw_below_drewN | apply below_drew1 | refine below_set ?_ GE1233.out | refine below_set ?_ GE1234.out) | exact HB.out)))); have n1_ := Aside0.mk (blk_below (g := gb1233) (o := .cells #[.int .i64 a0_0, .int .i64 a0_1, .slice A0_2 l0_2.length c0_2] 37 (0, 0)) (by (with_reducible repeat (first | refine blk_drewN ?_ _ | refine blk_drew ?_ | refine blk_alloc ?_ _)); exact BK1233.out) hb); have n2_ := Aside0.mk (blk_below (g := gb1234) (o := .cells #[.int .i64 0, .int .i64 0, .slice none 0 0] 37 (0, 0)) (by (with_reducible repeat (first | refine blk_drewN ?_ _ | refine blk_drew ?_ | refine blk_alloc ?_ _)); exact BK1234.out) hb); have n3_ := Aside0.mk (below_step (by repeat (first | (with_reducible first | exact HB.out | apply below_alloc | apply pw_below_drewN | apply below_drew1 | refine below_set ?_ GE1233.out | refine below_set ?_ GE1234.out) | exact HB.out)) hb); clear BK1233; clear BK1234; clear HB; have HO1240 := n0_; have BK1233 := n1_; have BK1234 := n2_; have HB := n3_; clear n0_ n1_ n2_ n3_; (try clear hb); (try clear hb2); (try clear hk); (try clear hi); (try clear ho0)) | ((with_reducible refine gate_dst (N := 3) rfl ?_); refine box_event ?hg (N := 3) ?hd (cs := #[.int .i64 0, .int .i64 0, .slice none 0 0]) (t := 37) ?hr ?_; (case hd => rfl); (case hg => rfl); (case hr => first | (go_simp; done) | (go_simp; rfl)); intro gb1241 hg w12 hbox hb; have n0_ := Aside0.mk (Kd.R_below (by (with_reducible repeat (first | apply Kd.R_alloc | apply Kd.R_drewN | apply Kd.R_drew)); exact HO1240.out) hb); have n1_ := Aside0.mk (blk_below (g := gb1233) (o := .cells #[.int .i64 a0_0, .int .i64 a0_1, .slice A0_2 l0_2.length c0_2] 37 (0, 0)) (by (with_reducible repeat (first | refine blk_drewN ?_ _ | refine blk_drew ?_ | refine blk_alloc ?_ _)); exact BK1233.out) hb); have n2_ := Aside0.mk (blk_below (g := gb1234) (o := .cells #[.int .i64 0, .int .i64 0, .slice none 0 0] 37 (0, 0)) (by (with_reducible repeat (first | refine blk_drewN ?_ _ | refine blk_drew ?_ | refine blk_alloc ?_ _)); exact BK1234.out) hb); have n3_ := Aside0.mk (below_step (by repeat (first | (with_reducible first | exact HB.out | apply below_alloc | apply pw_below_drewN | apply below_drew1 | refine below_set ?_ GE1233.out | refine below_set ?_ GE1234.out) | exact HB.out)) hb); have n4_ := Aside0.mk (hbox); have n5_ := Aside0.mk ((by rw [hg]; exact (below_size (by repeat (first | (with_reducible first | exact HB.out | apply below_alloc | apply pw_below_drewN | apply below_drew1 | refine below_set ?_ GE1233.out | refine below_set ?_ GE1234.out) | exact HB.out))) : w.heap.size ≤ gb1241)); have n6_ := Aside0.mk ((by rw [hg]; exact (below_size (by repeat (first | (with_reducible first | exact HB.out | apply below_alloc | apply pw_below_drewN | apply below_drew1 | refine below_set ?_ GE1233.out | refine below_set ?_ GE1234.out) | exact HB.out))) : w.heap.size ≤ gb1241)); have n7_ := Aside0.mk ((by rw [hg]; exact Nat.ne_of_lt (blk_lt (g := gb1233) (o := .cells #[.int .i64 a0_0, .int .i64 a0_1, .slice A0_2 l0_2.length c0_2] 37 (0, 0)) (by (with_reducible repeat (first | refine blk_drewN ?_ _ | refine blk_drew ?_ | refine blk_alloc ?_ _)); exact BK1233.out)) : gb1233 ≠ gb1241)); have n8_ := Aside0.mk ((by rw [hg]; exact Nat.ne_of_gt (blk_lt (g := gb1233) (o := .cells #[.int .i64 a0_0, .int .i64 a0_1, .slice A0_2 l0_2.length c0_2] 37 (0, 0)) (by (with_reducible repeat (first | refine blk_drewN ?_ _ | refine blk_drew ?_ | refine blk_alloc ?_ _)); exact BK1233.out)) : gb1241 ≠ gb1233)); have n9_ := Aside0.mk ((by rw [hg]; exact Nat.ne_of_lt (blk_lt (g := gb1234) (o := .cells #[.int .i64 0, .int .i64 0, .slice none 0 0] 37 (0, 0)) (by (with_reducible repeat (first | refine blk_drewN ?_ _ | refine blk_drew ?_ | refine blk_alloc ?_ _)); exact BK1234.out)) : gb1234 ≠ gb1241)); have n10_ := Aside0.mk ((by rw [hg]; exact Nat.ne_of_gt (blk_lt (g := gb1234) (o := .cells #[.int .i64 0, .int .i64 0, .slice none 0 0] 37 (0, 0)) (by (with_reducible repeat (first | refine blk_drewN ?_ _ | refine blk_drew ?_ | refine blk_alloc ?_ _)); exact BK1234.out)) : gb1241 ≠ gb1234)); clear HO1240; clear BK1233; clear BK1234; clear HB; have HO1240 := n0_; have BK1233 := n1_; have BK1234 := n2_; have HB := n3_; have BK1241 := n4_; have GW1241 := n5_; have GE1241 := n6_; have NB1233_1241 := n7_; have NB1241_1233 := n8_; have NB1234_1241 := n9_; have NB1241_1234 := n10_; clear n0_ n1_ n2_ n3_ n4_ n5_ n6_ n7_ n8_ n9_ n10_; clear hb hbox hg; have hnb13 := NB1241_1233.out; have hnc13 := NB1233_1241.out; have hnb14 := NB1241_1234.out; have hnc14 := NB1234_1241.out; have hcz15_0 : w12.cell? ⟨gb1241, 0, none⟩ = some (.int .i64 0) := (blk_cell BK1241.out 0).trans rfl; have hcz15_1 : w12.cell? ⟨gb1241, 1, none⟩ = some (.int .i64 0) := (blk_cell BK1241.out 1).trans rfl; have hcz15_2 : w12.cell? ⟨gb1241, 2, none⟩ = some (.slice none 0 0) := (blk_cell BK1241.out 2).trans rfl; have hfz15_0 := blk_frozen BK1241.out 0; have hfz15_1 := blk_frozen BK1241.out 1; have hfz15_2 := blk_frozen BK1241.out 2; obtain ⟨Ao16, co16, eo16⟩ := Kd.R_slice HO1240.out; subst eo16; have hcz17_0 : w12.cell? ⟨gb1233, 0, none⟩ = some (.int .i64 a0_0) := (blk_cell BK1233.out 0).trans rfl; have hcz17_1 : w12.cell? ⟨gb1233, 1, none⟩ = some (.int .i64 a0_1) := (blk_cell BK1233.out 1).trans rfl; have hcz17_2 : w12.cell? ⟨gb1233, 2, none⟩ = some (.slice A0_2 l0_2.length c0_2) := (blk_cell BK1233.out 2).trans rfl; have hfz17_0 := blk_frozen BK1233.out 0; have hfz17_1 := blk_frozen BK1233.out 1; have hfz17_2 := blk_frozen BK1233.out 2))
    go_loopg [20] k (fun kq v20 w' => ∃ (x20_1 : Int) (x1242002_1 : List Int) (u1242002 : Value), v20 = .int .i64 x20_1 ∧ Aside0 (spec_TurnPicture.l0 kq l0_2 (l0_2.length : Int) x20_1 a0_0 a0_1 l0_2 t1236 t1237 x1242002_1 = some (r1, r2, r3)) ∧ Aside0 (kq ≤ k) ∧ Aside0 (Kd.R (Kd.int .i64) 3 w' w.heap.size (fun _ => True) u1242002 x1242002_1) ∧ Aside0 (w'.heap[gb1233]? = some (.cells #[.int .i64 a0_0, .int .i64 a0_1, (.slice A0_2 l0_2.length c0_2)] 37 (0, 0))) ∧ Aside0 (w'.heap[gb1234]? = some (.cells #[.int .i64 0, .int .i64 0, (.slice none 0 0)] 37 (0, 0))) ∧ Aside0 (w'.heap[gb1241]? = some (.cells #[.int .i64 t1236, .int .i64 t1237, u1242002] 37 (0, 0))) ∧ Aside0 (Below w.heap.size w w'))
    case atStart => exact ⟨(0), (t1238), (.slice Ao16 t1238.length co16), (by first | rfl | (simp; done) | (simp [*]; done)), H', ⟨Nat.le_refl _⟩, ⟨by (with_reducible repeat (first | apply Kd.R_alloc | apply Kd.R_drewN | apply Kd.R_drew)); exact Kd.R_mono (Kd.R_far (p := ⟨gb1241, 2, none⟩) (Kd.R_far (p := ⟨gb1241, 1, none⟩) (Kd.R_far (p := ⟨gb1241, 0, none⟩) (Kd.R_types HO1240.out BK1241.out (by decide)) (fun _ hk => hk.2) (.int .i64 t1236)) (fun _ hk => hk.2) (.int .i64 t1237)) (fun _ hk => hk.2) (.slice Ao16 t1238.length co16)) (fun _ hk => trivial)⟩, ⟨by (with_reducible repeat (first | refine blk_drewN ?_ _ | refine blk_drew ?_ | refine blk_alloc ?_ _)); refine blk_far ?_ NB1233_1241.out _; (with_reducible repeat (first | refine blk_drewN ?_ _ | refine blk_drew ?_ | refine blk_alloc ?_ _)); refine blk_far ?_ NB1233_1241.out _; (with_reducible repeat (first | refine blk_drewN ?_ _ | refine blk_drew ?_ | refine blk_alloc ?_ _)); refine blk_far ?_ NB1233_1241.out _; (with_reducible repeat (first | refine blk_drewN ?_ _ | refine blk_drew ?_ | refine blk_alloc ?_ _)); exact BK1233.out⟩, ⟨by (with_reducible repeat (first | refine blk_drewN ?_ _ | refine blk_drew ?_ | refine blk_alloc ?_ _)); refine blk_far ?_ NB1234_1241.out _; (with_reducible repeat (first | refine blk_drewN ?_ _ | refine blk_drew ?_ | refine blk_alloc ?_ _)); refine blk_far ?_ NB1234_1241.out _; (with_reducible repeat (first | refine blk_drewN ?_ _ | refine blk_drew ?_ | refine blk_alloc ?_ _)); refine blk_far ?_ NB1234_1241.out _; (with_reducible repeat (first | refine blk_drewN ?_ _ | refine blk_drew ?_ | refine blk_alloc ?_ _)); exact BK1234.out⟩, ⟨by (with_reducible repeat (first | refine blk_drewN ?_ _ | refine blk_drew ?_ | refine blk_alloc ?_ _)); refine blk_put (cs := #[.int .i64 t1236, .int .i64 t1237, .slice none 0 0]) ?_ 2 _ rfl; (with_reducible repeat (first | refine blk_drewN ?_ _ | refine blk_drew ?_ | refine blk_alloc ?_ _)); refine blk_put (cs := #[.int .i64 t1236, .int .i64 0, .slice none 0 0]) ?_ 1 _ rfl; (with_reducible repeat (first | refine blk_drewN ?_ _ | refine blk_drew ?_ | refine blk_alloc ?_ _)); refine blk_put (cs := #[.int .i64 0, .int .i64 0, .slice none 0 0]) ?_ 0 _ rfl; (with_reducible repeat (first | refine blk_drewN ?_ _ | refine blk_drew ?_ | refine blk_alloc ?_ _)); exact BK1241.out⟩, ⟨by repeat (first | (with_reducible first | exact HB.out | apply below_alloc | apply pw_below_drewN | apply below_drew1 | refine below_set ?_ GE1233.out | refine below_set ?_ GE1234.out | refine below_set ?_ GE1241.out) | exact HB.out)⟩⟩
    case round =>
      clear H'
      try clear c1
      try clear p2
      try clear c3
      try clear c6
      try clear c7
      try clear c9
      try clear c11
      try clear c13
      try clear c14
      try clear hcz10_0
      try clear hcz10_1
      try clear hcz10_2
      try clear hcz15_0
      try clear hcz15_1
      try clear hcz15_2
      try clear hcz17_0
      try clear hcz17_1
      try clear hcz17_2
      try clear hcz8_0
      try clear hcz8_1
      try clear hcz8_2
      try clear hfz10_0
      try clear hfz10_1
      try clear hfz10_2
      try clear hfz15_0
      try clear hfz15_1
      try clear hfz15_2
      try clear hfz17_0
      try clear hfz17_1
      try clear hfz17_2
      try clear hfz8_0
      try clear hfz8_1
      try clear hfz8_2
      obtain ⟨x20_1, x1242002_1, u1242002, rfl, HA, HK1, HO_1242002, BK1233, BK1234, BK1241, HB⟩ := hrel
      cases gk with
      | zero => exact absurd HA.out (by simp [spec_TurnPicture.l0])
      | succ k1 =>
        have H := HA.out
        clear HA
        simp only [spec_TurnPicture.l0] at H
        by_cases c18 : x20_1 < (l0_2.length : Int)
        · rw [if_pos c18] at H
          have c18b0 : decide (x20_1 < (l0_2.length : Int)) = true := decide_eq_true c18
          clear c18
          by_cases c19 : 0 ≤ x20_1
          · rw [if_pos c19] at H
            have c19b0 : decide (0 ≤ x20_1) = true := decide_eq_true c19
            clear c19
            by_cases c20 : x20_1 < (l0_2.length : Int)
            · rw [if_pos c20] at H
              have c20b0 : decide (x20_1 < (l0_2.length : Int)) = true := decide_eq_true c20
              clear c20
              by_cases c21 : a0_0 = 0
              · rw [if_pos c21] at H
                exact absurd H (by simp)
              · rw [if_neg c21] at H
                have c21b0 : (a0_0 == 0) = false := beq_eq_false_iff_ne.mpr c21
                have c21b1 : (a0_0 != 0) = true := bne_iff_ne.mpr c21
                obtain ⟨ji22, hji22⟩ : ∃ j_ : Int, (wrap64 ((wrap64 ((wrap64 ((wrap64 (a0_0 - 1)) - (Int.tmod x20_1 a0_0))) * a0_1)) + (wrap64 (Int.tdiv x20_1 a0_0)))) = j_ := ⟨_, rfl⟩
                replace H : (if 0 ≤ (ji22) then (if (ji22) < (x1242002_1.length : Int) then (spec_TurnPicture.l0 k1 l0_2 (l0_2.length : Int) (wrap64 (x20_1 + 1)) a0_0 a0_1 l0_2 t1236 t1237 (x1242002_1.set ((ji22) : Int).toNat (rd l0_2 x20_1))) else (none)) else (none)) = some (r1, r2, r3) := by first | (rw [hji22] at H; exact H) | (simp only [hji22] at H ⊢; exact H)
                have hji22w : (IntKind.i64.wrap ((wrap64 ((wrap64 ((wrap64 (a0_0 - 1)) - (Int.tmod x20_1 a0_0))) * a0_1)) + (wrap64 (Int.tdiv x20_1 a0_0)))) = ji22 := (i64_w _).trans hji22
                by_cases c23 : 0 ≤ (ji22)
                · rw [if_pos c23] at H
                  have c23b0 : decide (0 ≤ (ji22)) = true := decide_eq_true c23
                  clear c23
                  by_cases c24 : (ji22) < (x1242002_1.length : Int)
                  · rw [if_pos c24] at H
                    have c24b0 : decide ((ji22) < (x1242002_1.length : Int)) = true := decide_eq_true c24
                    clear c24
                    obtain ⟨y1243, hy1243⟩ : ∃ y_ : List Int, y_ = (x1242002_1.set ((ji22) : Int).toNat (rd l0_2 x20_1)) := ⟨_, rfl⟩
                    replace H : (spec_TurnPicture.l0 k1 l0_2 (l0_2.length : Int) (wrap64 (x20_1 + 1)) a0_0 a0_1 l0_2 t1236 t1237 y1243) = some (r1, r2, r3) := by first | (rw [hy1243]; with_reducible exact H) | (have H2_ := (Option.bind_some _ _).symm.trans H; rw [hy1243]; with_reducible exact H2_) | (have H2_ := (Option.bind_some _ _).symm.trans H; with_reducible exact H2_) | with_reducible exact H | (rw [hy1243]; exact H) | exact H
                    have Ny1243 := Aside0.mk hy1243
                    clear hy1243
                    have H' := Aside0.mk H
                    clear H
                    have p1242 : 0 ≤ (x20_1 : Int) := of_decide_eq_true (by first | (with_reducible assumption) | assumption)
                    have q1242 : x20_1 < (l0_2.length : Int) := of_decide_eq_true (by first | (with_reducible assumption) | assumption)
                    obtain ⟨ad1242, e1242, hx1242_0⟩ := Kd.at_int HR0_2.out x20_1 p1242 q1242
                    cases e1242
                    replace hx1242_0 := (HB.out.cell (World.block_lt_of_cell? w _ hx1242_0)).trans hx1242_0
                    replace p1242 := eq_true p1242
                    replace q1242 := eq_true q1242
                    have hnb26 := NB1233_1234.out
                    have hnc26 := NB1234_1233.out
                    have hnb27 := NB1233_1241.out
                    have hnc27 := NB1241_1233.out
                    have hcz28_0 : wr.cell? ⟨gb1233, 0, none⟩ = some (.int .i64 a0_0) := (blk_cell BK1233.out 0).trans rfl
                    have hcz28_1 : wr.cell? ⟨gb1233, 1, none⟩ = some (.int .i64 a0_1) := (blk_cell BK1233.out 1).trans rfl
                    have hcz28_2 : wr.cell? ⟨gb1233, 2, none⟩ = some (.slice (some ad1242) l0_2.length c0_2) := (blk_cell BK1233.out 2).trans rfl
                    have hfz28_0 := blk_frozen BK1233.out 0
                    have hfz28_1 := blk_frozen BK1233.out 1
                    have hfz28_2 := blk_frozen BK1233.out 2
                    have hnb29 := NB1241_1234.out
                    have hnc29 := NB1234_1241.out
                    have hcz30_0 : wr.cell? ⟨gb1241, 0, none⟩ = some (.int .i64 t1236) := (blk_cell BK1241.out 0).trans rfl
                    have hcz30_1 : wr.cell? ⟨gb1241, 1, none⟩ = some (.int .i64 t1237) := (blk_cell BK1241.out 1).trans rfl
                    have hcz30_2 : wr.cell? ⟨gb1241, 2, none⟩ = some (u1242002) := (blk_cell BK1241.out 2).trans rfl
                    have hfz30_0 := blk_frozen BK1241.out 0
                    have hfz30_1 := blk_frozen BK1241.out 1
                    have hfz30_2 := blk_frozen BK1241.out 2
                    have p25 : 0 ≤ ((ji22) : Int) := of_decide_eq_true (by first | (with_reducible assumption) | assumption)
                    have q25 : ((ji22) : Int) < ((x1242002_1.length : Int) : Int) := of_decide_eq_true (by first | (with_reducible assumption) | assumption)
                    obtain ⟨go25, co25, eo25, gb25, gl25, cl25, HG25⟩ := Kd.R_form HO_1242002.out (by omega)
                    (first | cases eo25 | (injection eo25 with ea_ en_ ec_; (first | subst ea_ | (injection ea_ with ea_; subst ea_)); subst ec_; clear en_))
                    have GB25 := Aside0.mk gb25
                    have GG25 := Aside0.mk HG25
                    clear gb25 gl25 HG25
                    obtain ⟨hx25_0, hf25_0⟩ := Kd.R_celln 0 HO_1242002.out ((ji22) : Int) p25 q25
                    replace p25 := eq_true p25
                    replace q25 := eq_true q25
                    have HP31 := Kd.R_putg HO_1242002.out ((ji22) : Int) (rd l0_2 x20_1)
                    go_wp2_with (first | ((with_reducible refine gate_store (t := 3) (p := 46) rfl ?_); refine store_event (t := 3) (p := 46) (v := ?vo_w32) (w1 := (wr.setCell ⟨go25, ((ji22) : Int).toNat, none⟩ (.int .i64 (rd l0_2 x20_1)))) ?hg ?ho ?hn ?hr ?_; (case ho => rfl); (case hg => rfl); (case hn => rfl); (case hr => first | (go_simp; done) | (go_simp; rfl)); intro w32 hw; have hg : wr.grownBy w32 (some go25) := (by rw [hw]; exact HP31.2); have hp_ : Kd.R (Kd.int .i64) 3 w32 w.heap.size (fun _ => True) (.slice (some ⟨go25, 0, none⟩) x1242002_1.length co25) y1243 := (by rw [hw, Ny1243.out]; exact HP31.1); clear HP31; have n0_ := Aside0.mk (hp_); have n1_ := Aside0.mk (blk_grown (g := gb1233) (o := .cells #[.int .i64 a0_0, .int .i64 a0_1, .slice (some ad1242) l0_2.length c0_2] 37 (0, 0)) (by (with_reducible repeat (first | refine blk_drewN ?_ _ | refine blk_drew ?_ | refine blk_alloc ?_ _)); exact BK1233.out) hg (Kd.R_ne HO_1242002.out BK1233.out (by decide))); have n2_ := Aside0.mk (blk_grown (g := gb1234) (o := .cells #[.int .i64 0, .int .i64 0, .slice none 0 0] 37 (0, 0)) (by (with_reducible repeat (first | refine blk_drewN ?_ _ | refine blk_drew ?_ | refine blk_alloc ?_ _)); exact BK1234.out) hg (Kd.R_ne HO_1242002.out BK1234.out (by decide))); have n3_ := Aside0.mk (blk_grown (g := gb1241) (o := .cells #[.int .i64 t1236, .int .i64 t1237, .slice (some ⟨go25, 0, none⟩) x1242002_1.length co25] 37 (0, 0)) (by (with_reducible repeat (first | refine blk_drewN ?_ _ | refine blk_drew ?_ | refine blk_alloc ?_ _)); exact BK1241.out) hg (Kd.R_ne HO_1242002.out BK1241.out (by decide))); have n4_ := Aside0.mk ((by rw [hw]; exact below_set (HB.out) GB25.out : Below w.heap.size w w32)); clear HO_1242002; clear BK1233; clear BK1234; clear BK1241; clear HB; have HO_1242002 := n0_; have BK1233 := n1_; have BK1234 := n2_; have BK1241 := n3_; have HB := n4_; clear n0_ n1_ n2_ n3_ n4_; clear hg hw hp_))
                    go_roundg k1
                    case measure => have := HK1.out; omega
                    case rel => exact ⟨(wrap64 (x20_1 + 1)), (y1243), (.slice (some ⟨go25, 0, none⟩) x1242002_1.length co25), (by first | rfl | (simp; done) | (simp [*]; done)), H', ⟨by have := HK1.out; omega⟩, ⟨by (with_reducible repeat (first | apply Kd.R_alloc | apply Kd.R_drewN | apply Kd.R_drew)); exact HO_1242002.out⟩, ⟨by (with_reducible repeat (first | refine blk_drewN ?_ _ | refine blk_drew ?_ | refine blk_alloc ?_ _)); exact BK1233.out⟩, ⟨by (with_reducible repeat (first | refine blk_drewN ?_ _ | refine blk_drew ?_ | refine blk_alloc ?_ _)); exact BK1234.out⟩, ⟨by (with_reducible repeat (first | refine blk_drewN ?_ _ | refine blk_drew ?_ | refine blk_alloc ?_ _)); exact BK1241.out⟩, ⟨by repeat (first | (with_reducible first | exact HB.out | apply below_alloc | apply pw_below_drewN | apply below_drew1 | refine below_set ?_ GE1233.out | refine below_set ?_ GE1234.out | refine below_set ?_ GE1241.out) | exact HB.out)⟩⟩
                  · rw [if_neg c24] at H
                    exact absurd H (by simp)
                · rw [if_neg c23] at H
                  exact absurd H (by simp)
            · rw [if_neg c20] at H
              exact absurd H (by simp)
          · rw [if_neg c19] at H
            exact absurd H (by simp)
        · rw [if_neg c18] at H
          have c18b0 : decide (x20_1 < (l0_2.length : Int)) = false := decide_eq_false c18
          clear c18
          simp only [Option.some.injEq, Prod.mk.injEq] at H
          obtain ⟨rfl, rfl, rfl⟩ := H
          have hnb33 := NB1241_1233.out
          have hnc33 := NB1233_1241.out
          have hnb34 := NB1241_1234.out
          have hnc34 := NB1234_1241.out
          have hcz35_0 : wr.cell? ⟨gb1241, 0, none⟩ = some (.int .i64 t1236) := (blk_cell BK1241.out 0).trans rfl
          have hcz35_1 : wr.cell? ⟨gb1241, 1, none⟩ = some (.int .i64 t1237) := (blk_cell BK1241.out 1).trans rfl
          have hcz35_2 : wr.cell? ⟨gb1241, 2, none⟩ = some (u1242002) := (blk_cell BK1241.out 2).trans rfl
          have hfz35_0 := blk_frozen BK1241.out 0
          have hfz35_1 := blk_frozen BK1241.out 1
          have hfz35_2 := blk_frozen BK1241.out 2
          have hnb36 := NB1234_1233.out
          have hnc36 := NB1233_1234.out
          have hcz37_0 : wr.cell? ⟨gb1234, 0, none⟩ = some (.int .i64 0) := (blk_cell BK1234.out 0).trans rfl
          have hcz37_1 : wr.cell? ⟨gb1234, 1, none⟩ = some (.int .i64 0) := (blk_cell BK1234.out 1).trans rfl
          have hcz37_2 : wr.cell? ⟨gb1234, 2, none⟩ = some (.slice none 0 0) := (blk_cell BK1234.out 2).trans rfl
          have hfz37_0 := blk_frozen BK1234.out 0
          have hfz37_1 := blk_frozen BK1234.out 1
          have hfz37_2 := blk_frozen BK1234.out 2
          obtain ⟨Ao38, co38, eo38⟩ := Kd.R_slice HO_1242002.out
          subst eo38
          go_wp2
          refine bodyPost_ret (results_cell_row rfl _ _ gb1234 37 #[.int .i64 t1236, .int .i64 t1237, .slice Ao38 x1242002_1.length co38] (0, 0) _ rfl (by (with_reducible repeat (first | refine blk_drewN ?_ _ | refine blk_drew ?_ | refine blk_alloc ?_ _)); refine blk_put (cs := #[.int .i64 t1236, .int .i64 t1237, .slice none 0 0]) ?_ 2 _ rfl; (with_reducible repeat (first | refine blk_drewN ?_ _ | refine blk_drew ?_ | refine blk_alloc ?_ _)); refine blk_put (cs := #[.int .i64 t1236, .int .i64 0, .slice none 0 0]) ?_ 1 _ rfl; (with_reducible repeat (first | refine blk_drewN ?_ _ | refine blk_drew ?_ | refine blk_alloc ?_ _)); refine blk_put (cs := #[.int .i64 0, .int .i64 0, .slice none 0 0]) ?_ 0 _ rfl; (with_reducible repeat (first | refine blk_drewN ?_ _ | refine blk_drew ?_ | refine blk_alloc ?_ _)); exact BK1234.out) Try.underlying37 rfl (by kernel_rfl)) rfl ?_
          exact ⟨_, by first | rfl | (simp [errW_none, errW_some] <;> rfl) | (simp [*, errW_none, errW_some] <;> rfl), by (with_reducible repeat (first | apply Kd.R_alloc | apply Kd.R_drewN | apply Kd.R_drew)); exact Kd.R_mono (Kd.R_far (p := ⟨gb1234, 2, none⟩) (Kd.R_far (p := ⟨gb1234, 1, none⟩) (Kd.R_far (p := ⟨gb1234, 0, none⟩) (Kd.R_types HO_1242002.out BK1234.out (by decide)) (fun _ hk => hk.2) (.int .i64 t1236)) (fun _ hk => hk.2) (.int .i64 t1237)) (fun _ hk => hk.2) (.slice Ao38 x1242002_1.length co38)) (fun _ hk => trivial), by repeat (first | (with_reducible first | exact HB.out | apply below_alloc | apply pw_below_drewN | apply below_drew1 | refine below_set ?_ GE1233.out | refine below_set ?_ GE1234.out | refine below_set ?_ GE1241.out) | exact HB.out)⟩
  · replace c3 := Bool.eq_false_iff.mpr c3
    subst c3
    have H1 : (some (0, 0, ([] : List Int))) = some (r1, r2, r3) := by rw [if_neg (show ¬ (false = true) by decide)] at H; exact H
    clear H
    have H := H1
    clear H1
    simp only [Option.some.injEq, Prod.mk.injEq] at H
    obtain ⟨rfl, rfl, rfl⟩ := H
    go_enter Try.func92, Try.ntmps92
    go_wp2_with (first | ((with_reducible refine gate_dst (N := 1) rfl ?_); refine box_event ?hg (N := 1) ?hd (cs := #[.int .i64 a0_0, .int .i64 a0_1, .slice A0_2 l0_2.length c0_2]) (t := 37) ?hr ?_; (case hd => rfl); (case hg => rfl); (case hr => first | (go_simp; done) | (go_simp; rfl)); intro gb1233 hg w39 hbox hb; have n0_ := Aside0.mk (below_step (by repeat (first | (with_reducible first | exact HB.out | apply below_alloc | apply pw_below_drewN | apply below_drew1) | exact HB.out)) hb); have n1_ := Aside0.mk (hbox); have n2_ := Aside0.mk ((by rw [hg]; exact (below_size (by repeat (first | (with_reducible first | exact HB.out | apply below_alloc | apply pw_below_drewN | apply below_drew1) | exact HB.out))) : w.heap.size ≤ gb1233)); have n3_ := Aside0.mk ((by rw [hg]; exact (below_size (by repeat (first | (with_reducible first | exact HB.out | apply below_alloc | apply pw_below_drewN | apply below_drew1) | exact HB.out))) : w.heap.size ≤ gb1233)); clear HB; have HB := n0_; have BK1233 := n1_; have GW1233 := n2_; have GE1233 := n3_; clear n0_ n1_ n2_ n3_; clear hb hbox hg) | ((with_reducible refine gate_dst (N := 2) rfl ?_); refine box_event ?hg (N := 2) ?hd (cs := #[.int .i64 0, .int .i64 0, .slice none 0 0]) (t := 37) ?hr ?_; (case hd => rfl); (case hg => rfl); (case hr => first | (go_simp; done) | (go_simp; rfl)); intro gb1234 hg w40 hbox hb; have n0_ := Aside0.mk (blk_below (g := gb1233) (o := .cells #[.int .i64 a0_0, .int .i64 a0_1, .slice A0_2 l0_2.length c0_2] 37 (0, 0)) (by (with_reducible repeat (first | refine blk_drewN ?_ _ | refine blk_drew ?_ | refine blk_alloc ?_ _)); exact BK1233.out) hb); have n1_ := Aside0.mk (below_step (by repeat (first | (with_reducible first | exact HB.out | apply below_alloc | apply pw_below_drewN | apply below_drew1 | refine below_set ?_ GE1233.out) | exact HB.out)) hb); have n2_ := Aside0.mk (hbox); have n3_ := Aside0.mk ((by rw [hg]; exact (below_size (by repeat (first | (with_reducible first | exact HB.out | apply below_alloc | apply pw_below_drewN | apply below_drew1 | refine below_set ?_ GE1233.out) | exact HB.out))) : w.heap.size ≤ gb1234)); have n4_ := Aside0.mk ((by rw [hg]; exact (below_size (by repeat (first | (with_reducible first | exact HB.out | apply below_alloc | apply pw_below_drewN | apply below_drew1 | refine below_set ?_ GE1233.out) | exact HB.out))) : w.heap.size ≤ gb1234)); have n5_ := Aside0.mk ((by rw [hg]; exact Nat.ne_of_lt (blk_lt (g := gb1233) (o := .cells #[.int .i64 a0_0, .int .i64 a0_1, .slice A0_2 l0_2.length c0_2] 37 (0, 0)) (by (with_reducible repeat (first | refine blk_drewN ?_ _ | refine blk_drew ?_ | refine blk_alloc ?_ _)); exact BK1233.out)) : gb1233 ≠ gb1234)); have n6_ := Aside0.mk ((by rw [hg]; exact Nat.ne_of_gt (blk_lt (g := gb1233) (o := .cells #[.int .i64 a0_0, .int .i64 a0_1, .slice A0_2 l0_2.length c0_2] 37 (0, 0)) (by (with_reducible repeat (first | refine blk_drewN ?_ _ | refine blk_drew ?_ | refine blk_alloc ?_ _)); exact BK1233.out)) : gb1234 ≠ gb1233)); clear BK1233; clear HB; have BK1233 := n0_; have HB := n1_; have BK1234 := n2_; have GW1234 := n3_; have GE1234 := n4_; have NB1233_1234 := n5_; have NB1234_1233 := n6_; clear n0_ n1_ n2_ n3_ n4_ n5_ n6_; clear hb hbox hg; have hnb41 := NB1233_1234.out; have hnc41 := NB1234_1233.out; have hcz42_0 : w40.cell? ⟨gb1233, 0, none⟩ = some (.int .i64 a0_0) := (blk_cell BK1233.out 0).trans rfl; have hcz42_1 : w40.cell? ⟨gb1233, 1, none⟩ = some (.int .i64 a0_1) := (blk_cell BK1233.out 1).trans rfl; have hcz42_2 : w40.cell? ⟨gb1233, 2, none⟩ = some (.slice A0_2 l0_2.length c0_2) := (blk_cell BK1233.out 2).trans rfl; have hfz42_0 := blk_frozen BK1233.out 0; have hfz42_1 := blk_frozen BK1233.out 1; have hfz42_2 := blk_frozen BK1233.out 2) | ((with_reducible refine gate_callee (f := 60) rfl ?_); refine goesL_ (some 9) rfl rfl Try.func60 (by kernel_rfl) rfl #[.agg #[.int .i64 a0_0, .int .i64 a0_1, .slice A0_2 l0_2.length c0_2]] rfl (by (try simp only [List.map_toArray, List.map_cons, List.map_nil]); first | done | rfl | (simp only [List.length_drop, List.length_take]; rfl)) ?_; (with_reducible refine (spec_IsPicture.calls k a0_0 a0_1 _ _ l0_2 false _ ?side1 ?side2 A2.out).mono ?_); (case side1 => repeat (first | exact (Kd.C_below HR0_2.out HB.out) | (with_reducible refine Kd.C_alloc ?_ _) | (with_reducible refine Kd.C_drewN ?_ _) | (with_reducible refine Kd.C_drew ?_))); (case side2 => exact HC0_2.out); rintro e w43 ⟨rfl, hb⟩; refine ⟨_, rfl, ?_⟩; have n0_ := Aside0.mk (blk_below (g := gb1233) (o := .cells #[.int .i64 a0_0, .int .i64 a0_1, .slice A0_2 l0_2.length c0_2] 37 (0, 0)) (by (with_reducible repeat (first | refine blk_drewN ?_ _ | refine blk_drew ?_ | refine blk_alloc ?_ _)); exact BK1233.out) hb); have n1_ := Aside0.mk (blk_below (g := gb1234) (o := .cells #[.int .i64 0, .int .i64 0, .slice none 0 0] 37 (0, 0)) (by (with_reducible repeat (first | refine blk_drewN ?_ _ | refine blk_drew ?_ | refine blk_alloc ?_ _)); exact BK1234.out) hb); have n2_ := Aside0.mk (below_step (by repeat (first | (with_reducible first | exact HB.out | apply below_alloc | apply pw_below_drewN | apply below_drew1 | refine below_set ?_ GE1233.out | refine below_set ?_ GE1234.out) | exact HB.out)) hb); clear BK1233; clear BK1234; clear HB; have BK1233 := n0_; have BK1234 := n1_; have HB := n2_; clear n0_ n1_ n2_; (try clear hb); (try clear hb2); (try clear hk); (try clear hi); have hcz44_0 : w43.cell? ⟨gb1234, 0, none⟩ = some (.int .i64 0) := (blk_cell BK1234.out 0).trans rfl; have hcz44_1 : w43.cell? ⟨gb1234, 1, none⟩ = some (.int .i64 0) := (blk_cell BK1234.out 1).trans rfl; have hcz44_2 : w43.cell? ⟨gb1234, 2, none⟩ = some (.slice none 0 0) := (blk_cell BK1234.out 2).trans rfl; have hfz44_0 := blk_frozen BK1234.out 0; have hfz44_1 := blk_frozen BK1234.out 1; have hfz44_2 := blk_frozen BK1234.out 2))
    refine bodyPost_ret (results_cell_row rfl _ _ gb1234 37 #[.int .i64 0, .int .i64 0, .slice none 0 0] (0, 0) _ rfl (by (with_reducible repeat (first | refine blk_drewN ?_ _ | refine blk_drew ?_ | refine blk_alloc ?_ _)); refine blk_put (cs := #[.int .i64 0, .int .i64 0, .slice none 0 0]) ?_ 2 _ rfl; (with_reducible repeat (first | refine blk_drewN ?_ _ | refine blk_drew ?_ | refine blk_alloc ?_ _)); refine blk_put (cs := #[.int .i64 0, .int .i64 0, .slice none 0 0]) ?_ 1 _ rfl; (with_reducible repeat (first | refine blk_drewN ?_ _ | refine blk_drew ?_ | refine blk_alloc ?_ _)); refine blk_put (cs := #[.int .i64 0, .int .i64 0, .slice none 0 0]) ?_ 0 _ rfl; (with_reducible repeat (first | refine blk_drewN ?_ _ | refine blk_drew ?_ | refine blk_alloc ?_ _)); exact BK1234.out) Try.underlying37 rfl (by kernel_rfl)) rfl ?_
    exact ⟨_, by first | rfl | (simp [errW_none, errW_some] <;> rfl) | (simp [*, errW_none, errW_some] <;> rfl), by first | exact Kd.R_nil _ _ _ _ _ | exact Kd.N_nil _ _ _ _ _ | exact Kd.V_nil _ _ _ _ _ | exact Kd.Q_nil _ _ _ _ _ | exact Kd.S_nil _ _ _ _ _, by repeat (first | (with_reducible first | exact HB.out | apply below_alloc | apply pw_below_drewN | apply below_drew1 | refine below_set ?_ GE1233.out | refine below_set ?_ GE1234.out) | exact HB.out)⟩

end Go.Proofs.Ytbgbbfdmgpcgmaa.P
