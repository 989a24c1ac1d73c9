-- Written by tools/seatprint.py (over the kit's print, changed in memory). Not trusted: Lean checks it.
import Derived.Test.YtdlehfnlibddcaaP0
import Derived.Test.YtdlehfnlibddcaaFspecIsPlate
import Derived.Test.YtdlehfnlibddcaaFspecl1Empty
import Derived.Test.YtdlehfnlibddcaaFspecIsPicture
namespace Go.Proofs.Ytdlehfnlibddcaa.P
open Go.RowKit Go.Proofs.YtdlehfnlibddcaaW.PrintWords Go.Proofs.YtdlehfnlibddcaaW.PrintLast Go.Proofs.YtdlehfnlibddcaaW.PrintMore
attribute [local go_sem] max2_int min2_int max_two min_two max_three min_three max_four min_four   -- for this text's walks alone
set_option linter.unusedVariables false
set_option linter.unusedSimpArgs false

/-! ### spec_NegativePicture: function 75 -/
mutual
def spec_NegativePicture.j0 : Nat → Int → Int → Int → List Int → Option (Int × Int × List Int)
  | 0, _, _, _, _ => none
  | k + 1, x3, x1210000, x1210001, x1210002 => (spec_l1Empty.f x1210000 x1210001).bind fun bt1213 => (spec_NegativePicture.l0 k x3 x1210002 (x1210002.length : Int) 0 bt1213.1 bt1213.2.1 bt1213.2.2)
def spec_NegativePicture.l0 : Nat → Int → List Int → Int → Int → Int → Int → List Int → Option (Int × Int × List Int)
  | 0, _, _, _, _, _, _, _ => none
  | k + 1, x3, x19, x20, x21, x1219000, x1219001, x1219002 => if x21 < x20 then (if 0 ≤ x21 then (if x21 < (x19.length : Int) then (if x21 < (x1219002.length : Int) then (spec_NegativePicture.l0 k x3 x19 x20 (wrap64 (x21 + 1)) x1219000 x1219001 (x1219002.set (x21 : Int).toNat (wrap64 (x3 - (rd x19 x21))))) else (none)) else (none)) else (none)) else (some (x1219000, x1219001, x1219002))
end
def spec_NegativePicture.f (k : Nat) (a0_0 : Int) (a0_1 : Int) (l0_2 : List Int) : Option (Int × Int × List Int) := (spec_IsPicture.f k a0_0 a0_1 l0_2).bind fun t1211 => (if t1211 = true then ((spec_IsPlate.f k a0_0 a0_1 l0_2).bind fun t1212 => (if t1212 = true then (spec_NegativePicture.j0 k 1 a0_0 a0_1 l0_2) else (spec_NegativePicture.j0 k 255 a0_0 a0_1 l0_2))) else (some (0, 0, ([] : List Int))))
theorem spec_NegativePicture.mono_l : ∀ k, (∀ y0 y1 y2 y3, LeO (spec_NegativePicture.j0 k y0 y1 y2 y3) (spec_NegativePicture.j0 (k + 1) y0 y1 y2 y3)) ∧ (∀ y0 y1 y2 y3 y4 y5 y6, LeO (spec_NegativePicture.l0 k y0 y1 y2 y3 y4 y5 y6) (spec_NegativePicture.l0 (k + 1) y0 y1 y2 y3 y4 y5 y6))
  | 0 => ⟨fun _ _ _ _ r h => by simp [spec_NegativePicture.j0] at h, fun _ _ _ _ _ _ _ r h => by simp [spec_NegativePicture.l0] at h⟩
  | k + 1 => by
    obtain ⟨ih0, ih1⟩ := spec_NegativePicture.mono_l k
    refine ⟨?_, ?_⟩
    · intro y0 y1 y2 y3
      unfold spec_NegativePicture.j0
      repeat' first
      | (with_reducible exact ih0 _ _ _ _)
      | (with_reducible exact ih1 _ _ _ _ _ _ _)
      | (with_reducible exact spec_IsPicture.mono _ _ _ _)
      | (with_reducible exact spec_IsPlate.mono _ _ _ _)
      | (with_reducible exact LeO.refl _)
      | (with_reducible exact LeO.none _)
      | (with_reducible refine LeO.ite ?_ ?_)
      | (with_reducible refine LeO.bind ?_ (fun _ => ?_))
      | exact ih0 _ _ _ _
      | exact ih1 _ _ _ _ _ _ _
      | exact spec_IsPicture.mono _ _ _ _
      | exact spec_IsPlate.mono _ _ _ _
      | exact LeO.none _
      | refine LeO.ite ?_ ?_
      | refine LeO.bind ?_ (fun _ => ?_)
    · intro y0 y1 y2 y3 y4 y5 y6
      unfold spec_NegativePicture.l0
      repeat' first
      | (with_reducible exact ih0 _ _ _ _)
      | (with_reducible exact ih1 _ _ _ _ _ _ _)
      | (with_reducible exact spec_IsPicture.mono _ _ _ _)
      | (with_reducible exact spec_IsPlate.mono _ _ _ _)
      | (with_reducible exact LeO.refl _)
      | (with_reducible exact LeO.none _)
      | (with_reducible refine LeO.ite ?_ ?_)
      | (with_reducible refine LeO.bind ?_ (fun _ => ?_))
      | exact ih0 _ _ _ _
      | exact ih1 _ _ _ _ _ _ _
      | exact spec_IsPicture.mono _ _ _ _
      | exact spec_IsPlate.mono _ _ _ _
      | exact LeO.none _
      | refine LeO.ite ?_ ?_
      | refine LeO.bind ?_ (fun _ => ?_)
theorem spec_NegativePicture.mono : ∀ a0 a1 a2 k, LeO (spec_NegativePicture.f k a0 a1 a2) (spec_NegativePicture.f (k + 1) a0 a1 a2) := by
  intro a0 a1 a2 k
  obtain ⟨ih0, ih1⟩ := spec_NegativePicture.mono_l k
  unfold spec_NegativePicture.f
  repeat' first
      | (with_reducible exact ih0 _ _ _ _)
      | (with_reducible exact ih1 _ _ _ _ _ _ _)
      | (with_reducible exact spec_IsPicture.mono _ _ _ _)
      | (with_reducible exact spec_IsPlate.mono _ _ _ _)
      | (with_reducible exact LeO.refl _)
      | (with_reducible exact LeO.none _)
      | (with_reducible refine LeO.ite ?_ ?_)
      | (with_reducible refine LeO.bind ?_ (fun _ => ?_))
      | exact ih0 _ _ _ _
      | exact ih1 _ _ _ _ _ _ _
      | exact spec_IsPicture.mono _ _ _ _
      | exact spec_IsPlate.mono _ _ _ _
      | exact LeO.none _
      | refine LeO.ite ?_ ?_
      | refine LeO.bind ?_ (fun _ => ?_)
set_option maxHeartbeats 8000000 in
set_option maxRecDepth 100000 in
theorem spec_NegativePicture.calls (k : Nat) (a0_0 : Int) (a0_1 : Int) (A0_2 : Option Addr) (c0_2 : Nat) (l0_2 : List Int) (r1 : Int) (r2 : Int) (r3 : List Int) (w : World) (hr0_2 : Kd.C (Kd.int .i64) w A0_2 l0_2.length l0_2) (hc0_2 : l0_2.length ≤ c0_2) (h : spec_NegativePicture.f k a0_0 a0_1 l0_2 = some (r1, r2, r3)) :
    Calls Try.prog 75 #[.agg #[.int .i64 a0_0, .int .i64 a0_1, .slice A0_2 l0_2.length c0_2]] w fun e w' => ∃ v2_ : Value, e = .returned (.agg #[.int .i64 r1, .int .i64 r2, v2_]) ∧ Kd.R (Kd.int .i64) 3 w' w.heap.size (fun _ => True) v2_ r3 ∧ Below w.heap.size w w' := by
  have hu41 := Try.underlying41
  have HR0_2 := Aside0.mk hr0_2
  have HC0_2 := Aside0.mk hc0_2
  clear hr0_2 hc0_2
  have HB := Aside0.mk (Below.refl w.heap.size w)
  have H : ((spec_IsPicture.f k a0_0 a0_1 l0_2).bind fun t1211 => (if t1211 = true then ((spec_IsPlate.f k a0_0 a0_1 l0_2).bind fun t1212 => (if t1212 = true then (spec_NegativePicture.j0 k 1 a0_0 a0_1 l0_2) else (spec_NegativePicture.j0 k 255 a0_0 a0_1 l0_2))) else (some (0, 0, ([] : List Int))))) = some (r1, r2, r3) := h
  clear h
  replace H := Option.bind_eq_some_iff.mp H
  obtain ⟨t1211, A20, H⟩ := H
  replace H : (if t1211 = true then ((spec_IsPlate.f k a0_0 a0_1 l0_2).bind fun t1212 => (if t1212 = true then (spec_NegativePicture.j0 k 1 a0_0 a0_1 l0_2) else (spec_NegativePicture.j0 k 255 a0_0 a0_1 l0_2))) else (some (0, 0, ([] : List Int)))) = some (r1, r2, r3) := H
  have A2 := Aside0.mk A20
  clear A20
  by_cases c3 : t1211 = true
  · subst c3
    have H1 : ((spec_IsPlate.f k a0_0 a0_1 l0_2).bind fun t1212 => (if t1212 = true then (spec_NegativePicture.j0 k 1 a0_0 a0_1 l0_2) else (spec_NegativePicture.j0 k 255 a0_0 a0_1 l0_2))) = some (r1, r2, r3) := by rw [if_pos rfl] at H; exact H
    clear H
    have H := H1
    clear H1
    replace H := Option.bind_eq_some_iff.mp H
    obtain ⟨t1212, A40, H⟩ := H
    replace H : (if t1212 = true then (spec_NegativePicture.j0 k 1 a0_0 a0_1 l0_2) else (spec_NegativePicture.j0 k 255 a0_0 a0_1 l0_2)) = some (r1, r2, r3) := H
    have A4 := Aside0.mk A40
    clear A40
    have HC5 := Aside0.mk H
    clear H
    go_enter Try.func75, Try.ntmps75
    go_upto_if 12 with (first | ((with_reducible refine gate_dst (N := 1) rfl ?_); refine box_event ?hg (N := 1) ?hd (cs := #[.int .i64 a0_0, .int .i64 a0_1, .slice A0_2 l0_2.length c0_2]) (t := 41) ?hr ?_; (case hd => rfl); (case hg => rfl); (case hr => first | (go_simp; done) | (go_simp; rfl)); intro gb1209 hg w6 hbox hb; have n0_ := Aside0.mk (below_step (by repeat (first | (with_reducible first | exact HB.out | apply below_alloc | apply pw_below_drewN | apply below_drew1) | exact HB.out)) hb); have n1_ := Aside0.mk (hbox); have n2_ := Aside0.mk ((by rw [hg]; exact (below_size (by repeat (first | (with_reducible first | exact HB.out | apply below_alloc | apply pw_below_drewN | apply below_drew1) | exact HB.out))) : w.heap.size ≤ gb1209)); have n3_ := Aside0.mk ((by rw [hg]; exact (below_size (by repeat (first | (with_reducible first | exact HB.out | apply below_alloc | apply pw_below_drewN | apply below_drew1) | exact HB.out))) : w.heap.size ≤ gb1209)); clear HB; have HB := n0_; have BK1209 := n1_; have GW1209 := n2_; have GE1209 := n3_; clear n0_ n1_ n2_ n3_; clear hb hbox hg) | ((with_reducible refine gate_dst (N := 2) rfl ?_); refine box_event ?hg (N := 2) ?hd (cs := #[.int .i64 0, .int .i64 0, .slice none 0 0]) (t := 41) ?hr ?_; (case hd => rfl); (case hg => rfl); (case hr => first | (go_simp; done) | (go_simp; rfl)); intro gb1210 hg w7 hbox hb; have n0_ := Aside0.mk (blk_below (g := gb1209) (o := .cells #[.int .i64 a0_0, .int .i64 a0_1, .slice A0_2 l0_2.length c0_2] 41 (0, 0)) (by (with_reducible repeat (first | refine blk_drewN ?_ _ | refine blk_drew ?_ | refine blk_alloc ?_ _)); exact BK1209.out) hb); have n1_ := Aside0.mk (below_step (by repeat (first | (with_reducible first | exact HB.out | apply below_alloc | apply pw_below_drewN | apply below_drew1 | refine below_set ?_ GE1209.out) | exact HB.out)) hb); have n2_ := Aside0.mk (hbox); have n3_ := Aside0.mk ((by rw [hg]; exact (below_size (by repeat (first | (with_reducible first | exact HB.out | apply below_alloc | apply pw_below_drewN | apply below_drew1 | refine below_set ?_ GE1209.out) | exact HB.out))) : w.heap.size ≤ gb1210)); have n4_ := Aside0.mk ((by rw [hg]; exact (below_size (by repeat (first | (with_reducible first | exact HB.out | apply below_alloc | apply pw_below_drewN | apply below_drew1 | refine below_set ?_ GE1209.out) | exact HB.out))) : w.heap.size ≤ gb1210)); have n5_ := Aside0.mk ((by rw [hg]; exact Nat.ne_of_lt (blk_lt (g := gb1209) (o := .cells #[.int .i64 a0_0, .int .i64 a0_1, .slice A0_2 l0_2.length c0_2] 41 (0, 0)) (by (with_reducible repeat (first | refine blk_drewN ?_ _ | refine blk_drew ?_ | refine blk_alloc ?_ _)); exact BK1209.out)) : gb1209 ≠ gb1210)); have n6_ := Aside0.mk ((by rw [hg]; exact Nat.ne_of_gt (blk_lt (g := gb1209) (o := .cells #[.int .i64 a0_0, .int .i64 a0_1, .slice A0_2 l0_2.length c0_2] 41 (0, 0)) (by (with_reducible repeat (first | refine blk_drewN ?_ _ | refine blk_drew ?_ | refine blk_alloc ?_ _)); exact BK1209.out)) : gb1210 ≠ gb1209)); clear BK1209; clear HB; have BK1209 := n0_; have HB := n1_; have BK1210 := n2_; have GW1210 := n3_; have GE1210 := n4_; have NB1209_1210 := n5_; have NB1210_1209 := n6_; clear n0_ n1_ n2_ n3_ n4_ n5_ n6_; clear hb hbox hg; have hnb8 := NB1209_1210.out; have hnc8 := NB1210_1209.out; have hcz9_0 : w7.cell? ⟨gb1209, 0, none⟩ = some (.int .i64 a0_0) := (blk_cell BK1209.out 0).trans rfl; have hcz9_1 : w7.cell? ⟨gb1209, 1, none⟩ = some (.int .i64 a0_1) := (blk_cell BK1209.out 1).trans rfl; have hcz9_2 : w7.cell? ⟨gb1209, 2, none⟩ = some (.slice A0_2 l0_2.length c0_2) := (blk_cell BK1209.out 2).trans rfl; have hfz9_0 := blk_frozen BK1209.out 0; have hfz9_1 := blk_frozen BK1209.out 1; have hfz9_2 := blk_frozen BK1209.out 2) | ((with_reducible refine gate_callee (f := 106) rfl ?_); refine goesL_ (some 8) rfl rfl Try.func106 (by kernel_rfl) rfl #[.agg #[.int .i64 a0_0, .int .i64 a0_1, .slice A0_2 l0_2.length c0_2]] rfl (by (try simp only [List.map_toArray, List.map_cons, List.map_nil]); first | done | rfl | (simp only [List.length_drop, List.length_take]; rfl)) ?_; (with_reducible refine (spec_IsPicture.calls k a0_0 a0_1 _ _ l0_2 true _ ?side1 ?side2 A2.out).mono ?_); (case side1 => repeat (first | exact (Kd.C_below HR0_2.out HB.out) | (with_reducible refine Kd.C_alloc ?_ _) | (with_reducible refine Kd.C_drewN ?_ _) | (with_reducible refine Kd.C_drew ?_))); (case side2 => exact HC0_2.out); rintro e w10 ⟨rfl, hb⟩; refine ⟨_, rfl, ?_⟩; have n0_ := Aside0.mk (blk_below (g := gb1209) (o := .cells #[.int .i64 a0_0, .int .i64 a0_1, .slice A0_2 l0_2.length c0_2] 41 (0, 0)) (by (with_reducible repeat (first | refine blk_drewN ?_ _ | refine blk_drew ?_ | refine blk_alloc ?_ _)); exact BK1209.out) hb); have n1_ := Aside0.mk (blk_below (g := gb1210) (o := .cells #[.int .i64 0, .int .i64 0, .slice none 0 0] 41 (0, 0)) (by (with_reducible repeat (first | refine blk_drewN ?_ _ | refine blk_drew ?_ | refine blk_alloc ?_ _)); exact BK1210.out) hb); have n2_ := Aside0.mk (below_step (by repeat (first | (with_reducible first | exact HB.out | apply below_alloc | apply pw_below_drewN | apply below_drew1 | refine below_set ?_ GE1209.out | refine below_set ?_ GE1210.out) | exact HB.out)) hb); clear BK1209; clear BK1210; clear HB; have BK1209 := n0_; have BK1210 := n1_; have HB := n2_; clear n0_ n1_ n2_; (try clear hb); (try clear hb2); (try clear hk); (try clear hi); have hcz11_0 : w10.cell? ⟨gb1209, 0, none⟩ = some (.int .i64 a0_0) := (blk_cell BK1209.out 0).trans rfl; have hcz11_1 : w10.cell? ⟨gb1209, 1, none⟩ = some (.int .i64 a0_1) := (blk_cell BK1209.out 1).trans rfl; have hcz11_2 : w10.cell? ⟨gb1209, 2, none⟩ = some (.slice A0_2 l0_2.length c0_2) := (blk_cell BK1209.out 2).trans rfl; have hfz11_0 := blk_frozen BK1209.out 0; have hfz11_1 := blk_frozen BK1209.out 1; have hfz11_2 := blk_frozen BK1209.out 2) | ((with_reducible refine gate_callee (f := 103) rfl ?_); refine goesL_ (some 12) rfl rfl Try.func103 (by kernel_rfl) rfl #[.agg #[.int .i64 a0_0, .int .i64 a0_1, .slice A0_2 l0_2.length c0_2]] rfl (by (try simp only [List.map_toArray, List.map_cons, List.map_nil]); first | done | rfl | (simp only [List.length_drop, List.length_take]; rfl)) ?_; (with_reducible refine (spec_IsPlate.calls k a0_0 a0_1 _ _ l0_2 t1212 _ ?side1 ?side2 A4.out).mono ?_); (case side1 => repeat (first | exact (Kd.C_below HR0_2.out HB.out) | (with_reducible refine Kd.C_alloc ?_ _) | (with_reducible refine Kd.C_drewN ?_ _) | (with_reducible refine Kd.C_drew ?_))); (case side2 => exact HC0_2.out); rintro e w12 ⟨rfl, hb⟩; refine ⟨_, rfl, ?_⟩; have n0_ := Aside0.mk (blk_below (g := gb1209) (o := .cells #[.int .i64 a0_0, .int .i64 a0_1, .slice A0_2 l0_2.length c0_2] 41 (0, 0)) (by (with_reducible repeat (first | refine blk_drewN ?_ _ | refine blk_drew ?_ | refine blk_alloc ?_ _)); exact BK1209.out) hb); have n1_ := Aside0.mk (blk_below (g := gb1210) (o := .cells #[.int .i64 0, .int .i64 0, .slice none 0 0] 41 (0, 0)) (by (with_reducible repeat (first | refine blk_drewN ?_ _ | refine blk_drew ?_ | refine blk_alloc ?_ _)); exact BK1210.out) hb); have n2_ := Aside0.mk (below_step (by repeat (first | (with_reducible first | exact HB.out | apply below_alloc | apply pw_below_drewN | apply below_drew1 | refine below_set ?_ GE1209.out | refine below_set ?_ GE1210.out) | exact HB.out)) hb); clear BK1209; clear BK1210; clear HB; have BK1209 := n0_; have BK1210 := n1_; have HB := n2_; clear n0_ n1_ n2_; (try clear hb); (try clear hb2); (try clear hk); (try clear hi)))
    (try simp only [Act.put, List.setIfInBounds_toArray, List.set_cons_zero, List.set_cons_succ])
    go_cut [3] (fun v3 wc => ∃ (kq : Nat) (x3_4 : Int), v3 = .int .i64 x3_4 ∧ Aside0 (spec_NegativePicture.j0 kq x3_4 a0_0 a0_1 l0_2 = some (r1, r2, r3)) ∧ Aside0 (kq ≤ k) ∧ Aside0 (wc.heap[gb1209]? = some (.cells #[.int .i64 a0_0, .int .i64 a0_1, (.slice A0_2 l0_2.length c0_2)] 41 (0, 0))) ∧ Aside0 (wc.heap[gb1210]? = some (.cells #[.int .i64 0, .int .i64 0, (.slice none 0 0)] 41 (0, 0))) ∧ Aside0 (Below w.heap.size w wc))
    case first =>
      have H := HC5.out
      clear HC5
      by_cases c13 : t1212 = true
      · subst c13
        have H1 : (spec_NegativePicture.j0 k 1 a0_0 a0_1 l0_2) = some (r1, r2, r3) := by rw [if_pos rfl] at H; exact H
        clear H
        have H := H1
        clear H1
        have H' := Aside0.mk H
        clear H
        go_wp2
        go_meet
        case rel => exact ⟨_, (1), (by first | rfl | (simp; done) | (simp [*]; done)), H', ⟨by first | omega | exact Nat.le_refl _⟩, ⟨by (with_reducible repeat (first | refine blk_drewN ?_ _ | refine blk_drew ?_ | refine blk_alloc ?_ _)); exact BK1209.out⟩, ⟨by (with_reducible repeat (first | refine blk_drewN ?_ _ | refine blk_drew ?_ | refine blk_alloc ?_ _)); exact BK1210.out⟩, ⟨by repeat (first | (with_reducible first | exact HB.out | apply below_alloc | apply pw_below_drewN | apply below_drew1 | refine below_set ?_ GE1209.out | refine below_set ?_ GE1210.out) | exact HB.out)⟩⟩
      · replace c13 := Bool.eq_false_iff.mpr c13
        subst c13
        have H1 : (spec_NegativePicture.j0 k 255 a0_0 a0_1 l0_2) = some (r1, r2, r3) := by rw [if_neg (show ¬ (false = true) by decide)] at H; exact H
        clear H
        have H := H1
        clear H1
        have H' := Aside0.mk H
        clear H
        go_wp2
        go_meet
        case rel => exact ⟨_, (255), (by first | rfl | (simp; done) | (simp [*]; done)), H', ⟨by first | omega | exact Nat.le_refl _⟩, ⟨by (with_reducible repeat (first | refine blk_drewN ?_ _ | refine blk_drew ?_ | refine blk_alloc ?_ _)); exact BK1209.out⟩, ⟨by (with_reducible repeat (first | refine blk_drewN ?_ _ | refine blk_drew ?_ | refine blk_alloc ?_ _)); exact BK1210.out⟩, ⟨by repeat (first | (with_reducible first | exact HB.out | apply below_alloc | apply pw_below_drewN | apply below_drew1 | refine below_set ?_ GE1209.out | refine below_set ?_ GE1210.out) | exact HB.out)⟩⟩
    case rest =>
      clear HC5
      try clear c1
      try clear p2
      try clear c3
      try clear c7
      try clear c8
      try clear c10
      try clear c13
      try clear hcz11_0
      try clear hcz11_1
      try clear hcz11_2
      try clear hcz9_0
      try clear hcz9_1
      try clear hcz9_2
      try clear hfz11_0
      try clear hfz11_1
      try clear hfz11_2
      try clear hfz9_0
      try clear hfz9_1
      try clear hfz9_2
      obtain ⟨kq, x3_4, rfl, HA, HJ4, BK1209, BK1210, HB⟩ := hcut
      cases kq with
      | zero => exact absurd HA.out (by simp [spec_NegativePicture.j0])
      | succ kj4 =>
        have H := HA.out
        clear HA
        simp only [spec_NegativePicture.j0] at H
        replace H := Option.bind_eq_some_iff.mp H
        obtain ⟨⟨t1213, t1214, t1215⟩, A140, H⟩ := H
        replace H : (spec_NegativePicture.l0 kj4 x3_4 l0_2 (l0_2.length : Int) 0 t1213 t1214 t1215) = some (r1, r2, r3) := H
        have A14 := Aside0.mk A140
        clear A140
        have H' := Aside0.mk H
        clear H
        have hnb15 := NB1209_1210.out
        have hnc15 := NB1210_1209.out
        have hcz16_0 : wc.cell? ⟨gb1209, 0, none⟩ = some (.int .i64 a0_0) := (blk_cell BK1209.out 0).trans rfl
        have hcz16_1 : wc.cell? ⟨gb1209, 1, none⟩ = some (.int .i64 a0_1) := (blk_cell BK1209.out 1).trans rfl
        have hcz16_2 : wc.cell? ⟨gb1209, 2, none⟩ = some (.slice A0_2 l0_2.length c0_2) := (blk_cell BK1209.out 2).trans rfl
        have hfz16_0 := blk_frozen BK1209.out 0
        have hfz16_1 := blk_frozen BK1209.out 1
        have hfz16_2 := blk_frozen BK1209.out 2
        go_wp2_with (first | ((with_reducible refine gate_callee (f := 104) rfl ?_); refine goesL_ (some 17) rfl rfl Try.func104 (by kernel_rfl) rfl #[.int .i64 a0_0, .int .i64 a0_1] rfl (by (try simp only [List.map_toArray, List.map_cons, List.map_nil]); first | done | rfl | (simp only [List.length_drop, List.length_take]; rfl)) ?_; (with_reducible refine (spec_l1Empty.calls a0_0 a0_1 t1213 t1214 t1215 _ A14.out).mono ?_); rintro e w17 ⟨v1216, rfl, ho0, hb⟩; refine ⟨_, rfl, ?_⟩; have n0_ := Aside0.mk (Kd.R_lower ho0 (below_size (by repeat (first | (with_reducible first | exact HB.out | apply below_alloc | apply pw_below_drewN | apply below_drew1 | refine below_set ?_ GE1209.out | refine below_set ?_ GE1210.out) | exact HB.out)))); have n1_ := Aside0.mk (blk_below (g := gb1209) (o := .cells #[.int .i64 a0_0, .int .i64 a0_1, .slice A0_2 l0_2.length c0_2] 41 (0, 0)) (by (with_reducible repeat (first | refine blk_drewN ?_ _ | refine blk_drew ?_ | refine blk_alloc ?_ _)); exact BK1209.out) hb); have n2_ := Aside0.mk (blk_below (g := gb1210) (o := .cells #[.int .i64 0, .int .i64 0, .slice none 0 0] 41 (0, 0)) (by (with_reducible repeat (first | refine blk_drewN ?_ _ | refine blk_drew ?_ | refine blk_alloc ?_ _)); exact BK1210.out) hb); have n3_ := Aside0.mk (below_step (by repeat (first | (with_reducible first | exact HB.out | apply below_alloc | apply pw_below_drewN | apply below_drew1 | refine below_set ?_ GE1209.out | refine below_set ?_ GE1210.out) | exact HB.out)) hb); clear BK1209; clear BK1210; clear HB; have HO1217 := n0_; have BK1209 := n1_; have BK1210 := n2_; have HB := n3_; clear n0_ n1_ n2_ n3_; (try clear hb); (try clear hb2); (try clear hk); (try clear hi); (try clear ho0)) | ((with_reducible refine gate_dst (N := 4) rfl ?_); refine box_event ?hg (N := 4) ?hd (cs := #[.int .i64 0, .int .i64 0, .slice none 0 0]) (t := 41) ?hr ?_; (case hd => rfl); (case hg => rfl); (case hr => first | (go_simp; done) | (go_simp; rfl)); intro gb1218 hg w18 hbox hb; have n0_ := Aside0.mk (Kd.R_below (by (with_reducible repeat (first | apply Kd.R_alloc | apply Kd.R_drewN | apply Kd.R_drew)); exact HO1217.out) hb); have n1_ := Aside0.mk (blk_below (g := gb1209) (o := .cells #[.int .i64 a0_0, .int .i64 a0_1, .slice A0_2 l0_2.length c0_2] 41 (0, 0)) (by (with_reducible repeat (first | refine blk_drewN ?_ _ | refine blk_drew ?_ | refine blk_alloc ?_ _)); exact BK1209.out) hb); have n2_ := Aside0.mk (blk_below (g := gb1210) (o := .cells #[.int .i64 0, .int .i64 0, .slice none 0 0] 41 (0, 0)) (by (with_reducible repeat (first | refine blk_drewN ?_ _ | refine blk_drew ?_ | refine blk_alloc ?_ _)); exact BK1210.out) hb); have n3_ := Aside0.mk (below_step (by repeat (first | (with_reducible first | exact HB.out | apply below_alloc | apply pw_below_drewN | apply below_drew1 | refine below_set ?_ GE1209.out | refine below_set ?_ GE1210.out) | exact HB.out)) hb); have n4_ := Aside0.mk (hbox); have n5_ := Aside0.mk ((by rw [hg]; exact (below_size (by repeat (first | (with_reducible first | exact HB.out | apply below_alloc | apply pw_below_drewN | apply below_drew1 | refine below_set ?_ GE1209.out | refine below_set ?_ GE1210.out) | exact HB.out))) : w.heap.size ≤ gb1218)); have n6_ := Aside0.mk ((by rw [hg]; exact (below_size (by repeat (first | (with_reducible first | exact HB.out | apply below_alloc | apply pw_below_drewN | apply below_drew1 | refine below_set ?_ GE1209.out | refine below_set ?_ GE1210.out) | exact HB.out))) : w.heap.size ≤ gb1218)); have n7_ := Aside0.mk ((by rw [hg]; exact Nat.ne_of_lt (blk_lt (g := gb1209) (o := .cells #[.int .i64 a0_0, .int .i64 a0_1, .slice A0_2 l0_2.length c0_2] 41 (0, 0)) (by (with_reducible repeat (first | refine blk_drewN ?_ _ | refine blk_drew ?_ | refine blk_alloc ?_ _)); exact BK1209.out)) : gb1209 ≠ gb1218)); have n8_ := Aside0.mk ((by rw [hg]; exact Nat.ne_of_gt (blk_lt (g := gb1209) (o := .cells #[.int .i64 a0_0, .int .i64 a0_1, .slice A0_2 l0_2.length c0_2] 41 (0, 0)) (by (with_reducible repeat (first | refine blk_drewN ?_ _ | refine blk_drew ?_ | refine blk_alloc ?_ _)); exact BK1209.out)) : gb1218 ≠ gb1209)); have n9_ := Aside0.mk ((by rw [hg]; exact Nat.ne_of_lt (blk_lt (g := gb1210) (o := .cells #[.int .i64 0, .int .i64 0, .slice none 0 0] 41 (0, 0)) (by (with_reducible repeat (first | refine blk_drewN ?_ _ | refine blk_drew ?_ | refine blk_alloc ?_ _)); exact BK1210.out)) : gb1210 ≠ gb1218)); have n10_ := Aside0.mk ((by rw [hg]; exact Nat.ne_of_gt (blk_lt (g := gb1210) (o := .cells #[.int .i64 0, .int .i64 0, .slice none 0 0] 41 (0, 0)) (by (with_reducible repeat (first | refine blk_drewN ?_ _ | refine blk_drew ?_ | refine blk_alloc ?_ _)); exact BK1210.out)) : gb1218 ≠ gb1210)); clear HO1217; clear BK1209; clear BK1210; clear HB; have HO1217 := n0_; have BK1209 := n1_; have BK1210 := n2_; have HB := n3_; have BK1218 := n4_; have GW1218 := n5_; have GE1218 := n6_; have NB1209_1218 := n7_; have NB1218_1209 := n8_; have NB1210_1218 := n9_; have NB1218_1210 := n10_; clear n0_ n1_ n2_ n3_ n4_ n5_ n6_ n7_ n8_ n9_ n10_; clear hb hbox hg; have hnb19 := NB1218_1209.out; have hnc19 := NB1209_1218.out; have hnb20 := NB1218_1210.out; have hnc20 := NB1210_1218.out; have hcz21_0 : w18.cell? ⟨gb1218, 0, none⟩ = some (.int .i64 0) := (blk_cell BK1218.out 0).trans rfl; have hcz21_1 : w18.cell? ⟨gb1218, 1, none⟩ = some (.int .i64 0) := (blk_cell BK1218.out 1).trans rfl; have hcz21_2 : w18.cell? ⟨gb1218, 2, none⟩ = some (.slice none 0 0) := (blk_cell BK1218.out 2).trans rfl; have hfz21_0 := blk_frozen BK1218.out 0; have hfz21_1 := blk_frozen BK1218.out 1; have hfz21_2 := blk_frozen BK1218.out 2; obtain ⟨Ao22, co22, eo22⟩ := Kd.R_slice HO1217.out; subst eo22; have hcz23_0 : w18.cell? ⟨gb1209, 0, none⟩ = some (.int .i64 a0_0) := (blk_cell BK1209.out 0).trans rfl; have hcz23_1 : w18.cell? ⟨gb1209, 1, none⟩ = some (.int .i64 a0_1) := (blk_cell BK1209.out 1).trans rfl; have hcz23_2 : w18.cell? ⟨gb1209, 2, none⟩ = some (.slice A0_2 l0_2.length c0_2) := (blk_cell BK1209.out 2).trans rfl; have hfz23_0 := blk_frozen BK1209.out 0; have hfz23_1 := blk_frozen BK1209.out 1; have hfz23_2 := blk_frozen BK1209.out 2))
        go_loopg [21] kj4 (fun kq v21 w' => ∃ (x21_2 : Int) (x1219002_2 : List Int) (u1219002 : Value), v21 = .int .i64 x21_2 ∧ Aside0 (spec_NegativePicture.l0 kq x3_4 l0_2 (l0_2.length : Int) x21_2 t1213 t1214 x1219002_2 = some (r1, r2, r3)) ∧ Aside0 (kq ≤ kj4) ∧ Aside0 (Kd.R (Kd.int .i64) 3 w' w.heap.size (fun _ => True) u1219002 x1219002_2) ∧ Aside0 (w'.heap[gb1209]? = some (.cells #[.int .i64 a0_0, .int .i64 a0_1, (.slice A0_2 l0_2.length c0_2)] 41 (0, 0))) ∧ Aside0 (w'.heap[gb1210]? = some (.cells #[.int .i64 0, .int .i64 0, (.slice none 0 0)] 41 (0, 0))) ∧ Aside0 (w'.heap[gb1218]? = some (.cells #[.int .i64 t1213, .int .i64 t1214, u1219002] 41 (0, 0))) ∧ Aside0 (Below w.heap.size w w'))
        case atStart => exact ⟨(0), (t1215), (.slice Ao22 t1215.length co22), (by first | rfl | (simp; done) | (simp [*]; done)), H', ⟨Nat.le_refl _⟩, ⟨by (with_reducible repeat (first | apply Kd.R_alloc | apply Kd.R_drewN | apply Kd.R_drew)); exact Kd.R_mono (Kd.R_far (p := ⟨gb1218, 2, none⟩) (Kd.R_far (p := ⟨gb1218, 1, none⟩) (Kd.R_far (p := ⟨gb1218, 0, none⟩) (Kd.R_types HO1217.out BK1218.out (by decide)) (fun _ hk => hk.2) (.int .i64 t1213)) (fun _ hk => hk.2) (.int .i64 t1214)) (fun _ hk => hk.2) (.slice Ao22 t1215.length co22)) (fun _ hk => trivial)⟩, ⟨by (with_reducible repeat (first | refine blk_drewN ?_ _ | refine blk_drew ?_ | refine blk_alloc ?_ _)); refine blk_far ?_ NB1209_1218.out _; (with_reducible repeat (first | refine blk_drewN ?_ _ | refine blk_drew ?_ | refine blk_alloc ?_ _)); refine blk_far ?_ NB1209_1218.out _; (with_reducible repeat (first | refine blk_drewN ?_ _ | refine blk_drew ?_ | refine blk_alloc ?_ _)); refine blk_far ?_ NB1209_1218.out _; (with_reducible repeat (first | refine blk_drewN ?_ _ | refine blk_drew ?_ | refine blk_alloc ?_ _)); exact BK1209.out⟩, ⟨by (with_reducible repeat (first | refine blk_drewN ?_ _ | refine blk_drew ?_ | refine blk_alloc ?_ _)); refine blk_far ?_ NB1210_1218.out _; (with_reducible repeat (first | refine blk_drewN ?_ _ | refine blk_drew ?_ | refine blk_alloc ?_ _)); refine blk_far ?_ NB1210_1218.out _; (with_reducible repeat (first | refine blk_drewN ?_ _ | refine blk_drew ?_ | refine blk_alloc ?_ _)); refine blk_far ?_ NB1210_1218.out _; (with_reducible repeat (first | refine blk_drewN ?_ _ | refine blk_drew ?_ | refine blk_alloc ?_ _)); exact BK1210.out⟩, ⟨by (with_reducible repeat (first | refine blk_drewN ?_ _ | refine blk_drew ?_ | refine blk_alloc ?_ _)); refine blk_put (cs := #[.int .i64 t1213, .int .i64 t1214, .slice none 0 0]) ?_ 2 _ rfl; (with_reducible repeat (first | refine blk_drewN ?_ _ | refine blk_drew ?_ | refine blk_alloc ?_ _)); refine blk_put (cs := #[.int .i64 t1213, .int .i64 0, .slice none 0 0]) ?_ 1 _ rfl; (with_reducible repeat (first | refine blk_drewN ?_ _ | refine blk_drew ?_ | refine blk_alloc ?_ _)); refine blk_put (cs := #[.int .i64 0, .int .i64 0, .slice none 0 0]) ?_ 0 _ rfl; (with_reducible repeat (first | refine blk_drewN ?_ _ | refine blk_drew ?_ | refine blk_alloc ?_ _)); exact BK1218.out⟩, ⟨by repeat (first | (with_reducible first | exact HB.out | apply below_alloc | apply pw_below_drewN | apply below_drew1 | refine below_set ?_ GE1209.out | refine below_set ?_ GE1210.out | refine below_set ?_ GE1218.out) | exact HB.out)⟩⟩
        case round =>
          clear H'
          try clear c1
          try clear c2
          try clear p2
          try clear c3
          try clear c7
          try clear c8
          try clear c10
          try clear c13
          try clear c15
          try clear c19
          try clear c20
          try clear hcz11_0
          try clear hcz11_1
          try clear hcz11_2
          try clear hcz16_0
          try clear hcz16_1
          try clear hcz16_2
          try clear hcz21_0
          try clear hcz21_1
          try clear hcz21_2
          try clear hcz23_0
          try clear hcz23_1
          try clear hcz23_2
          try clear hcz9_0
          try clear hcz9_1
          try clear hcz9_2
          try clear hfz11_0
          try clear hfz11_1
          try clear hfz11_2
          try clear hfz16_0
          try clear hfz16_1
          try clear hfz16_2
          try clear hfz21_0
          try clear hfz21_1
          try clear hfz21_2
          try clear hfz23_0
          try clear hfz23_1
          try clear hfz23_2
          try clear hfz9_0
          try clear hfz9_1
          try clear hfz9_2
          try clear p2
          obtain ⟨x21_2, x1219002_2, u1219002, rfl, HA, HK2, HO_1219002, BK1209, BK1210, BK1218, HB⟩ := hrel
          cases gk with
          | zero => exact absurd HA.out (by simp [spec_NegativePicture.l0])
          | succ k2 =>
            have H := HA.out
            clear HA
            simp only [spec_NegativePicture.l0] at H
            by_cases c24 : x21_2 < (l0_2.length : Int)
            · rw [if_pos c24] at H
              have c24b0 : decide (x21_2 < (l0_2.length : Int)) = true := decide_eq_true c24
              clear c24
              by_cases c25 : 0 ≤ x21_2
              · rw [if_pos c25] at H
                have c25b0 : decide (0 ≤ x21_2) = true := decide_eq_true c25
                clear c25
                by_cases c26 : x21_2 < (l0_2.length : Int)
                · rw [if_pos c26] at H
                  have c26b0 : decide (x21_2 < (l0_2.length : Int)) = true := decide_eq_true c26
                  clear c26
                  by_cases c27 : x21_2 < (x1219002_2.length : Int)
                  · rw [if_pos c27] at H
                    have c27b0 : decide (x21_2 < (x1219002_2.length : Int)) = true := decide_eq_true c27
                    clear c27
                    obtain ⟨y1220, hy1220⟩ : ∃ y_ : List Int, y_ = (x1219002_2.set (x21_2 : Int).toNat (wrap64 (x3_4 - (rd l0_2 x21_2)))) := ⟨_, rfl⟩
                    replace H : (spec_NegativePicture.l0 k2 x3_4 l0_2 (l0_2.length : Int) (wrap64 (x21_2 + 1)) t1213 t1214 y1220) = some (r1, r2, r3) := by first | (rw [hy1220]; with_reducible exact H) | (have H2_ := (Option.bind_some _ _).symm.trans H; rw [hy1220]; with_reducible exact H2_) | (have H2_ := (Option.bind_some _ _).symm.trans H; with_reducible exact H2_) | with_reducible exact H | (rw [hy1220]; exact H) | exact H
                    have Ny1220 := Aside0.mk hy1220
                    clear hy1220
                    have H' := Aside0.mk H
                    clear H
                    have p1219 : 0 ≤ (x21_2 : Int) := of_decide_eq_true (by first | (with_reducible assumption) | assumption)
                    have q1219 : x21_2 < (l0_2.length : Int) := of_decide_eq_true (by first | (with_reducible assumption) | assumption)
                    obtain ⟨ad1219, e1219, hx1219_0⟩ := Kd.at_int HR0_2.out x21_2 p1219 q1219
                    cases e1219
                    replace hx1219_0 := (HB.out.cell (World.block_lt_of_cell? w _ hx1219_0)).trans hx1219_0
                    replace p1219 := eq_true p1219
                    replace q1219 := eq_true q1219
                    have hnb29 := NB1218_1209.out
                    have hnc29 := NB1209_1218.out
                    have hnb30 := NB1218_1210.out
                    have hnc30 := NB1210_1218.out
                    have hcz31_0 : wr.cell? ⟨gb1218, 0, none⟩ = some (.int .i64 t1213) := (blk_cell BK1218.out 0).trans rfl
                    have hcz31_1 : wr.cell? ⟨gb1218, 1, none⟩ = some (.int .i64 t1214) := (blk_cell BK1218.out 1).trans rfl
                    have hcz31_2 : wr.cell? ⟨gb1218, 2, none⟩ = some (u1219002) := (blk_cell BK1218.out 2).trans rfl
                    have hfz31_0 := blk_frozen BK1218.out 0
                    have hfz31_1 := blk_frozen BK1218.out 1
                    have hfz31_2 := blk_frozen BK1218.out 2
                    have p28 : 0 ≤ (x21_2 : Int) := of_decide_eq_true (by first | (with_reducible assumption) | assumption)
                    have q28 : (x21_2 : Int) < ((x1219002_2.length : Int) : Int) := of_decide_eq_true (by first | (with_reducible assumption) | assumption)
                    obtain ⟨go28, co28, eo28, gb28, gl28, cl28, HG28⟩ := Kd.R_form HO_1219002.out (by omega)
                    (first | cases eo28 | (injection eo28 with ea_ en_ ec_; (first | subst ea_ | (injection ea_ with ea_; subst ea_)); subst ec_; clear en_))
                    have GB28 := Aside0.mk gb28
                    have GG28 := Aside0.mk HG28
                    clear gb28 gl28 HG28
                    obtain ⟨hx28_0, hf28_0⟩ := Kd.R_celln 0 HO_1219002.out (x21_2 : Int) p28 q28
                    replace p28 := eq_true p28
                    replace q28 := eq_true q28
                    have HP32 := Kd.R_putg HO_1219002.out (x21_2 : Int) (wrap64 (x3_4 - (rd l0_2 x21_2)))
                    go_wp2_with (first | ((with_reducible refine gate_store (t := 3) (p := 32) rfl ?_); refine store_event (t := 3) (p := 32) (v := ?vo_w33) (w1 := (wr.setCell ⟨go28, (x21_2 : Int).toNat, none⟩ (.int .i64 (wrap64 (x3_4 - (rd l0_2 x21_2)))))) ?hg ?ho ?hn ?hr ?_; (case ho => rfl); (case hg => rfl); (case hn => rfl); (case hr => first | (go_simp; done) | (go_simp; rfl)); intro w33 hw; have hg : wr.grownBy w33 (some go28) := (by rw [hw]; exact HP32.2); have hp_ : Kd.R (Kd.int .i64) 3 w33 w.heap.size (fun _ => True) (.slice (some ⟨go28, 0, none⟩) x1219002_2.length co28) y1220 := (by rw [hw, Ny1220.out]; exact HP32.1); clear HP32; have n0_ := Aside0.mk (hp_); have n1_ := Aside0.mk (blk_grown (g := gb1209) (o := .cells #[.int .i64 a0_0, .int .i64 a0_1, .slice (some ad1219) l0_2.length c0_2] 41 (0, 0)) (by (with_reducible repeat (first | refine blk_drewN ?_ _ | refine blk_drew ?_ | refine blk_alloc ?_ _)); exact BK1209.out) hg (Kd.R_ne HO_1219002.out BK1209.out (by decide))); have n2_ := Aside0.mk (blk_grown (g := gb1210) (o := .cells #[.int .i64 0, .int .i64 0, .slice none 0 0] 41 (0, 0)) (by (with_reducible repeat (first | refine blk_drewN ?_ _ | refine blk_drew ?_ | refine blk_alloc ?_ _)); exact BK1210.out) hg (Kd.R_ne HO_1219002.out BK1210.out (by decide))); have n3_ := Aside0.mk (blk_grown (g := gb1218) (o := .cells #[.int .i64 t1213, .int .i64 t1214, .slice (some ⟨go28, 0, none⟩) x1219002_2.length co28] 41 (0, 0)) (by (with_reducible repeat (first | refine blk_drewN ?_ _ | refine blk_drew ?_ | refine blk_alloc ?_ _)); exact BK1218.out) hg (Kd.R_ne HO_1219002.out BK1218.out (by decide))); have n4_ := Aside0.mk ((by rw [hw]; exact below_set (HB.out) GB28.out : Below w.heap.size w w33)); clear HO_1219002; clear BK1209; clear BK1210; clear BK1218; clear HB; have HO_1219002 := n0_; have BK1209 := n1_; have BK1210 := n2_; have BK1218 := n3_; have HB := n4_; clear n0_ n1_ n2_ n3_ n4_; clear hg hw hp_))
                    go_roundg k2
                    case measure => have := HJ4.out; have := HK2.out; omega
                    case rel => exact ⟨(wrap64 (x21_2 + 1)), (y1220), (.slice (some ⟨go28, 0, none⟩) x1219002_2.length co28), (by first | rfl | (simp; done) | (simp [*]; done)), H', ⟨by have := HJ4.out; have := HK2.out; omega⟩, ⟨by (with_reducible repeat (first | apply Kd.R_alloc | apply Kd.R_drewN | apply Kd.R_drew)); exact HO_1219002.out⟩, ⟨by (with_reducible repeat (first | refine blk_drewN ?_ _ | refine blk_drew ?_ | refine blk_alloc ?_ _)); exact BK1209.out⟩, ⟨by (with_reducible repeat (first | refine blk_drewN ?_ _ | refine blk_drew ?_ | refine blk_alloc ?_ _)); exact BK1210.out⟩, ⟨by (with_reducible repeat (first | refine blk_drewN ?_ _ | refine blk_drew ?_ | refine blk_alloc ?_ _)); exact BK1218.out⟩, ⟨by repeat (first | (with_reducible first | exact HB.out | apply below_alloc | apply pw_below_drewN | apply below_drew1 | refine below_set ?_ GE1209.out | refine below_set ?_ GE1210.out | refine below_set ?_ GE1218.out) | exact HB.out)⟩⟩
                  · rw [if_neg c27] at H
                    exact absurd H (by simp)
                · rw [if_neg c26] at H
                  exact absurd H (by simp)
              · rw [if_neg c25] at H
                exact absurd H (by simp)
            · rw [if_neg c24] at H
              have c24b0 : decide (x21_2 < (l0_2.length : Int)) = false := decide_eq_false c24
              clear c24
              simp only [Option.some.injEq, Prod.mk.injEq] at H
              obtain ⟨rfl, rfl, rfl⟩ := H
              have hnb34 := NB1218_1209.out
              have hnc34 := NB1209_1218.out
              have hnb35 := NB1218_1210.out
              have hnc35 := NB1210_1218.out
              have hcz36_0 : wr.cell? ⟨gb1218, 0, none⟩ = some (.int .i64 t1213) := (blk_cell BK1218.out 0).trans rfl
              have hcz36_1 : wr.cell? ⟨gb1218, 1, none⟩ = some (.int .i64 t1214) := (blk_cell BK1218.out 1).trans rfl
              have hcz36_2 : wr.cell? ⟨gb1218, 2, none⟩ = some (u1219002) := (blk_cell BK1218.out 2).trans rfl
              have hfz36_0 := blk_frozen BK1218.out 0
              have hfz36_1 := blk_frozen BK1218.out 1
              have hfz36_2 := blk_frozen BK1218.out 2
              have hnb37 := NB1210_1209.out
              have hnc37 := NB1209_1210.out
              have hcz38_0 : wr.cell? ⟨gb1210, 0, none⟩ = some (.int .i64 0) := (blk_cell BK1210.out 0).trans rfl
              have hcz38_1 : wr.cell? ⟨gb1210, 1, none⟩ = some (.int .i64 0) := (blk_cell BK1210.out 1).trans rfl
              have hcz38_2 : wr.cell? ⟨gb1210, 2, none⟩ = some (.slice none 0 0) := (blk_cell BK1210.out 2).trans rfl
              have hfz38_0 := blk_frozen BK1210.out 0
              have hfz38_1 := blk_frozen BK1210.out 1
              have hfz38_2 := blk_frozen BK1210.out 2
              obtain ⟨Ao39, co39, eo39⟩ := Kd.R_slice HO_1219002.out
              subst eo39
              go_wp2
              refine bodyPost_ret (results_cell_row rfl _ _ gb1210 41 #[.int .i64 t1213, .int .i64 t1214, .slice Ao39 x1219002_2.length co39] (0, 0) _ rfl (by (with_reducible repeat (first | refine blk_drewN ?_ _ | refine blk_drew ?_ | refine blk_alloc ?_ _)); refine blk_put (cs := #[.int .i64 t1213, .int .i64 t1214, .slice none 0 0]) ?_ 2 _ rfl; (with_reducible repeat (first | refine blk_drewN ?_ _ | refine blk_drew ?_ | refine blk_alloc ?_ _)); refine blk_put (cs := #[.int .i64 t1213, .int .i64 0, .slice none 0 0]) ?_ 1 _ rfl; (with_reducible repeat (first | refine blk_drewN ?_ _ | refine blk_drew ?_ | refine blk_alloc ?_ _)); refine blk_put (cs := #[.int .i64 0, .int .i64 0, .slice none 0 0]) ?_ 0 _ rfl; (with_reducible repeat (first | refine blk_drewN ?_ _ | refine blk_drew ?_ | refine blk_alloc ?_ _)); exact BK1210.out) Try.underlying41 rfl (by kernel_rfl)) rfl ?_
              exact ⟨_, by first | rfl | (simp [errW_none, errW_some] <;> rfl) | (simp [*, errW_none, errW_some] <;> rfl), by (with_reducible repeat (first | apply Kd.R_alloc | apply Kd.R_drewN | apply Kd.R_drew)); exact Kd.R_mono (Kd.R_far (p := ⟨gb1210, 2, none⟩) (Kd.R_far (p := ⟨gb1210, 1, none⟩) (Kd.R_far (p := ⟨gb1210, 0, none⟩) (Kd.R_types HO_1219002.out BK1210.out (by decide)) (fun _ hk => hk.2) (.int .i64 t1213)) (fun _ hk => hk.2) (.int .i64 t1214)) (fun _ hk => hk.2) (.slice Ao39 x1219002_2.length co39)) (fun _ hk => trivial), by repeat (first | (with_reducible first | exact HB.out | apply below_alloc | apply pw_below_drewN | apply below_drew1 | refine below_set ?_ GE1209.out | refine below_set ?_ GE1210.out | refine below_set ?_ GE1218.out) | exact HB.out)⟩
  · replace c3 := Bool.eq_false_iff.mpr c3
    subst c3
    have H1 : (some (0, 0, ([] : List Int))) = some (r1, r2, r3) := by rw [if_neg (show ¬ (false = true) by decide)] at H; exact H
    clear H
    have H := H1
    clear H1
    simp only [Option.some.injEq, Prod.mk.injEq] at H
    obtain ⟨rfl, rfl, rfl⟩ := H
    go_enter Try.func75, Try.ntmps75
    go_wp2_with (first | ((with_reducible refine gate_dst (N := 1) rfl ?_); refine box_event ?hg (N := 1) ?hd (cs := #[.int .i64 a0_0, .int .i64 a0_1, .slice A0_2 l0_2.length c0_2]) (t := 41) ?hr ?_; (case hd => rfl); (case hg => rfl); (case hr => first | (go_simp; done) | (go_simp; rfl)); intro gb1209 hg w40 hbox hb; have n0_ := Aside0.mk (below_step (by repeat (first | (with_reducible first | exact HB.out | apply below_alloc | apply pw_below_drewN | apply below_drew1) | exact HB.out)) hb); have n1_ := Aside0.mk (hbox); have n2_ := Aside0.mk ((by rw [hg]; exact (below_size (by repeat (first | (with_reducible first | exact HB.out | apply below_alloc | apply pw_below_drewN | apply below_drew1) | exact HB.out))) : w.heap.size ≤ gb1209)); have n3_ := Aside0.mk ((by rw [hg]; exact (below_size (by repeat (first | (with_reducible first | exact HB.out | apply below_alloc | apply pw_below_drewN | apply below_drew1) | exact HB.out))) : w.heap.size ≤ gb1209)); clear HB; have HB := n0_; have BK1209 := n1_; have GW1209 := n2_; have GE1209 := n3_; clear n0_ n1_ n2_ n3_; clear hb hbox hg) | ((with_reducible refine gate_dst (N := 2) rfl ?_); refine box_event ?hg (N := 2) ?hd (cs := #[.int .i64 0, .int .i64 0, .slice none 0 0]) (t := 41) ?hr ?_; (case hd => rfl); (case hg => rfl); (case hr => first | (go_simp; done) | (go_simp; rfl)); intro gb1210 hg w41 hbox hb; have n0_ := Aside0.mk (blk_below (g := gb1209) (o := .cells #[.int .i64 a0_0, .int .i64 a0_1, .slice A0_2 l0_2.length c0_2] 41 (0, 0)) (by (with_reducible repeat (first | refine blk_drewN ?_ _ | refine blk_drew ?_ | refine blk_alloc ?_ _)); exact BK1209.out) hb); have n1_ := Aside0.mk (below_step (by repeat (first | (with_reducible first | exact HB.out | apply below_alloc | apply pw_below_drewN | apply below_drew1 | refine below_set ?_ GE1209.out) | exact HB.out)) hb); have n2_ := Aside0.mk (hbox); have n3_ := Aside0.mk ((by rw [hg]; exact (below_size (by repeat (first | (with_reducible first | exact HB.out | apply below_alloc | apply pw_below_drewN | apply below_drew1 | refine below_set ?_ GE1209.out) | exact HB.out))) : w.heap.size ≤ gb1210)); have n4_ := Aside0.mk ((by rw [hg]; exact (below_size (by repeat (first | (with_reducible first | exact HB.out | apply below_alloc | apply pw_below_drewN | apply below_drew1 | refine below_set ?_ GE1209.out) | exact HB.out))) : w.heap.size ≤ gb1210)); have n5_ := Aside0.mk ((by rw [hg]; exact Nat.ne_of_lt (blk_lt (g := gb1209) (o := .cells #[.int .i64 a0_0, .int .i64 a0_1, .slice A0_2 l0_2.length c0_2] 41 (0, 0)) (by (with_reducible repeat (first | refine blk_drewN ?_ _ | refine blk_drew ?_ | refine blk_alloc ?_ _)); exact BK1209.out)) : gb1209 ≠ gb1210)); have n6_ := Aside0.mk ((by rw [hg]; exact Nat.ne_of_gt (blk_lt (g := gb1209) (o := .cells #[.int .i64 a0_0, .int .i64 a0_1, .slice A0_2 l0_2.length c0_2] 41 (0, 0)) (by (with_reducible repeat (first | refine blk_drewN ?_ _ | refine blk_drew ?_ | refine blk_alloc ?_ _)); exact BK1209.out)) : gb1210 ≠ gb1209)); clear BK1209; clear HB; have BK1209 := n0_; have HB := n1_; have BK1210 := n2_; have GW1210 := n3_; have GE1210 := n4_; have NB1209_1210 := n5_; have NB1210_1209 := n6_; clear n0_ n1_ n2_ n3_ n4_ n5_ n6_; clear hb hbox hg; have hnb42 := NB1209_1210.out; have hnc42 := NB1210_1209.out; have hcz43_0 : w41.cell? ⟨gb1209, 0, none⟩ = some (.int .i64 a0_0) := (blk_cell BK1209.out 0).trans rfl; have hcz43_1 : w41.cell? ⟨gb1209, 1, none⟩ = some (.int .i64 a0_1) := (blk_cell BK1209.out 1).trans rfl; have hcz43_2 : w41.cell? ⟨gb1209, 2, none⟩ = some (.slice A0_2 l0_2.length c0_2) := (blk_cell BK1209.out 2).trans rfl; have hfz43_0 := blk_frozen BK1209.out 0; have hfz43_1 := blk_frozen BK1209.out 1; have hfz43_2 := blk_frozen BK1209.out 2) | ((with_reducible refine gate_callee (f := 106) rfl ?_); refine goesL_ (some 8) rfl rfl Try.func106 (by kernel_rfl) rfl #[.agg #[.int .i64 a0_0, .int .i64 a0_1, .slice A0_2 l0_2.length c0_2]] rfl (by (try simp only [List.map_toArray, List.map_cons, List.map_nil]); first | done | rfl | (simp only [List.length_drop, List.length_take]; rfl)) ?_; (with_reducible refine (spec_IsPicture.calls k a0_0 a0_1 _ _ l0_2 false _ ?side1 ?side2 A2.out).mono ?_); (case side1 => repeat (first | exact (Kd.C_below HR0_2.out HB.out) | (with_reducible refine Kd.C_alloc ?_ _) | (with_reducible refine Kd.C_drewN ?_ _) | (with_reducible refine Kd.C_drew ?_))); (case side2 => exact HC0_2.out); rintro e w44 ⟨rfl, hb⟩; refine ⟨_, rfl, ?_⟩; have n0_ := Aside0.mk (blk_below (g := gb1209) (o := .cells #[.int .i64 a0_0, .int .i64 a0_1, .slice A0_2 l0_2.length c0_2] 41 (0, 0)) (by (with_reducible repeat (first | refine blk_drewN ?_ _ | refine blk_drew ?_ | refine blk_alloc ?_ _)); exact BK1209.out) hb); have n1_ := Aside0.mk (blk_below (g := gb1210) (o := .cells #[.int .i64 0, .int .i64 0, .slice none 0 0] 41 (0, 0)) (by (with_reducible repeat (first | refine blk_drewN ?_ _ | refine blk_drew ?_ | refine blk_alloc ?_ _)); exact BK1210.out) hb); have n2_ := Aside0.mk (below_step (by repeat (first | (with_reducible first | exact HB.out | apply below_alloc | apply pw_below_drewN | apply below_drew1 | refine below_set ?_ GE1209.out | refine below_set ?_ GE1210.out) | exact HB.out)) hb); clear BK1209; clear BK1210; clear HB; have BK1209 := n0_; have BK1210 := n1_; have HB := n2_; clear n0_ n1_ n2_; (try clear hb); (try clear hb2); (try clear hk); (try clear hi); have hcz45_0 : w44.cell? ⟨gb1210, 0, none⟩ = some (.int .i64 0) := (blk_cell BK1210.out 0).trans rfl; have hcz45_1 : w44.cell? ⟨gb1210, 1, none⟩ = some (.int .i64 0) := (blk_cell BK1210.out 1).trans rfl; have hcz45_2 : w44.cell? ⟨gb1210, 2, none⟩ = some (.slice none 0 0) := (blk_cell BK1210.out 2).trans rfl; have hfz45_0 := blk_frozen BK1210.out 0; have hfz45_1 := blk_frozen BK1210.out 1; have hfz45_2 := blk_frozen BK1210.out 2))
    refine bodyPost_ret (results_cell_row rfl _ _ gb1210 41 #[.int .i64 0, .int .i64 0, .slice none 0 0] (0, 0) _ rfl (by (with_reducible repeat (first | refine blk_drewN ?_ _ | refine blk_drew ?_ | refine blk_alloc ?_ _)); refine blk_put (cs := #[.int .i64 0, .int .i64 0, .slice none 0 0]) ?_ 2 _ rfl; (with_reducible repeat (first | refine blk_drewN ?_ _ | refine blk_drew ?_ | refine blk_alloc ?_ _)); refine blk_put (cs := #[.int .i64 0, .int .i64 0, .slice none 0 0]) ?_ 1 _ rfl; (with_reducible repeat (first | refine blk_drewN ?_ _ | refine blk_drew ?_ | refine blk_alloc ?_ _)); refine blk_put (cs := #[.int .i64 0, .int .i64 0, .slice none 0 0]) ?_ 0 _ rfl; (with_reducible repeat (first | refine blk_drewN ?_ _ | refine blk_drew ?_ | refine blk_alloc ?_ _)); exact BK1210.out) Try.underlying41 rfl (by kernel_rfl)) rfl ?_
    exact ⟨_, by first | rfl | (simp [errW_none, errW_some] <;> rfl) | (simp [*, errW_none, errW_some] <;> rfl), by first | exact Kd.R_nil _ _ _ _ _ | exact Kd.N_nil _ _ _ _ _ | exact Kd.V_nil _ _ _ _ _ | exact Kd.Q_nil _ _ _ _ _ | exact Kd.S_nil _ _ _ _ _, by repeat (first | (with_reducible first | exact HB.out | apply below_alloc | apply pw_below_drewN | apply below_drew1 | refine below_set ?_ GE1209.out | refine below_set ?_ GE1210.out) | exact HB.out)⟩

end Go.Proofs.Ytdlehfnlibddcaa.P
