-- Written by tools/seatprint.py (over the kit's print, changed in memory). Not trusted: Lean checks it.
import Derived.Test.YtbgbbfdmgpcgmaaP0
import Derived.Test.YtbgbbfdmgpcgmaaFlawstotal
import Derived.Test.YtbgbbfdmgpcgmaaFspecIsPlate
import Derived.Test.YtbgbbfdmgpcgmaaFimplIsPlate
import Derived.Test.YtbgbbfdmgpcgmaaFspecMakePicture
import Derived.Test.YtbgbbfdmgpcgmaaFlawsfresh
import Derived.Test.YtbgbbfdmgpcgmaaFimplSumInk
import Derived.Test.YtbgbbfdmgpcgmaaFlawssame
import Derived.Test.YtbgbbfdmgpcgmaaFimplNegativePicture
import Derived.Test.YtbgbbfdmgpcgmaaFspecMakePlate
namespace Go.Proofs.Ytbgbbfdmgpcgmaa.P
open Go.RowKit Go.Proofs.YtbgbbfdmgpcgmaaW.PrintWords Go.Proofs.YtbgbbfdmgpcgmaaW.PrintLast Go.Proofs.YtbgbbfdmgpcgmaaW.PrintMore
attribute [local go_sem] max2_int min2_int max_two min_two max_three min_three max_four min_four   -- for this text's walks alone
set_option linter.unusedVariables false
set_option linter.unusedSimpArgs false

/-! ### laws_FnNegative: function 31 -/
def laws_FnNegative.j0 : Nat → List Int → Bool → Option (Bool)
  | 0, _, _ => none
  | k + 1, x0, x30 => if x30 = true then (some false) else ((laws_fresh.f k x0 3).bind fun t1575 => ((spec_MakePicture.f k t1575 9).bind fun bt1578 => ((spec_IsPlate.f k bt1578.1 bt1578.2.1 bt1578.2.2).bind fun t1584 => (if t1584 = true then (some true) else ((impl_NegativePicture.f bt1578.1 bt1578.2.1 bt1578.2.2).bind fun bt1585 => ((impl_SumInk.f k bt1585.1 bt1585.2.1 bt1585.2.2).bind fun t1591 => ((laws_total.f k bt1578.2.2).bind fun t1592 => (if (wrap64 (t1591 + t1592)) = (wrap64 (255 * (bt1578.2.2.length : Int))) then ((impl_IsPlate.f bt1585.1 bt1585.2.1 bt1585.2.2).bind fun t1593 => (if t1593 = true then (some true) else ((impl_NegativePicture.f bt1585.1 bt1585.2.1 bt1585.2.2).bind fun bt1594 => ((laws_same.f k bt1594.1 bt1594.2.1 bt1594.2.2 bt1578.1 bt1578.2.1 bt1578.2.2).bind fun t1599 => (some t1599))))) else (some false)))))))))
def laws_FnNegative.f (k : Nat) (l0 : List Int) : Option (Bool) := if (l0.length : Int) > 1048576 then (some true) else ((spec_MakePlate.f k l0 9).bind fun bt1555 => ((impl_NegativePicture.f bt1555.1 bt1555.2.1 bt1555.2.2).bind fun bt1561 => ((impl_NegativePicture.f bt1561.1 bt1561.2.1 bt1561.2.2).bind fun bt1567 => ((laws_same.f k bt1567.1 bt1567.2.1 bt1567.2.2 bt1555.1 bt1555.2.1 bt1555.2.2).bind fun t1572 => (if t1572 = true then ((impl_SumInk.f k bt1561.1 bt1561.2.1 bt1561.2.2).bind fun t1573 => ((laws_total.f k bt1555.2.2).bind fun t1574 => (laws_FnNegative.j0 k l0 ((wrap64 (t1573 + t1574)) != (bt1555.2.2.length : Int))))) else (laws_FnNegative.j0 k l0 true))))))
theorem laws_FnNegative.mono_l : ∀ k, (∀ y0 y1, LeO (laws_FnNegative.j0 k y0 y1) (laws_FnNegative.j0 (k + 1) y0 y1))
  | 0 => fun _ _ r h => by simp [laws_FnNegative.j0] at h
  | k + 1 => by
    have ih0 := laws_FnNegative.mono_l k
    · intro y0 y1
      unfold laws_FnNegative.j0
      repeat' first
      | (with_reducible exact ih0 _ _)
      | (with_reducible exact impl_SumInk.mono _ _ _ _)
      | (with_reducible exact laws_fresh.mono _ _ _)
      | (with_reducible exact laws_same.mono _ _ _ _ _ _ _)
      | (with_reducible exact laws_total.mono _ _)
      | (with_reducible exact spec_IsPlate.mono _ _ _ _)
      | (with_reducible exact spec_MakePicture.mono _ _ _)
      | (with_reducible exact spec_MakePlate.mono _ _ _)
      | (with_reducible exact LeO.refl _)
      | (with_reducible exact LeO.none _)
      | (with_reducible refine LeO.ite ?_ ?_)
      | (with_reducible refine LeO.bind ?_ (fun _ => ?_))
      | exact ih0 _ _
      | exact impl_SumInk.mono _ _ _ _
      | exact laws_fresh.mono _ _ _
      | exact laws_same.mono _ _ _ _ _ _ _
      | exact laws_total.mono _ _
      | exact spec_IsPlate.mono _ _ _ _
      | exact spec_MakePicture.mono _ _ _
      | exact spec_MakePlate.mono _ _ _
      | exact LeO.none _
      | refine LeO.ite ?_ ?_
      | refine LeO.bind ?_ (fun _ => ?_)
theorem laws_FnNegative.mono : ∀ a0 k, LeO (laws_FnNegative.f k a0) (laws_FnNegative.f (k + 1) a0) := by
  intro a0 k
  have ih0 := laws_FnNegative.mono_l k
  unfold laws_FnNegative.f
  repeat' first
      | (with_reducible exact ih0 _ _)
      | (with_reducible exact impl_SumInk.mono _ _ _ _)
      | (with_reducible exact laws_fresh.mono _ _ _)
      | (with_reducible exact laws_same.mono _ _ _ _ _ _ _)
      | (with_reducible exact laws_total.mono _ _)
      | (with_reducible exact spec_IsPlate.mono _ _ _ _)
      | (with_reducible exact spec_MakePicture.mono _ _ _)
      | (with_reducible exact spec_MakePlate.mono _ _ _)
      | (with_reducible exact LeO.refl _)
      | (with_reducible exact LeO.none _)
      | (with_reducible refine LeO.ite ?_ ?_)
      | (with_reducible refine LeO.bind ?_ (fun _ => ?_))
      | exact ih0 _ _
      | exact impl_SumInk.mono _ _ _ _
      | exact laws_fresh.mono _ _ _
      | exact laws_same.mono _ _ _ _ _ _ _
      | exact laws_total.mono _ _
      | exact spec_IsPlate.mono _ _ _ _
      | exact spec_MakePicture.mono _ _ _
      | exact spec_MakePlate.mono _ _ _
      | exact LeO.none _
      | refine LeO.ite ?_ ?_
      | refine LeO.bind ?_ (fun _ => ?_)
def laws_FnNegative.T5 : Bool × List (List Nat × List Nat) := (true, [([], []), ([0], [0]), ([], []), ([1, 2, 1], [1, 2]), ([3], [3]), ([4, 3], [4]), ([5], [5]), ([6, 5, 5], [5, 6]), ([5], [5]), ([8, 5], [5, 8]), ([9, 7, 5], [5, 9]), ([7, 10, 5], [5, 7, 10]), ([5], [5]), ([12, 5], [5, 12]), ([13, 5], [5, 13]), ([11, 14, 5], [5, 11, 14]), ([5, 15], [5, 15])])
def laws_FnNegative.B5 : List Nat := [0, 1, 0, 7, 15, 31, 63, 127, 63, 319, 1023, 2047, 63, 4159, 12351, 32767, 65535]
theorem laws_FnNegative.tab5 : rtab .any (opsOf Try.f31 5) = laws_FnNegative.T5 := by kernel_rfl
theorem laws_FnNegative.bits5 : waitsOk laws_FnNegative.T5.2 laws_FnNegative.B5 = true := by kernel_rfl
def laws_FnNegative.T11 : Bool × List (List Nat × List Nat) := (true, [([], []), ([0], [0]), ([], []), ([2], [2]), ([3, 1], [3]), ([1, 4], [1, 4]), ([], []), ([6], [6]), ([7], [7]), ([8], [8]), ([5, 9], [5, 9]), ([10, 4], [10]), ([11], [11]), ([12, 11, 11], [11, 12]), ([13, 13, 11], [11, 13]), ([14], [14]), ([15, 14, 14], [14, 15]), ([14], [14]), ([16, 17, 16, 14], [14, 16, 17]), ([14, 18, 11], [11, 14, 18]), ([11, 19], [11, 19]), ([20, 18, 0, 1, 2, 3, 4, 5, 6, 7, 8, 9, 10, 11, 12, 13, 14, 15, 16, 17, 18, 19, 20], [20])])
def laws_FnNegative.B11 : List Nat := [0, 1, 0, 4, 15, 31, 0, 64, 192, 448, 1023, 2047, 4095, 8191, 16383, 32767, 65535, 32767, 262143, 524287, 1048575, 2097151]
theorem laws_FnNegative.tab11 : rtab .any (opsOf Try.f31 11) = laws_FnNegative.T11 := by kernel_rfl
theorem laws_FnNegative.bits11 : waitsOk laws_FnNegative.T11.2 laws_FnNegative.B11 = true := by kernel_rfl
set_option maxHeartbeats 8000000 in
set_option maxRecDepth 100000 in
theorem laws_FnNegative.calls (k : Nat) (A0 : Option Addr) (c0 : Nat) (l0 : List Int) (r : Bool) (w : World) (hr0 : Kd.C (Kd.int .u8) w A0 l0.length l0) (hc0 : l0.length ≤ c0) (hT : Aside0 (r = true)) (h : laws_FnNegative.f k l0 = some r) :
    Calls Try.prog 31 #[.slice A0 l0.length c0] w fun e w' => e = .returned (.bool r) ∧ Below w.heap.size w w' := by
  have hu37 := Try.underlying37
  have HR0 := Aside0.mk hr0
  have HC0 := Aside0.mk hc0
  clear hr0 hc0
  have HB := Aside0.mk (Below.refl w.heap.size w)
  have H : (if (l0.length : Int) > 1048576 then (some true) else ((spec_MakePlate.f k l0 9).bind fun bt1555 => ((impl_NegativePicture.f bt1555.1 bt1555.2.1 bt1555.2.2).bind fun bt1561 => ((impl_NegativePicture.f bt1561.1 bt1561.2.1 bt1561.2.2).bind fun bt1567 => ((laws_same.f k bt1567.1 bt1567.2.1 bt1567.2.2 bt1555.1 bt1555.2.1 bt1555.2.2).bind fun t1572 => (if t1572 = true then ((impl_SumInk.f k bt1561.1 bt1561.2.1 bt1561.2.2).bind fun t1573 => ((laws_total.f k bt1555.2.2).bind fun t1574 => (laws_FnNegative.j0 k l0 ((wrap64 (t1573 + t1574)) != (bt1555.2.2.length : Int))))) else (laws_FnNegative.j0 k l0 true))))))) = some r := h
  clear h
  by_cases c2 : (l0.length : Int) > 1048576
  · rw [if_pos c2] at H
    have c2b0 : decide (1048576 < (l0.length : Int)) = true := decide_eq_true c2
    have c2b1 : decide (1048576 < l0.length) = true := decide_eq_true (by omega)
    clear c2
    obtain rfl := Option.some.inj H
    go_enter Try.func31, Try.ntmps31
    go_wp2
    go_ret
    exact ⟨by first | rfl | (simp [errW_none, errW_some] <;> rfl) | (simp [*, errW_none, errW_some] <;> rfl), by repeat (first | (with_reducible first | exact HB.out | apply below_alloc | apply pw_below_drewN | apply below_drew1) | exact HB.out)⟩
  · rw [if_neg c2] at H
    have c2b0 : decide (1048576 < (l0.length : Int)) = false := decide_eq_false c2
    have c2b1 : decide (1048576 < l0.length) = false := decide_eq_false (by omega)
    clear c2
    replace H := Option.bind_eq_some_iff.mp H
    obtain ⟨⟨t1555, t1556, t1557⟩, A30, H⟩ := H
    replace H : ((impl_NegativePicture.f t1555 t1556 t1557).bind fun bt1561 => ((impl_NegativePicture.f bt1561.1 bt1561.2.1 bt1561.2.2).bind fun bt1567 => ((laws_same.f k bt1567.1 bt1567.2.1 bt1567.2.2 t1555 t1556 t1557).bind fun t1572 => (if t1572 = true then ((impl_SumInk.f k bt1561.1 bt1561.2.1 bt1561.2.2).bind fun t1573 => ((laws_total.f k t1557).bind fun t1574 => (laws_FnNegative.j0 k l0 ((wrap64 (t1573 + t1574)) != (t1557.length : Int))))) else (laws_FnNegative.j0 k l0 true))))) = some r := H
    have A3 := Aside0.mk A30
    clear A30
    replace H := Option.bind_eq_some_iff.mp H
    obtain ⟨⟨t1561, t1562, t1563⟩, A40, H⟩ := H
    replace H : ((impl_NegativePicture.f t1561 t1562 t1563).bind fun bt1567 => ((laws_same.f k bt1567.1 bt1567.2.1 bt1567.2.2 t1555 t1556 t1557).bind fun t1572 => (if t1572 = true then ((impl_SumInk.f k t1561 t1562 t1563).bind fun t1573 => ((laws_total.f k t1557).bind fun t1574 => (laws_FnNegative.j0 k l0 ((wrap64 (t1573 + t1574)) != (t1557.length : Int))))) else (laws_FnNegative.j0 k l0 true)))) = some r := H
    have A4 := Aside0.mk A40
    clear A40
    have HC5 := Aside0.mk H
    clear H
    go_enter Try.func31, Try.ntmps31
    go_upto_region 5 with (first | ((with_reducible refine gate_callee (f := 98) rfl ?_); refine goesL_ (some 11) rfl rfl Try.func98 (by kernel_rfl) rfl #[.slice A0 l0.length c0, .int .i64 9] rfl (by (try simp only [List.map_toArray, List.map_cons, List.map_nil]); first | done | rfl | (simp only [List.length_drop, List.length_take]; rfl)) ?_; (with_reducible refine (spec_MakePlate.calls k _ _ l0 9 t1555 t1556 t1557 _ ?side1 ?side2 A3.out).mono ?_); (case side1 => repeat (first | exact HR0.out | (with_reducible refine Kd.C_alloc ?_ _) | (with_reducible refine Kd.C_drewN ?_ _) | (with_reducible refine Kd.C_drew ?_))); (case side2 => exact HC0.out); rintro e w6 ⟨v1558, rfl, ho0, hb⟩; refine ⟨_, rfl, ?_⟩; have n0_ := Aside0.mk (Kd.R_lower ho0 (below_size (by repeat (first | (with_reducible first | exact HB.out | apply below_alloc | apply pw_below_drewN | apply below_drew1) | exact HB.out)))); have n1_ := Aside0.mk (below_step (by repeat (first | (with_reducible first | exact HB.out | apply below_alloc | apply pw_below_drewN | apply below_drew1) | exact HB.out)) hb); clear HB; have HO1559 := n0_; have HB := n1_; clear n0_ n1_; (try clear hb); (try clear hb2); (try clear hk); (try clear hi); (try clear ho0)) | ((with_reducible refine gate_dst (N := 3) rfl ?_); refine box_event ?hg (N := 3) ?hd (cs := #[.int .i64 0, .int .i64 0, .slice none 0 0]) (t := 37) ?hr ?_; (case hd => rfl); (case hg => rfl); (case hr => first | (go_simp; done) | (go_simp; rfl)); intro gb1560 hg w7 hbox hb; have n0_ := Aside0.mk (Kd.R_below (by (with_reducible repeat (first | apply Kd.R_alloc | apply Kd.R_drewN | apply Kd.R_drew)); exact HO1559.out) hb); have n1_ := Aside0.mk (below_step (by repeat (first | (with_reducible first | exact HB.out | apply below_alloc | apply pw_below_drewN | apply below_drew1) | exact HB.out)) hb); have n2_ := Aside0.mk (hbox); have n3_ := Aside0.mk ((by rw [hg]; exact (below_size (by repeat (first | (with_reducible first | exact HB.out | apply below_alloc | apply pw_below_drewN | apply below_drew1) | exact HB.out))) : w.heap.size ≤ gb1560)); have n4_ := Aside0.mk ((by rw [hg]; exact (below_size (by repeat (first | (with_reducible first | exact HB.out | apply below_alloc | apply pw_below_drewN | apply below_drew1) | exact HB.out))) : w.heap.size ≤ gb1560)); clear HO1559; clear HB; have HO1559 := n0_; have HB := n1_; have BK1560 := n2_; have GW1560 := n3_; have GE1560 := n4_; clear n0_ n1_ n2_ n3_ n4_; clear hb hbox hg; have hcz8_0 : w7.cell? ⟨gb1560, 0, none⟩ = some (.int .i64 0) := (blk_cell BK1560.out 0).trans rfl; have hcz8_1 : w7.cell? ⟨gb1560, 1, none⟩ = some (.int .i64 0) := (blk_cell BK1560.out 1).trans rfl; have hcz8_2 : w7.cell? ⟨gb1560, 2, none⟩ = some (.slice none 0 0) := (blk_cell BK1560.out 2).trans rfl; have hfz8_0 := blk_frozen BK1560.out 0; have hfz8_1 := blk_frozen BK1560.out 1; have hfz8_2 := blk_frozen BK1560.out 2; obtain ⟨Ao9, co9, eo9⟩ := Kd.R_slice HO1559.out; subst eo9) | ((with_reducible refine gate_callee (f := 97) rfl ?_); refine goesL_ (some 13) rfl rfl Try.func97 (by kernel_rfl) rfl #[.agg #[.int .i64 t1555, .int .i64 t1556, .slice Ao9 t1557.length co9]] rfl (by (try simp only [List.map_toArray, List.map_cons, List.map_nil]); first | done | rfl | (simp only [List.length_drop, List.length_take]; rfl)) ?_; (with_reducible refine (impl_NegativePicture.calls t1555 t1556 _ _ t1557 t1561 t1562 t1563 _ ?side1 ?side2 A4.out).mono ?_); (case side1 => refine (Kd.R_reads' (e := 3) (base := w.heap.size) (ok := fun k_ => True) (n := t1557.length) (c := co9) ?_).2.2; exact (by (with_reducible repeat (first | apply Kd.R_alloc | apply Kd.R_drewN | apply Kd.R_drew)); exact (Kd.R_mono (Kd.R_far (p := ⟨gb1560, 2, none⟩) (Kd.R_far (p := ⟨gb1560, 1, none⟩) (Kd.R_far (p := ⟨gb1560, 0, none⟩) (Kd.R_types HO1559.out BK1560.out (by decide)) (fun _ hk => hk.2) (.int .i64 t1555)) (fun _ hk => hk.2) (.int .i64 t1556)) (fun _ hk => hk.2) (.slice Ao9 t1557.length co9)) (fun _ h_ => h_.1)))); (case side2 => exact (Kd.R_reads' HO1559.out).2.1); rintro e w10 ⟨v1564, rfl, ho0, hb⟩; refine ⟨_, rfl, ?_⟩; have n0_ := Aside0.mk (Kd.R_elder' (by (with_reducible repeat (first | apply Kd.R_alloc | apply Kd.R_drewN | apply Kd.R_drew)); exact (Kd.R_mono (Kd.R_far (p := ⟨gb1560, 2, none⟩) (Kd.R_far (p := ⟨gb1560, 1, none⟩) (Kd.R_far (p := ⟨gb1560, 0, none⟩) (Kd.R_types HO1559.out BK1560.out (by decide)) (fun _ hk => hk.2) (.int .i64 t1555)) (fun _ hk => hk.2) (.int .i64 t1556)) (fun _ hk => hk.2) (.slice Ao9 t1557.length co9)) (fun _ h_ => h_.1))) (Kd.R_base ho0) hb); have n1_ := Aside0.mk (Kd.R_lower (Kd.R_new' ho0 (Kd.R_lt (by (with_reducible repeat (first | apply Kd.R_alloc | apply Kd.R_drewN | apply Kd.R_drew)); exact (Kd.R_mono (Kd.R_far (p := ⟨gb1560, 2, none⟩) (Kd.R_far (p := ⟨gb1560, 1, none⟩) (Kd.R_far (p := ⟨gb1560, 0, none⟩) (Kd.R_types HO1559.out BK1560.out (by decide)) (fun _ hk => hk.2) (.int .i64 t1555)) (fun _ hk => hk.2) (.int .i64 t1556)) (fun _ hk => hk.2) (.slice Ao9 t1557.length co9)) (fun _ h_ => h_.1))))) (below_size (by repeat (first | (with_reducible first | exact HB.out | apply below_alloc | apply pw_below_drewN | apply below_drew1 | refine below_set ?_ GE1560.out) | exact HB.out)))); have n2_ := Aside0.mk (blk_below (g := gb1560) (o := .cells #[.int .i64 t1555, .int .i64 t1556, .slice Ao9 t1557.length co9] 37 (0, 0)) (by (with_reducible repeat (first | refine blk_drewN ?_ _ | refine blk_drew ?_ | refine blk_alloc ?_ _)); refine blk_put (cs := #[.int .i64 t1555, .int .i64 t1556, .slice none 0 0]) ?_ 2 _ rfl; (with_reducible repeat (first | refine blk_drewN ?_ _ | refine blk_drew ?_ | refine blk_alloc ?_ _)); refine blk_put (cs := #[.int .i64 t1555, .int .i64 0, .slice none 0 0]) ?_ 1 _ rfl; (with_reducible repeat (first | refine blk_drewN ?_ _ | refine blk_drew ?_ | refine blk_alloc ?_ _)); refine blk_put (cs := #[.int .i64 0, .int .i64 0, .slice none 0 0]) ?_ 0 _ rfl; (with_reducible repeat (first | refine blk_drewN ?_ _ | refine blk_drew ?_ | refine blk_alloc ?_ _)); exact BK1560.out) hb); have n3_ := Aside0.mk (below_step (by repeat (first | (with_reducible first | exact HB.out | apply below_alloc | apply pw_below_drewN | apply below_drew1 | refine below_set ?_ GE1560.out) | exact HB.out)) hb); clear HO1559; clear BK1560; clear HB; have HO1559 := n0_; have HO1565 := n1_; have BK1560 := n2_; have HB := n3_; clear n0_ n1_ n2_ n3_; (try clear hb); (try clear hb2); (try clear hk); (try clear hi); (try clear ho0)) | ((with_reducible refine gate_dst (N := 4) rfl ?_); refine box_event ?hg (N := 4) ?hd (cs := #[.int .i64 0, .int .i64 0, .slice none 0 0]) (t := 37) ?hr ?_; (case hd => rfl); (case hg => rfl); (case hr => first | (go_simp; done) | (go_simp; rfl)); intro gb1566 hg w11 hbox hb; have n0_ := Aside0.mk (Kd.R_below (by (with_reducible repeat (first | apply Kd.R_alloc | apply Kd.R_drewN | apply Kd.R_drew)); exact HO1559.out) hb); have n1_ := Aside0.mk (Kd.R_below (by (with_reducible repeat (first | apply Kd.R_alloc | apply Kd.R_drewN | apply Kd.R_drew)); exact HO1565.out) hb); have n2_ := Aside0.mk (blk_below (g := gb1560) (o := .cells #[.int .i64 t1555, .int .i64 t1556, .slice Ao9 t1557.length co9] 37 (0, 0)) (by (with_reducible repeat (first | refine blk_drewN ?_ _ | refine blk_drew ?_ | refine blk_alloc ?_ _)); exact BK1560.out) hb); have n3_ := Aside0.mk (below_step (by repeat (first | (with_reducible first | exact HB.out | apply below_alloc | apply pw_below_drewN | apply below_drew1 | refine below_set ?_ GE1560.out) | exact HB.out)) hb); have n4_ := Aside0.mk (hbox); have n5_ := Aside0.mk ((by rw [hg]; exact (below_size (by repeat (first | (with_reducible first | exact HB.out | apply below_alloc | apply pw_below_drewN | apply below_drew1 | refine below_set ?_ GE1560.out) | exact HB.out))) : w.heap.size ≤ gb1566)); have n6_ := Aside0.mk ((by rw [hg]; exact (below_size (by repeat (first | (with_reducible first | exact HB.out | apply below_alloc | apply pw_below_drewN | apply below_drew1 | refine below_set ?_ GE1560.out) | exact HB.out))) : w.heap.size ≤ gb1566)); have n7_ := Aside0.mk ((by rw [hg]; exact Nat.ne_of_lt (blk_lt (g := gb1560) (o := .cells #[.int .i64 t1555, .int .i64 t1556, .slice Ao9 t1557.length co9] 37 (0, 0)) (by (with_reducible repeat (first | refine blk_drewN ?_ _ | refine blk_drew ?_ | refine blk_alloc ?_ _)); exact BK1560.out)) : gb1560 ≠ gb1566)); have n8_ := Aside0.mk ((by rw [hg]; exact Nat.ne_of_gt (blk_lt (g := gb1560) (o := .cells #[.int .i64 t1555, .int .i64 t1556, .slice Ao9 t1557.length co9] 37 (0, 0)) (by (with_reducible repeat (first | refine blk_drewN ?_ _ | refine blk_drew ?_ | refine blk_alloc ?_ _)); exact BK1560.out)) : gb1566 ≠ gb1560)); clear HO1559; clear HO1565; clear BK1560; clear HB; have HO1559 := n0_; have HO1565 := n1_; have BK1560 := n2_; have HB := n3_; have BK1566 := n4_; have GW1566 := n5_; have GE1566 := n6_; have NB1560_1566 := n7_; have NB1566_1560 := n8_; clear n0_ n1_ n2_ n3_ n4_ n5_ n6_ n7_ n8_; clear hb hbox hg; have hnb12 := NB1566_1560.out; have hnc12 := NB1560_1566.out; have hcz13_0 : w11.cell? ⟨gb1566, 0, none⟩ = some (.int .i64 0) := (blk_cell BK1566.out 0).trans rfl; have hcz13_1 : w11.cell? ⟨gb1566, 1, none⟩ = some (.int .i64 0) := (blk_cell BK1566.out 1).trans rfl; have hcz13_2 : w11.cell? ⟨gb1566, 2, none⟩ = some (.slice none 0 0) := (blk_cell BK1566.out 2).trans rfl; have hfz13_0 := blk_frozen BK1566.out 0; have hfz13_1 := blk_frozen BK1566.out 1; have hfz13_2 := blk_frozen BK1566.out 2; obtain ⟨Ao14, co14, eo14⟩ := Kd.R_slice HO1565.out; subst eo14))
    (try simp only [Act.put, List.setIfInBounds_toArray, List.set_cons_zero, List.set_cons_succ])
    go_cut [30] (fun v30 wc => ∃ (kq : Nat) (x30_4 : Bool), v30 = .bool x30_4 ∧ Aside0 (laws_FnNegative.j0 kq l0 x30_4 = some r) ∧ Aside0 (kq ≤ k) ∧ Aside0 (Kd.R (Kd.int .i64) 3 wc w.heap.size (fun k_ => some k_ ≠ ((.slice Ao14 t1563.length co14) : Value).ownBlock) (.slice Ao9 t1557.length co9) t1557) ∧ Aside0 (Kd.R (Kd.int .i64) 3 wc w.heap.size (fun k_ => some k_ ≠ ((.slice Ao9 t1557.length co9) : Value).ownBlock) (.slice Ao14 t1563.length co14) t1563) ∧ Aside0 (wc.heap[gb1560]? = some (.cells #[.int .i64 t1555, .int .i64 t1556, (.slice Ao9 t1557.length co9)] 37 (0, 0))) ∧ Aside0 (wc.heap[gb1566]? = some (.cells #[.int .i64 t1561, .int .i64 t1562, (.slice Ao14 t1563.length co14)] 37 (0, 0))) ∧ Aside0 (Below w.heap.size w wc))
    case first =>
      have H := HC5.out
      clear HC5
      replace H := Option.bind_eq_some_iff.mp H
      obtain ⟨⟨t1567, t1568, t1569⟩, A150, H⟩ := H
      replace H : ((laws_same.f k t1567 t1568 t1569 t1555 t1556 t1557).bind fun t1572 => (if t1572 = true then ((impl_SumInk.f k t1561 t1562 t1563).bind fun t1573 => ((laws_total.f k t1557).bind fun t1574 => (laws_FnNegative.j0 k l0 ((wrap64 (t1573 + t1574)) != (t1557.length : Int))))) else (laws_FnNegative.j0 k l0 true))) = some r := H
      have A15 := Aside0.mk A150
      clear A150
      replace H := Option.bind_eq_some_iff.mp H
      obtain ⟨t1572, A160, H⟩ := H
      replace H : (if t1572 = true then ((impl_SumInk.f k t1561 t1562 t1563).bind fun t1573 => ((laws_total.f k t1557).bind fun t1574 => (laws_FnNegative.j0 k l0 ((wrap64 (t1573 + t1574)) != (t1557.length : Int))))) else (laws_FnNegative.j0 k l0 true)) = some r := H
      have A16 := Aside0.mk A160
      clear A160
      by_cases c17 : t1572 = true
      · subst c17
        have H1 : ((impl_SumInk.f k t1561 t1562 t1563).bind fun t1573 => ((laws_total.f k t1557).bind fun t1574 => (laws_FnNegative.j0 k l0 ((wrap64 (t1573 + t1574)) != (t1557.length : Int))))) = some r := by rw [if_pos rfl] at H; exact H
        clear H
        have H := H1
        clear H1
        replace H := Option.bind_eq_some_iff.mp H
        obtain ⟨t1573, A180, H⟩ := H
        replace H : ((laws_total.f k t1557).bind fun t1574 => (laws_FnNegative.j0 k l0 ((wrap64 (t1573 + t1574)) != (t1557.length : Int)))) = some r := H
        have A18 := Aside0.mk A180
        clear A180
        replace H := Option.bind_eq_some_iff.mp H
        obtain ⟨t1574, A190, H⟩ := H
        replace H : (laws_FnNegative.j0 k l0 ((wrap64 (t1573 + t1574)) != (t1557.length : Int))) = some r := H
        have A19 := Aside0.mk A190
        clear A190
        have H' := Aside0.mk H
        clear H
        try go_wp2
        have n0_ : Aside0 (Kd.R (Kd.int .i64) 3 (((w11.setCell ⟨gb1566, 0, none⟩ (.int .i64 t1561)).setCell ⟨gb1566, 1, none⟩ (.int .i64 t1562)).setCell ⟨gb1566, 2, none⟩ (.slice Ao14 t1563.length co14)) w.heap.size (fun k_ => some k_ ≠ (.slice Ao14 t1563.length co14 : Value).ownBlock) (.slice Ao9 t1557.length co9) t1557) := ⟨by (with_reducible repeat (first | apply Kd.R_alloc | apply Kd.R_drewN | apply Kd.R_drew)); exact Kd.R_mono (Kd.R_far (p := ⟨gb1566, 2, none⟩) (Kd.R_far (p := ⟨gb1566, 1, none⟩) (Kd.R_far (p := ⟨gb1566, 0, none⟩) (Kd.R_types HO1559.out BK1566.out (by decide)) (fun _ hk => hk.2) (.int .i64 t1561)) (fun _ hk => hk.2) (.int .i64 t1562)) (fun _ hk => hk.2) (.slice Ao14 t1563.length co14)) (fun _ hk => hk.1.2)⟩
        have n1_ : Aside0 (Kd.R (Kd.int .i64) 3 (((w11.setCell ⟨gb1566, 0, none⟩ (.int .i64 t1561)).setCell ⟨gb1566, 1, none⟩ (.int .i64 t1562)).setCell ⟨gb1566, 2, none⟩ (.slice Ao14 t1563.length co14)) w.heap.size (fun k_ => some k_ ≠ (.slice Ao9 t1557.length co9 : Value).ownBlock) (.slice Ao14 t1563.length co14) t1563) := ⟨by (with_reducible repeat (first | apply Kd.R_alloc | apply Kd.R_drewN | apply Kd.R_drew)); exact Kd.R_mono (Kd.R_far (p := ⟨gb1566, 2, none⟩) (Kd.R_far (p := ⟨gb1566, 1, none⟩) (Kd.R_far (p := ⟨gb1566, 0, none⟩) (Kd.R_types HO1565.out BK1566.out (by decide)) (fun _ hk => hk.2) (.int .i64 t1561)) (fun _ hk => hk.2) (.int .i64 t1562)) (fun _ hk => hk.2) (.slice Ao14 t1563.length co14)) (fun _ hk => hk.1.2)⟩
        have n2_ : Aside0 ((((w11.setCell ⟨gb1566, 0, none⟩ (.int .i64 t1561)).setCell ⟨gb1566, 1, none⟩ (.int .i64 t1562)).setCell ⟨gb1566, 2, none⟩ (.slice Ao14 t1563.length co14)).heap[gb1560]? = some (.cells #[.int .i64 t1555, .int .i64 t1556, .slice Ao9 t1557.length co9] 37 (0, 0))) := ⟨by (with_reducible repeat (first | refine blk_drewN ?_ _ | refine blk_drew ?_ | refine blk_alloc ?_ _)); refine blk_far ?_ NB1560_1566.out _; (with_reducible repeat (first | refine blk_drewN ?_ _ | refine blk_drew ?_ | refine blk_alloc ?_ _)); refine blk_far ?_ NB1560_1566.out _; (with_reducible repeat (first | refine blk_drewN ?_ _ | refine blk_drew ?_ | refine blk_alloc ?_ _)); refine blk_far ?_ NB1560_1566.out _; (with_reducible repeat (first | refine blk_drewN ?_ _ | refine blk_drew ?_ | refine blk_alloc ?_ _)); exact BK1560.out⟩
        have n3_ : Aside0 ((((w11.setCell ⟨gb1566, 0, none⟩ (.int .i64 t1561)).setCell ⟨gb1566, 1, none⟩ (.int .i64 t1562)).setCell ⟨gb1566, 2, none⟩ (.slice Ao14 t1563.length co14)).heap[gb1566]? = some (.cells #[.int .i64 t1561, .int .i64 t1562, .slice Ao14 t1563.length co14] 37 (0, 0))) := ⟨by (with_reducible repeat (first | refine blk_drewN ?_ _ | refine blk_drew ?_ | refine blk_alloc ?_ _)); refine blk_put (cs := #[.int .i64 t1561, .int .i64 t1562, .slice none 0 0]) ?_ 2 _ rfl; (with_reducible repeat (first | refine blk_drewN ?_ _ | refine blk_drew ?_ | refine blk_alloc ?_ _)); refine blk_put (cs := #[.int .i64 t1561, .int .i64 0, .slice none 0 0]) ?_ 1 _ rfl; (with_reducible repeat (first | refine blk_drewN ?_ _ | refine blk_drew ?_ | refine blk_alloc ?_ _)); refine blk_put (cs := #[.int .i64 0, .int .i64 0, .slice none 0 0]) ?_ 0 _ rfl; (with_reducible repeat (first | refine blk_drewN ?_ _ | refine blk_drew ?_ | refine blk_alloc ?_ _)); exact BK1566.out⟩
        have n4_ : Aside0 (Below w.heap.size w (((w11.setCell ⟨gb1566, 0, none⟩ (.int .i64 t1561)).setCell ⟨gb1566, 1, none⟩ (.int .i64 t1562)).setCell ⟨gb1566, 2, none⟩ (.slice Ao14 t1563.length co14))) := ⟨by repeat (first | (with_reducible first | exact HB.out | apply below_alloc | apply pw_below_drewN | apply below_drew1 | refine below_set ?_ GE1560.out | refine below_set ?_ GE1566.out) | exact HB.out)⟩
        (try clear HO1559)
        (try clear HO1565)
        (try clear BK1560)
        (try clear BK1566)
        (try clear HB)
        generalize (((w11.setCell ⟨gb1566, 0, none⟩ (.int .i64 t1561)).setCell ⟨gb1566, 1, none⟩ (.int .i64 t1562)).setCell ⟨gb1566, 2, none⟩ (.slice Ao14 t1563.length co14)) = w20 at n0_ n1_ n2_ n3_ n4_ ⊢
        have HO1559 := n0_
        have HO1565 := n1_
        have BK1560 := n2_
        have BK1566 := n3_
        have HB := n4_
        clear n0_ n1_ n2_ n3_ n4_
        have n0_ := Aside0.mk (Kd.R_drew HO1559.out)
        have n1_ := Aside0.mk (Kd.R_drew HO1565.out)
        have n2_ := Aside0.mk (blk_drew BK1560.out)
        have n3_ := Aside0.mk (blk_drew BK1566.out)
        have n4_ := Aside0.mk (below_drew1 HB.out)
        clear HO1559
        clear HO1565
        clear BK1560
        clear BK1566
        clear HB
        have HO1559 := n0_
        have HO1565 := n1_
        have BK1560 := n2_
        have BK1566 := n3_
        have HB := n4_
        clear n0_ n1_ n2_ n3_ n4_
        refine start_ (n := 17) (S := fun w' => w'.cell? ⟨gb1566, 0, none⟩ = some (.int .i64 t1561) ∧ w'.cell? ⟨gb1566, 1, none⟩ = some (.int .i64 t1562) ∧ w'.cell? ⟨gb1566, 2, none⟩ = some (.slice Ao14 t1563.length co14) ∧ w'.cell? ⟨gb1560, 0, none⟩ = some (.int .i64 t1555) ∧ w'.cell? ⟨gb1560, 1, none⟩ = some (.int .i64 t1556) ∧ w'.cell? ⟨gb1560, 2, none⟩ = some (.slice Ao9 t1557.length co9)) (ds := []) #[false, false, false, false, false, false, false, false, false, false, false, false, false, false, false, false, false] (by kernel_rfl) rfl rfl ⟨(blk_cell BK1566.out 0).trans rfl, (blk_cell BK1566.out 1).trans rfl, (blk_cell BK1566.out 2).trans rfl, (blk_cell BK1560.out 0).trans rfl, (blk_cell BK1560.out 1).trans rfl, (blk_cell BK1560.out 2).trans rfl⟩ (fun hHeld => ?_); refine with_tabW laws_FnNegative.tab5 laws_FnNegative.bits5 (fun HT_ HW_ => ?_)
        generalize w20.drew = w21 at HO1559 HO1565 BK1560 BK1566 HB hHeld ⊢
        refine take_ (i := 0) (N := some 14) (v := ?_) (a' := ?_) #[true, false, false, false, false, false, false, false, false, false, false, false, false, false, false, false, false] rfl rfl (take_ofW HT_.out HW_.out (by kernel_rfl)) (fun _ _ _ h => h) (Or.inl ⟨by rfl, ?_⟩) hHeld ?_ ?_
        rotate_left
        · rintro w' ⟨s0, s1, s2, s3, s4, s5⟩
          go_simp
          with_reducible rfl
        rotate_left
        · simp only [Act.put, List.setIfInBounds_toArray, List.set_cons_zero, List.set_cons_succ, i64_w, i32_w]
          rfl
        refine take_ (i := 2) (N := some 16) (v := ?_) (a' := ?_) #[true, false, true, false, false, false, false, false, false, false, false, false, false, false, false, false, false] rfl rfl (take_ofW HT_.out HW_.out (by kernel_rfl)) (fun _ _ _ h => h) (Or.inl ⟨by rfl, ?_⟩) hHeld ?_ ?_
        rotate_left
        · rintro w' ⟨s0, s1, s2, s3, s4, s5⟩
          go_simp
          with_reducible rfl
        rotate_left
        · simp only [Act.put, List.setIfInBounds_toArray, List.set_cons_zero, List.set_cons_succ, i64_w, i32_w]
          rfl
        refine one_ (i := 1) (N := some 15) #[true, true, true, false, false, false, false, false, false, false, false, false, false, false, false, false, false] rfl rfl (one_of HT_.out (by kernel_rfl)) (by decide) (fun K hK => ?_)
        refine goes_ Try.func97 (by kernel_rfl) rfl #[.agg #[.int .i64 t1561, .int .i64 t1562, .slice Ao14 t1563.length co14]] (by rfl) rfl rfl (by (try simp only [List.map_toArray, List.map_cons, List.map_nil]); first | done | rfl | (simp only [List.length_drop, List.length_take]; rfl)) ?_
        with_reducible refine (impl_NegativePicture.calls t1561 t1562 _ _ t1563 t1567 t1568 t1569 _ ?side1 ?side2 A15.out).mono ?_
        (case side1 => repeat (first | exact (Kd.R_reads' HO1565.out).2.2 | (with_reducible refine Kd.C_alloc ?_ _) | (with_reducible refine Kd.C_drewN ?_ _) | (with_reducible refine Kd.C_drew ?_)))
        (case side2 => exact (Kd.R_reads' HO1565.out).2.1)
        rintro e w22 ⟨v1570, rfl, ho0, hb⟩
        refine ⟨_, rfl, ?_⟩
        have n0_ := Aside0.mk (Kd.R_elder' (by (with_reducible repeat (first | apply Kd.R_alloc | apply Kd.R_drewN | apply Kd.R_drew)); exact HO1559.out) (Kd.R_base ho0) hb)
        have n1_ := Aside0.mk (Kd.R_elder' (by (with_reducible repeat (first | apply Kd.R_alloc | apply Kd.R_drewN | apply Kd.R_drew)); exact HO1565.out) (Kd.R_base ho0) hb)
        have n2_ := Aside0.mk (Kd.R_lower (Kd.R_new' (Kd.R_new' ho0 (Kd.R_lt (by (with_reducible repeat (first | apply Kd.R_alloc | apply Kd.R_drewN | apply Kd.R_drew)); exact HO1559.out))) (Kd.R_lt (by (with_reducible repeat (first | apply Kd.R_alloc | apply Kd.R_drewN | apply Kd.R_drew)); exact HO1565.out))) (below_size (by repeat (first | (with_reducible first | exact HB.out | apply below_alloc | apply pw_below_drewN | apply below_drew1 | refine below_set ?_ GE1560.out | refine below_set ?_ GE1566.out) | exact HB.out))))
        have n3_ := Aside0.mk (blk_below (g := gb1560) (o := .cells #[.int .i64 t1555, .int .i64 t1556, .slice Ao9 t1557.length co9] 37 (0, 0)) (by (with_reducible repeat (first | refine blk_drewN ?_ _ | refine blk_drew ?_ | refine blk_alloc ?_ _)); exact BK1560.out) hb)
        have n4_ := Aside0.mk (blk_below (g := gb1566) (o := .cells #[.int .i64 t1561, .int .i64 t1562, .slice Ao14 t1563.length co14] 37 (0, 0)) (by (with_reducible repeat (first | refine blk_drewN ?_ _ | refine blk_drew ?_ | refine blk_alloc ?_ _)); exact BK1566.out) hb)
        have n5_ := Aside0.mk (below_step (by repeat (first | (with_reducible first | exact HB.out | apply below_alloc | apply pw_below_drewN | apply below_drew1 | refine below_set ?_ GE1560.out | refine below_set ?_ GE1566.out) | exact HB.out)) hb)
        clear HO1559
        clear HO1565
        clear BK1560
        clear BK1566
        clear HB
        have HO1559 := n0_
        have HO1565 := n1_
        have HO1571 := n2_
        have BK1560 := n3_
        have BK1566 := n4_
        have HB := n5_
        clear n0_ n1_ n2_ n3_ n4_ n5_
        (try clear hb)
        (try clear hb2)
        (try clear hk)
        (try clear hi)
        (try clear ho0)
        obtain ⟨Ao23, co23, eo23⟩ := Kd.R_slice HO1571.out
        (first | subst eo23 | (injection eo23 with f1_ f2_ f3_; have f4_ := f1_.symm; have f5_ := f3_.symm; clear f1_ f2_ f3_; subst f4_; subst f5_))
        refine hK.out _ _ ⟨(blk_cell BK1566.out 0).trans rfl, (blk_cell BK1566.out 1).trans rfl, (blk_cell BK1566.out 2).trans rfl, (blk_cell BK1560.out 0).trans rfl, (blk_cell BK1560.out 1).trans rfl, (blk_cell BK1560.out 2).trans rfl⟩ (fun hHeld => ?_)
        clear hK K
        refine norm_ (a' := ?_) ?_ ?_
        rotate_left
        · show Act.put _ (some 15) _ = _
          simp only [Act.put, List.setIfInBounds_toArray, List.set_cons_zero, List.set_cons_succ, i64_w, i32_w]
          rfl
        refine one_ (i := 3) (N := some 17) #[true, true, true, true, false, false, false, false, false, false, false, false, false, false, false, false, false] rfl rfl (one_of HT_.out (by kernel_rfl)) (by decide) (fun K hK => ?_)
        refine goes_ Try.func85 (by kernel_rfl) rfl #[.agg #[.int .i64 t1567, .int .i64 t1568, .slice Ao23 t1569.length co23], .agg #[.int .i64 t1555, .int .i64 t1556, .slice Ao9 t1557.length co9]] (by rfl) rfl rfl (by (try simp only [List.map_toArray, List.map_cons, List.map_nil]); first | done | rfl | (simp only [List.length_drop, List.length_take]; rfl)) ?_
        with_reducible refine (laws_same.calls k t1567 t1568 _ _ t1569 t1555 t1556 _ _ t1557 true _ ?side1 ?side2 ?side3 ?side4 A16.out).mono ?_
        (case side1 => repeat (first | exact (Kd.R_reads' HO1571.out).2.2 | (with_reducible refine Kd.C_alloc ?_ _) | (with_reducible refine Kd.C_drewN ?_ _) | (with_reducible refine Kd.C_drew ?_)))
        (case side2 => exact (Kd.R_reads' HO1571.out).2.1)
        (case side3 => repeat (first | exact (Kd.R_reads' HO1559.out).2.2 | (with_reducible refine Kd.C_alloc ?_ _) | (with_reducible refine Kd.C_drewN ?_ _) | (with_reducible refine Kd.C_drew ?_)))
        (case side4 => exact (Kd.R_reads' HO1559.out).2.1)
        rintro e w24 ⟨rfl, hb⟩
        refine ⟨_, rfl, ?_⟩
        have n0_ := Aside0.mk (Kd.R_below (by (with_reducible repeat (first | apply Kd.R_alloc | apply Kd.R_drewN | apply Kd.R_drew)); exact HO1559.out) hb)
        have n1_ := Aside0.mk (Kd.R_below (by (with_reducible repeat (first | apply Kd.R_alloc | apply Kd.R_drewN | apply Kd.R_drew)); exact HO1565.out) hb)
        have n2_ := Aside0.mk (Kd.R_below (by (with_reducible repeat (first | apply Kd.R_alloc | apply Kd.R_drewN | apply Kd.R_drew)); exact HO1571.out) hb)
        have n3_ := Aside0.mk (blk_below (g := gb1560) (o := .cells #[.int .i64 t1555, .int .i64 t1556, .slice Ao9 t1557.length co9] 37 (0, 0)) (by (with_reducible repeat (first | refine blk_drewN ?_ _ | refine blk_drew ?_ | refine blk_alloc ?_ _)); exact BK1560.out) hb)
        have n4_ := Aside0.mk (blk_below (g := gb1566) (o := .cells #[.int .i64 t1561, .int .i64 t1562, .slice Ao14 t1563.length co14] 37 (0, 0)) (by (with_reducible repeat (first | refine blk_drewN ?_ _ | refine blk_drew ?_ | refine blk_alloc ?_ _)); exact BK1566.out) hb)
        have n5_ := Aside0.mk (below_step (by repeat (first | (with_reducible first | exact HB.out | apply below_alloc | apply pw_below_drewN | apply below_drew1 | refine below_set ?_ GE1560.out | refine below_set ?_ GE1566.out) | exact HB.out)) hb)
        clear HO1559
        clear HO1565
        clear HO1571
        clear BK1560
        clear BK1566
        clear HB
        have HO1559 := n0_
        have HO1565 := n1_
        have HO1571 := n2_
        have BK1560 := n3_
        have BK1566 := n4_
        have HB := n5_
        clear n0_ n1_ n2_ n3_ n4_ n5_
        (try clear hb)
        (try clear hb2)
        (try clear hk)
        (try clear hi)
        refine hK.out _ _ ⟨(blk_cell BK1566.out 0).trans rfl, (blk_cell BK1566.out 1).trans rfl, (blk_cell BK1566.out 2).trans rfl, (blk_cell BK1560.out 0).trans rfl, (blk_cell BK1560.out 1).trans rfl, (blk_cell BK1560.out 2).trans rfl⟩ (fun hHeld => ?_)
        clear hK K
        refine norm_ (a' := ?_) ?_ ?_
        rotate_left
        · show Act.put _ (some 17) _ = _
          simp only [Act.put, List.setIfInBounds_toArray, List.set_cons_zero, List.set_cons_succ, i64_w, i32_w]
          rfl
        refine pure_ (i := 4) (N := some 18) (v := ?_) (a' := ?_) #[true, true, true, true, true, false, false, false, false, false, false, false, false, false, false, false, false] rfl rfl (any_of HT_.out (by kernel_rfl)) (fun _ _ _ h => h) (Or.inl ⟨by rfl, ?_⟩) ?_ ?_
        rotate_left
        · intro w'
          go_simp
          with_reducible rfl
        rotate_left
        · simp only [Act.put, List.setIfInBounds_toArray, List.set_cons_zero, List.set_cons_succ, i64_w, i32_w]
          rfl
        refine pure_ (i := 5) (N := some 19) (v := ?_) (a' := ?_) #[true, true, true, true, true, true, false, false, false, false, false, false, false, false, false, false, false] rfl rfl (any_of HT_.out (by kernel_rfl)) (fun _ _ _ h => h) (Or.inl ⟨by rfl, ?_⟩) ?_ ?_
        rotate_left
        · intro w'
          go_simp
          with_reducible rfl
        rotate_left
        · simp only [Act.put, List.setIfInBounds_toArray, List.set_cons_zero, List.set_cons_succ, i64_w, i32_w]
          rfl
        refine pure_ (i := 8) (N := some 22) (v := ?_) (a' := ?_) #[true, true, true, true, true, true, false, false, true, false, false, false, false, false, false, false, false] rfl rfl (any_of HT_.out (by kernel_rfl)) (fun _ _ _ h => h) (Or.inl ⟨by rfl, ?_⟩) ?_ ?_
        rotate_left
        · intro w'
          go_simp
          with_reducible rfl
        rotate_left
        · simp only [Act.put, List.setIfInBounds_toArray, List.set_cons_zero, List.set_cons_succ, i64_w, i32_w]
          rfl
        refine pure_ (i := 12) (N := some 26) (v := ?_) (a' := ?_) #[true, true, true, true, true, true, false, false, true, false, false, false, true, false, false, false, false] rfl rfl (any_of HT_.out (by kernel_rfl)) (fun _ _ _ h => h) (Or.inl ⟨by rfl, ?_⟩) ?_ ?_
        rotate_left
        · intro w'
          go_simp
          with_reducible rfl
        rotate_left
        · simp only [Act.put, List.setIfInBounds_toArray, List.set_cons_zero, List.set_cons_succ, i64_w, i32_w]
          rfl
        refine take_ (i := 6) (N := some 20) (v := ?_) (a' := ?_) #[true, true, true, true, true, true, true, false, true, false, false, false, true, false, false, false, false] rfl rfl (take_ofW HT_.out HW_.out (by kernel_rfl)) (fun _ _ _ h => h) (Or.inl ⟨by rfl, ?_⟩) hHeld ?_ ?_
        rotate_left
        · rintro w' ⟨s0, s1, s2, s3, s4, s5⟩
          go_simp
          with_reducible rfl
        rotate_left
        · simp only [Act.put, List.setIfInBounds_toArray, List.set_cons_zero, List.set_cons_succ, i64_w, i32_w]
          rfl
        refine take_ (i := 9) (N := some 23) (v := ?_) (a' := ?_) #[true, true, true, true, true, true, true, false, true, true, false, false, true, false, false, false, false] rfl rfl (take_ofW HT_.out HW_.out (by kernel_rfl)) (fun _ _ _ h => h) (Or.inl ⟨by rfl, ?_⟩) hHeld ?_ ?_
        rotate_left
        · rintro w' ⟨s0, s1, s2, s3, s4, s5⟩
          go_simp
          with_reducible rfl
        rotate_left
        · simp only [Act.put, List.setIfInBounds_toArray, List.set_cons_zero, List.set_cons_succ, i64_w, i32_w]
          rfl
        refine take_ (i := 13) (N := some 27) (v := ?_) (a' := ?_) #[true, true, true, true, true, true, true, false, true, true, false, false, true, true, false, false, false] rfl rfl (take_ofW HT_.out HW_.out (by kernel_rfl)) (fun _ _ _ h => h) (Or.inl ⟨by rfl, ?_⟩) hHeld ?_ ?_
        rotate_left
        · rintro w' ⟨s0, s1, s2, s3, s4, s5⟩
          go_simp
          with_reducible rfl
        rotate_left
        · simp only [Act.put, List.setIfInBounds_toArray, List.set_cons_zero, List.set_cons_succ, i64_w, i32_w]
          rfl
        refine pure_ (i := 14) (N := some 28) (v := ?_) (a' := ?_) #[true, true, true, true, true, true, true, false, true, true, false, false, true, true, true, false, false] rfl rfl (any_of HT_.out (by kernel_rfl)) (fun _ _ _ h => h) (Or.inl ⟨by rfl, ?_⟩) ?_ ?_
        rotate_left
        · intro w'
          go_simp
          with_reducible rfl
        rotate_left
        · simp only [Act.put, List.setIfInBounds_toArray, List.set_cons_zero, List.set_cons_succ, i64_w, i32_w]
          rfl
        refine one_ (i := 7) (N := some 21) #[true, true, true, true, true, true, true, true, true, true, false, false, true, true, true, false, false] rfl rfl (one_of HT_.out (by kernel_rfl)) (by decide) (fun K hK => ?_)
        refine goes_ Try.func76 (by kernel_rfl) rfl #[.agg #[.int .i64 t1561, .int .i64 t1562, .slice Ao14 t1563.length co14]] (by rfl) rfl rfl (by (try simp only [List.map_toArray, List.map_cons, List.map_nil]); first | done | rfl | (simp only [List.length_drop, List.length_take]; rfl)) ?_
        with_reducible refine (impl_SumInk.calls k t1561 t1562 _ _ t1563 t1573 _ ?side1 ?side2 A18.out).mono ?_
        (case side1 => repeat (first | exact (Kd.R_reads' HO1565.out).2.2 | (with_reducible refine Kd.C_alloc ?_ _) | (with_reducible refine Kd.C_drewN ?_ _) | (with_reducible refine Kd.C_drew ?_)))
        (case side2 => exact (Kd.R_reads' HO1565.out).2.1)
        rintro e w25 ⟨rfl, hb⟩
        refine ⟨_, rfl, ?_⟩
        have n0_ := Aside0.mk (Kd.R_below (by (with_reducible repeat (first | apply Kd.R_alloc | apply Kd.R_drewN | apply Kd.R_drew)); exact HO1559.out) hb)
        have n1_ := Aside0.mk (Kd.R_below (by (with_reducible repeat (first | apply Kd.R_alloc | apply Kd.R_drewN | apply Kd.R_drew)); exact HO1565.out) hb)
        have n2_ := Aside0.mk (Kd.R_below (by (with_reducible repeat (first | apply Kd.R_alloc | apply Kd.R_drewN | apply Kd.R_drew)); exact HO1571.out) hb)
        have n3_ := Aside0.mk (blk_below (g := gb1560) (o := .cells #[.int .i64 t1555, .int .i64 t1556, .slice Ao9 t1557.length co9] 37 (0, 0)) (by (with_reducible repeat (first | refine blk_drewN ?_ _ | refine blk_drew ?_ | refine blk_alloc ?_ _)); exact BK1560.out) hb)
        have n4_ := Aside0.mk (blk_below (g := gb1566) (o := .cells #[.int .i64 t1561, .int .i64 t1562, .slice Ao14 t1563.length co14] 37 (0, 0)) (by (with_reducible repeat (first | refine blk_drewN ?_ _ | refine blk_drew ?_ | refine blk_alloc ?_ _)); exact BK1566.out) hb)
        have n5_ := Aside0.mk (below_step (by repeat (first | (with_reducible first | exact HB.out | apply below_alloc | apply pw_below_drewN | apply below_drew1 | refine below_set ?_ GE1560.out | refine below_set ?_ GE1566.out) | exact HB.out)) hb)
        clear HO1559
        clear HO1565
        clear HO1571
        clear BK1560
        clear BK1566
        clear HB
        have HO1559 := n0_
        have HO1565 := n1_
        have HO1571 := n2_
        have BK1560 := n3_
        have BK1566 := n4_
        have HB := n5_
        clear n0_ n1_ n2_ n3_ n4_ n5_
        (try clear hb)
        (try clear hb2)
        (try clear hk)
        (try clear hi)
        refine hK.out _ _ ⟨(blk_cell BK1566.out 0).trans rfl, (blk_cell BK1566.out 1).trans rfl, (blk_cell BK1566.out 2).trans rfl, (blk_cell BK1560.out 0).trans rfl, (blk_cell BK1560.out 1).trans rfl, (blk_cell BK1560.out 2).trans rfl⟩ (fun hHeld => ?_)
        clear hK K
        refine norm_ (a' := ?_) ?_ ?_
        rotate_left
        · show Act.put _ (some 21) _ = _
          simp only [Act.put, List.setIfInBounds_toArray, List.set_cons_zero, List.set_cons_succ, i64_w, i32_w]
          rfl
        refine one_ (i := 10) (N := some 24) #[true, true, true, true, true, true, true, true, true, true, true, false, true, true, true, false, false] rfl rfl (one_of HT_.out (by kernel_rfl)) (by decide) (fun K hK => ?_)
        refine goes_ Try.func55 (by kernel_rfl) rfl #[.slice Ao9 t1557.length co9] (by rfl) rfl rfl (by (try simp only [List.map_toArray, List.map_cons, List.map_nil]); first | done | rfl | (simp only [List.length_drop, List.length_take]; rfl)) ?_
        with_reducible refine (laws_total.calls k _ _ t1557 t1574 _ ?side1 ?side2 A19.out).mono ?_
        (case side1 => repeat (first | exact (Kd.R_reads' HO1559.out).2.2 | (with_reducible refine Kd.C_alloc ?_ _) | (with_reducible refine Kd.C_drewN ?_ _) | (with_reducible refine Kd.C_drew ?_)))
        (case side2 => exact (Kd.R_reads' HO1559.out).2.1)
        rintro e w' ⟨rfl, ⟨nd, rfl⟩⟩
        refine ⟨_, rfl, ?_⟩
        refine hK.out _ _ ⟨(blk_cell BK1566.out 0).trans rfl, (blk_cell BK1566.out 1).trans rfl, (blk_cell BK1566.out 2).trans rfl, (blk_cell BK1560.out 0).trans rfl, (blk_cell BK1560.out 1).trans rfl, (blk_cell BK1560.out 2).trans rfl⟩ (fun hHeld => ?_)
        clear hK K
        refine norm_ (a' := ?_) ?_ ?_
        rotate_left
        · show Act.put _ (some 24) _ = _
          simp only [Act.put, List.setIfInBounds_toArray, List.set_cons_zero, List.set_cons_succ, i64_w, i32_w]
          rfl
        refine pure_ (i := 11) (N := some 25) (v := ?_) (a' := ?_) #[true, true, true, true, true, true, true, true, true, true, true, true, true, true, true, false, false] rfl rfl (any_of HT_.out (by kernel_rfl)) (fun _ _ _ h => h) (Or.inl ⟨by rfl, ?_⟩) ?_ ?_
        rotate_left
        · intro w'
          go_simp
          with_reducible rfl
        rotate_left
        · simp only [Act.put, List.setIfInBounds_toArray, List.set_cons_zero, List.set_cons_succ, i64_w, i32_w]
          rfl
        refine pure_ (i := 15) (N := some 29) (v := ?_) (a' := ?_) #[true, true, true, true, true, true, true, true, true, true, true, true, true, true, true, true, false] rfl rfl (any_of HT_.out (by kernel_rfl)) (fun _ _ _ h => h) (Or.inl ⟨by rfl, ?_⟩) ?_ ?_
        rotate_left
        · intro w'
          go_simp
          with_reducible rfl
        rotate_left
        · simp only [Act.put, List.setIfInBounds_toArray, List.set_cons_zero, List.set_cons_succ, i64_w, i32_w]
          rfl
        refine pure_ (i := 16) (N := some 30) (v := ?_) (a' := ?_) #[true, true, true, true, true, true, true, true, true, true, true, true, true, true, true, true, true] rfl rfl (any_of HT_.out (by kernel_rfl)) (fun _ _ _ h => h) (Or.inl ⟨by rfl, ?_⟩) ?_ ?_
        rotate_left
        · intro w'
          go_simp
          with_reducible rfl
        rotate_left
        · simp only [Act.put, List.setIfInBounds_toArray, List.set_cons_zero, List.set_cons_succ, i64_w, i32_w]
          rfl
        refine done_ (done_of HT_.out (by kernel_rfl)) ?_
        try go_wp2
        go_meet
        case rel => exact ⟨_, (((wrap64 (t1573 + t1574)) != (t1557.length : Int))), (by first | rfl | (simp; done) | (simp [*]; done)), H', ⟨by first | omega | exact Nat.le_refl _⟩, ⟨by (with_reducible repeat (first | apply Kd.R_alloc | apply Kd.R_drewN | apply Kd.R_drew)); exact Kd.R_mono HO1559.out (fun _ hk => hk.1)⟩, ⟨by (with_reducible repeat (first | apply Kd.R_alloc | apply Kd.R_drewN | apply Kd.R_drew)); exact Kd.R_mono HO1565.out (fun _ hk => hk.1)⟩, ⟨by (with_reducible repeat (first | refine blk_drewN ?_ _ | refine blk_drew ?_ | refine blk_alloc ?_ _)); exact BK1560.out⟩, ⟨by (with_reducible repeat (first | refine blk_drewN ?_ _ | refine blk_drew ?_ | refine blk_alloc ?_ _)); exact BK1566.out⟩, ⟨by repeat (first | (with_reducible first | exact HB.out | apply below_alloc | apply pw_below_drewN | apply below_drew1 | refine below_set ?_ GE1560.out | refine below_set ?_ GE1566.out) | exact HB.out)⟩⟩
      · replace c17 := Bool.eq_false_iff.mpr c17
        subst c17
        have H1 : (laws_FnNegative.j0 k l0 true) = some r := by rw [if_neg (show ¬ (false = true) by decide)] at H; exact H
        clear H
        have H := H1
        clear H1
        have H' := Aside0.mk H
        clear H
        try go_wp2
        have n0_ : Aside0 (Kd.R (Kd.int .i64) 3 (((w11.setCell ⟨gb1566, 0, none⟩ (.int .i64 t1561)).setCell ⟨gb1566, 1, none⟩ (.int .i64 t1562)).setCell ⟨gb1566, 2, none⟩ (.slice Ao14 t1563.length co14)) w.heap.size (fun k_ => some k_ ≠ (.slice Ao14 t1563.length co14 : Value).ownBlock) (.slice Ao9 t1557.length co9) t1557) := ⟨by (with_reducible repeat (first | apply Kd.R_alloc | apply Kd.R_drewN | apply Kd.R_drew)); exact Kd.R_mono (Kd.R_far (p := ⟨gb1566, 2, none⟩) (Kd.R_far (p := ⟨gb1566, 1, none⟩) (Kd.R_far (p := ⟨gb1566, 0, none⟩) (Kd.R_types HO1559.out BK1566.out (by decide)) (fun _ hk => hk.2) (.int .i64 t1561)) (fun _ hk => hk.2) (.int .i64 t1562)) (fun _ hk => hk.2) (.slice Ao14 t1563.length co14)) (fun _ hk => hk.1.2)⟩
        have n1_ : Aside0 (Kd.R (Kd.int .i64) 3 (((w11.setCell ⟨gb1566, 0, none⟩ (.int .i64 t1561)).setCell ⟨gb1566, 1, none⟩ (.int .i64 t1562)).setCell ⟨gb1566, 2, none⟩ (.slice Ao14 t1563.length co14)) w.heap.size (fun k_ => some k_ ≠ (.slice Ao9 t1557.length co9 : Value).ownBlock) (.slice Ao14 t1563.length co14) t1563) := ⟨by (with_reducible repeat (first | apply Kd.R_alloc | apply Kd.R_drewN | apply Kd.R_drew)); exact Kd.R_mono (Kd.R_far (p := ⟨gb1566, 2, none⟩) (Kd.R_far (p := ⟨gb1566, 1, none⟩) (Kd.R_far (p := ⟨gb1566, 0, none⟩) (Kd.R_types HO1565.out BK1566.out (by decide)) (fun _ hk => hk.2) (.int .i64 t1561)) (fun _ hk => hk.2) (.int .i64 t1562)) (fun _ hk => hk.2) (.slice Ao14 t1563.length co14)) (fun _ hk => hk.1.2)⟩
        have n2_ : Aside0 ((((w11.setCell ⟨gb1566, 0, none⟩ (.int .i64 t1561)).setCell ⟨gb1566, 1, none⟩ (.int .i64 t1562)).setCell ⟨gb1566, 2, none⟩ (.slice Ao14 t1563.length co14)).heap[gb1560]? = some (.cells #[.int .i64 t1555, .int .i64 t1556, .slice Ao9 t1557.length co9] 37 (0, 0))) := ⟨by (with_reducible repeat (first | refine blk_drewN ?_ _ | refine blk_drew ?_ | refine blk_alloc ?_ _)); refine blk_far ?_ NB1560_1566.out _; (with_reducible repeat (first | refine blk_drewN ?_ _ | refine blk_drew ?_ | refine blk_alloc ?_ _)); refine blk_far ?_ NB1560_1566.out _; (with_reducible repeat (first | refine blk_drewN ?_ _ | refine blk_drew ?_ | refine blk_alloc ?_ _)); refine blk_far ?_ NB1560_1566.out _; (with_reducible repeat (first | refine blk_drewN ?_ _ | refine blk_drew ?_ | refine blk_alloc ?_ _)); exact BK1560.out⟩
        have n3_ : Aside0 ((((w11.setCell ⟨gb1566, 0, none⟩ (.int .i64 t1561)).setCell ⟨gb1566, 1, none⟩ (.int .i64 t1562)).setCell ⟨gb1566, 2, none⟩ (.slice Ao14 t1563.length co14)).heap[gb1566]? = some (.cells #[.int .i64 t1561, .int .i64 t1562, .slice Ao14 t1563.length co14] 37 (0, 0))) := ⟨by (with_reducible repeat (first | refine blk_drewN ?_ _ | refine blk_drew ?_ | refine blk_alloc ?_ _)); refine blk_put (cs := #[.int .i64 t1561, .int .i64 t1562, .slice none 0 0]) ?_ 2 _ rfl; (with_reducible repeat (first | refine blk_drewN ?_ _ | refine blk_drew ?_ | refine blk_alloc ?_ _)); refine blk_put (cs := #[.int .i64 t1561, .int .i64 0, .slice none 0 0]) ?_ 1 _ rfl; (with_reducible repeat (first | refine blk_drewN ?_ _ | refine blk_drew ?_ | refine blk_alloc ?_ _)); refine blk_put (cs := #[.int .i64 0, .int .i64 0, .slice none 0 0]) ?_ 0 _ rfl; (with_reducible repeat (first | refine blk_drewN ?_ _ | refine blk_drew ?_ | refine blk_alloc ?_ _)); exact BK1566.out⟩
        have n4_ : Aside0 (Below w.heap.size w (((w11.setCell ⟨gb1566, 0, none⟩ (.int .i64 t1561)).setCell ⟨gb1566, 1, none⟩ (.int .i64 t1562)).setCell ⟨gb1566, 2, none⟩ (.slice Ao14 t1563.length co14))) := ⟨by repeat (first | (with_reducible first | exact HB.out | apply below_alloc | apply pw_below_drewN | apply below_drew1 | refine below_set ?_ GE1560.out | refine below_set ?_ GE1566.out) | exact HB.out)⟩
        (try clear HO1559)
        (try clear HO1565)
        (try clear BK1560)
        (try clear BK1566)
        (try clear HB)
        generalize (((w11.setCell ⟨gb1566, 0, none⟩ (.int .i64 t1561)).setCell ⟨gb1566, 1, none⟩ (.int .i64 t1562)).setCell ⟨gb1566, 2, none⟩ (.slice Ao14 t1563.length co14)) = w26 at n0_ n1_ n2_ n3_ n4_ ⊢
        have HO1559 := n0_
        have HO1565 := n1_
        have BK1560 := n2_
        have BK1566 := n3_
        have HB := n4_
        clear n0_ n1_ n2_ n3_ n4_
        have n0_ := Aside0.mk (Kd.R_drew HO1559.out)
        have n1_ := Aside0.mk (Kd.R_drew HO1565.out)
        have n2_ := Aside0.mk (blk_drew BK1560.out)
        have n3_ := Aside0.mk (blk_drew BK1566.out)
        have n4_ := Aside0.mk (below_drew1 HB.out)
        clear HO1559
        clear HO1565
        clear BK1560
        clear BK1566
        clear HB
        have HO1559 := n0_
        have HO1565 := n1_
        have BK1560 := n2_
        have BK1566 := n3_
        have HB := n4_
        clear n0_ n1_ n2_ n3_ n4_
        refine start_ (n := 17) (S := fun w' => w'.cell? ⟨gb1566, 0, none⟩ = some (.int .i64 t1561) ∧ w'.cell? ⟨gb1566, 1, none⟩ = some (.int .i64 t1562) ∧ w'.cell? ⟨gb1566, 2, none⟩ = some (.slice Ao14 t1563.length co14) ∧ w'.cell? ⟨gb1560, 0, none⟩ = some (.int .i64 t1555) ∧ w'.cell? ⟨gb1560, 1, none⟩ = some (.int .i64 t1556) ∧ w'.cell? ⟨gb1560, 2, none⟩ = some (.slice Ao9 t1557.length co9)) (ds := []) #[false, false, false, false, false, false, false, false, false, false, false, false, false, false, false, false, false] (by kernel_rfl) rfl rfl ⟨(blk_cell BK1566.out 0).trans rfl, (blk_cell BK1566.out 1).trans rfl, (blk_cell BK1566.out 2).trans rfl, (blk_cell BK1560.out 0).trans rfl, (blk_cell BK1560.out 1).trans rfl, (blk_cell BK1560.out 2).trans rfl⟩ (fun hHeld => ?_); refine with_tabW laws_FnNegative.tab5 laws_FnNegative.bits5 (fun HT_ HW_ => ?_)
        generalize w26.drew = w27 at HO1559 HO1565 BK1560 BK1566 HB hHeld ⊢
        refine take_ (i := 0) (N := some 14) (v := ?_) (a' := ?_) #[true, false, false, false, false, false, false, false, false, false, false, false, false, false, false, false, false] rfl rfl (take_ofW HT_.out HW_.out (by kernel_rfl)) (fun _ _ _ h => h) (Or.inl ⟨by rfl, ?_⟩) hHeld ?_ ?_
        rotate_left
        · rintro w' ⟨s0, s1, s2, s3, s4, s5⟩
          go_simp
          with_reducible rfl
        rotate_left
        · simp only [Act.put, List.setIfInBounds_toArray, List.set_cons_zero, List.set_cons_succ, i64_w, i32_w]
          rfl
        refine take_ (i := 2) (N := some 16) (v := ?_) (a' := ?_) #[true, false, true, false, false, false, false, false, false, false, false, false, false, false, false, false, false] rfl rfl (take_ofW HT_.out HW_.out (by kernel_rfl)) (fun _ _ _ h => h) (Or.inl ⟨by rfl, ?_⟩) hHeld ?_ ?_
        rotate_left
        · rintro w' ⟨s0, s1, s2, s3, s4, s5⟩
          go_simp
          with_reducible rfl
        rotate_left
        · simp only [Act.put, List.setIfInBounds_toArray, List.set_cons_zero, List.set_cons_succ, i64_w, i32_w]
          rfl
        refine one_ (i := 1) (N := some 15) #[true, true, true, false, false, false, false, false, false, false, false, false, false, false, false, false, false] rfl rfl (one_of HT_.out (by kernel_rfl)) (by decide) (fun K hK => ?_)
        refine goes_ Try.func97 (by kernel_rfl) rfl #[.agg #[.int .i64 t1561, .int .i64 t1562, .slice Ao14 t1563.length co14]] (by rfl) rfl rfl (by (try simp only [List.map_toArray, List.map_cons, List.map_nil]); first | done | rfl | (simp only [List.length_drop, List.length_take]; rfl)) ?_
        with_reducible refine (impl_NegativePicture.calls t1561 t1562 _ _ t1563 t1567 t1568 t1569 _ ?side1 ?side2 A15.out).mono ?_
        (case side1 => repeat (first | exact (Kd.R_reads' HO1565.out).2.2 | (with_reducible refine Kd.C_alloc ?_ _) | (with_reducible refine Kd.C_drewN ?_ _) | (with_reducible refine Kd.C_drew ?_)))
        (case side2 => exact (Kd.R_reads' HO1565.out).2.1)
        rintro e w28 ⟨v1570, rfl, ho0, hb⟩
        refine ⟨_, rfl, ?_⟩
        have n0_ := Aside0.mk (Kd.R_elder' (by (with_reducible repeat (first | apply Kd.R_alloc | apply Kd.R_drewN | apply Kd.R_drew)); exact HO1559.out) (Kd.R_base ho0) hb)
        have n1_ := Aside0.mk (Kd.R_elder' (by (with_reducible repeat (first | apply Kd.R_alloc | apply Kd.R_drewN | apply Kd.R_drew)); exact HO1565.out) (Kd.R_base ho0) hb)
        have n2_ := Aside0.mk (Kd.R_lower (Kd.R_new' (Kd.R_new' ho0 (Kd.R_lt (by (with_reducible repeat (first | apply Kd.R_alloc | apply Kd.R_drewN | apply Kd.R_drew)); exact HO1559.out))) (Kd.R_lt (by (with_reducible repeat (first | apply Kd.R_alloc | apply Kd.R_drewN | apply Kd.R_drew)); exact HO1565.out))) (below_size (by repeat (first | (with_reducible first | exact HB.out | apply below_alloc | apply pw_below_drewN | apply below_drew1 | refine below_set ?_ GE1560.out | refine below_set ?_ GE1566.out) | exact HB.out))))
        have n3_ := Aside0.mk (blk_below (g := gb1560) (o := .cells #[.int .i64 t1555, .int .i64 t1556, .slice Ao9 t1557.length co9] 37 (0, 0)) (by (with_reducible repeat (first | refine blk_drewN ?_ _ | refine blk_drew ?_ | refine blk_alloc ?_ _)); exact BK1560.out) hb)
        have n4_ := Aside0.mk (blk_below (g := gb1566) (o := .cells #[.int .i64 t1561, .int .i64 t1562, .slice Ao14 t1563.length co14] 37 (0, 0)) (by (with_reducible repeat (first | refine blk_drewN ?_ _ | refine blk_drew ?_ | refine blk_alloc ?_ _)); exact BK1566.out) hb)
        have n5_ := Aside0.mk (below_step (by repeat (first | (with_reducible first | exact HB.out | apply below_alloc | apply pw_below_drewN | apply below_drew1 | refine below_set ?_ GE1560.out | refine below_set ?_ GE1566.out) | exact HB.out)) hb)
        clear HO1559
        clear HO1565
        clear BK1560
        clear BK1566
        clear HB
        have HO1559 := n0_
        have HO1565 := n1_
        have HO1571 := n2_
        have BK1560 := n3_
        have BK1566 := n4_
        have HB := n5_
        clear n0_ n1_ n2_ n3_ n4_ n5_
        (try clear hb)
        (try clear hb2)
        (try clear hk)
        (try clear hi)
        (try clear ho0)
        obtain ⟨Ao29, co29, eo29⟩ := Kd.R_slice HO1571.out
        (first | subst eo29 | (injection eo29 with f1_ f2_ f3_; have f4_ := f1_.symm; have f5_ := f3_.symm; clear f1_ f2_ f3_; subst f4_; subst f5_))
        refine hK.out _ _ ⟨(blk_cell BK1566.out 0).trans rfl, (blk_cell BK1566.out 1).trans rfl, (blk_cell BK1566.out 2).trans rfl, (blk_cell BK1560.out 0).trans rfl, (blk_cell BK1560.out 1).trans rfl, (blk_cell BK1560.out 2).trans rfl⟩ (fun hHeld => ?_)
        clear hK K
        refine norm_ (a' := ?_) ?_ ?_
        rotate_left
        · show Act.put _ (some 15) _ = _
          simp only [Act.put, List.setIfInBounds_toArray, List.set_cons_zero, List.set_cons_succ, i64_w, i32_w]
          rfl
        refine one_ (i := 3) (N := some 17) #[true, true, true, true, false, false, false, false, false, false, false, false, false, false, false, false, false] rfl rfl (one_of HT_.out (by kernel_rfl)) (by decide) (fun K hK => ?_)
        refine goes_ Try.func85 (by kernel_rfl) rfl #[.agg #[.int .i64 t1567, .int .i64 t1568, .slice Ao29 t1569.length co29], .agg #[.int .i64 t1555, .int .i64 t1556, .slice Ao9 t1557.length co9]] (by rfl) rfl rfl (by (try simp only [List.map_toArray, List.map_cons, List.map_nil]); first | done | rfl | (simp only [List.length_drop, List.length_take]; rfl)) ?_
        with_reducible refine (laws_same.calls k t1567 t1568 _ _ t1569 t1555 t1556 _ _ t1557 false _ ?side1 ?side2 ?side3 ?side4 A16.out).mono ?_
        (case side1 => repeat (first | exact (Kd.R_reads' HO1571.out).2.2 | (with_reducible refine Kd.C_alloc ?_ _) | (with_reducible refine Kd.C_drewN ?_ _) | (with_reducible refine Kd.C_drew ?_)))
        (case side2 => exact (Kd.R_reads' HO1571.out).2.1)
        (case side3 => repeat (first | exact (Kd.R_reads' HO1559.out).2.2 | (with_reducible refine Kd.C_alloc ?_ _) | (with_reducible refine Kd.C_drewN ?_ _) | (with_reducible refine Kd.C_drew ?_)))
        (case side4 => exact (Kd.R_reads' HO1559.out).2.1)
        rintro e w30 ⟨rfl, hb⟩
        refine ⟨_, rfl, ?_⟩
        have n0_ := Aside0.mk (Kd.R_below (by (with_reducible repeat (first | apply Kd.R_alloc | apply Kd.R_drewN | apply Kd.R_drew)); exact HO1559.out) hb)
        have n1_ := Aside0.mk (Kd.R_below (by (with_reducible repeat (first | apply Kd.R_alloc | apply Kd.R_drewN | apply Kd.R_drew)); exact HO1565.out) hb)
        have n2_ := Aside0.mk (Kd.R_below (by (with_reducible repeat (first | apply Kd.R_alloc | apply Kd.R_drewN | apply Kd.R_drew)); exact HO1571.out) hb)
        have n3_ := Aside0.mk (blk_below (g := gb1560) (o := .cells #[.int .i64 t1555, .int .i64 t1556, .slice Ao9 t1557.length co9] 37 (0, 0)) (by (with_reducible repeat (first | refine blk_drewN ?_ _ | refine blk_drew ?_ | refine blk_alloc ?_ _)); exact BK1560.out) hb)
        have n4_ := Aside0.mk (blk_below (g := gb1566) (o := .cells #[.int .i64 t1561, .int .i64 t1562, .slice Ao14 t1563.length co14] 37 (0, 0)) (by (with_reducible repeat (first | refine blk_drewN ?_ _ | refine blk_drew ?_ | refine blk_alloc ?_ _)); exact BK1566.out) hb)
        have n5_ := Aside0.mk (below_step (by repeat (first | (with_reducible first | exact HB.out | apply below_alloc | apply pw_below_drewN | apply below_drew1 | refine below_set ?_ GE1560.out | refine below_set ?_ GE1566.out) | exact HB.out)) hb)
        clear HO1559
        clear HO1565
        clear HO1571
        clear BK1560
        clear BK1566
        clear HB
        have HO1559 := n0_
        have HO1565 := n1_
        have HO1571 := n2_
        have BK1560 := n3_
        have BK1566 := n4_
        have HB := n5_
        clear n0_ n1_ n2_ n3_ n4_ n5_
        (try clear hb)
        (try clear hb2)
        (try clear hk)
        (try clear hi)
        refine hK.out _ _ ⟨(blk_cell BK1566.out 0).trans rfl, (blk_cell BK1566.out 1).trans rfl, (blk_cell BK1566.out 2).trans rfl, (blk_cell BK1560.out 0).trans rfl, (blk_cell BK1560.out 1).trans rfl, (blk_cell BK1560.out 2).trans rfl⟩ (fun hHeld => ?_)
        clear hK K
        refine norm_ (a' := ?_) ?_ ?_
        rotate_left
        · show Act.put _ (some 17) _ = _
          simp only [Act.put, List.setIfInBounds_toArray, List.set_cons_zero, List.set_cons_succ, i64_w, i32_w]
          rfl
        refine pure_ (i := 4) (N := some 18) (v := ?_) (a' := ?_) #[true, true, true, true, true, false, false, false, false, false, false, false, false, false, false, false, false] rfl rfl (any_of HT_.out (by kernel_rfl)) (fun _ _ _ h => h) (Or.inl ⟨by rfl, ?_⟩) ?_ ?_
        rotate_left
        · intro w'
          go_simp
          with_reducible rfl
        rotate_left
        · simp only [Act.put, List.setIfInBounds_toArray, List.set_cons_zero, List.set_cons_succ, i64_w, i32_w]
          rfl
        refine pure_ (i := 5) (N := some 19) (v := ?_) (a' := ?_) #[true, true, true, true, true, true, false, false, false, false, false, false, false, false, false, false, false] rfl rfl (any_of HT_.out (by kernel_rfl)) (fun _ _ _ h => h) (Or.inl ⟨by rfl, ?_⟩) ?_ ?_
        rotate_left
        · intro w'
          go_simp
          with_reducible rfl
        rotate_left
        · simp only [Act.put, List.setIfInBounds_toArray, List.set_cons_zero, List.set_cons_succ, i64_w, i32_w]
          rfl
        refine pure_ (i := 6) (N := some 20) (v := undef) (a' := ?_) #[true, true, true, true, true, true, true, false, false, false, false, false, false, false, false, false, false] rfl rfl (any_of HT_.out (by kernel_rfl)) (fun _ _ _ h => h) (Or.inr ⟨by rfl, rfl⟩) ?_ ?_
        rotate_left
        · simp only [Act.put, List.setIfInBounds_toArray, List.set_cons_zero, List.set_cons_succ, i64_w, i32_w]
          rfl
        refine pure_ (i := 7) (N := some 21) (v := undef) (a' := ?_) #[true, true, true, true, true, true, true, true, false, false, false, false, false, false, false, false, false] rfl rfl (any_of HT_.out (by kernel_rfl)) (fun _ _ _ h => h) (Or.inr ⟨by rfl, rfl⟩) ?_ ?_
        rotate_left
        · simp only [Act.put, List.setIfInBounds_toArray, List.set_cons_zero, List.set_cons_succ, i64_w, i32_w]
          rfl
        refine pure_ (i := 8) (N := some 22) (v := undef) (a' := ?_) #[true, true, true, true, true, true, true, true, true, false, false, false, false, false, false, false, false] rfl rfl (any_of HT_.out (by kernel_rfl)) (fun _ _ _ h => h) (Or.inr ⟨by rfl, rfl⟩) ?_ ?_
        rotate_left
        · simp only [Act.put, List.setIfInBounds_toArray, List.set_cons_zero, List.set_cons_succ, i64_w, i32_w]
          rfl
        refine pure_ (i := 9) (N := some 23) (v := undef) (a' := ?_) #[true, true, true, true, true, true, true, true, true, true, false, false, false, false, false, false, false] rfl rfl (any_of HT_.out (by kernel_rfl)) (fun _ _ _ h => h) (Or.inr ⟨by rfl, rfl⟩) ?_ ?_
        rotate_left
        · simp only [Act.put, List.setIfInBounds_toArray, List.set_cons_zero, List.set_cons_succ, i64_w, i32_w]
          rfl
        refine pure_ (i := 10) (N := some 24) (v := undef) (a' := ?_) #[true, true, true, true, true, true, true, true, true, true, true, false, false, false, false, false, false] rfl rfl (any_of HT_.out (by kernel_rfl)) (fun _ _ _ h => h) (Or.inr ⟨by rfl, rfl⟩) ?_ ?_
        rotate_left
        · simp only [Act.put, List.setIfInBounds_toArray, List.set_cons_zero, List.set_cons_succ, i64_w, i32_w]
          rfl
        refine pure_ (i := 11) (N := some 25) (v := undef) (a' := ?_) #[true, true, true, true, true, true, true, true, true, true, true, true, false, false, false, false, false] rfl rfl (any_of HT_.out (by kernel_rfl)) (fun _ _ _ h => h) (Or.inr ⟨by rfl, rfl⟩) ?_ ?_
        rotate_left
        · simp only [Act.put, List.setIfInBounds_toArray, List.set_cons_zero, List.set_cons_succ, i64_w, i32_w]
          rfl
        refine pure_ (i := 12) (N := some 26) (v := undef) (a' := ?_) #[true, true, true, true, true, true, true, true, true, true, true, true, true, false, false, false, false] rfl rfl (any_of HT_.out (by kernel_rfl)) (fun _ _ _ h => h) (Or.inr ⟨by rfl, rfl⟩) ?_ ?_
        rotate_left
        · simp only [Act.put, List.setIfInBounds_toArray, List.set_cons_zero, List.set_cons_succ, i64_w, i32_w]
          rfl
        refine pure_ (i := 13) (N := some 27) (v := undef) (a' := ?_) #[true, true, true, true, true, true, true, true, true, true, true, true, true, true, false, false, false] rfl rfl (any_of HT_.out (by kernel_rfl)) (fun _ _ _ h => h) (Or.inr ⟨by rfl, rfl⟩) ?_ ?_
        rotate_left
        · simp only [Act.put, List.setIfInBounds_toArray, List.set_cons_zero, List.set_cons_succ, i64_w, i32_w]
          rfl
        refine pure_ (i := 14) (N := some 28) (v := undef) (a' := ?_) #[true, true, true, true, true, true, true, true, true, true, true, true, true, true, true, false, false] rfl rfl (any_of HT_.out (by kernel_rfl)) (fun _ _ _ h => h) (Or.inr ⟨by rfl, rfl⟩) ?_ ?_
        rotate_left
        · simp only [Act.put, List.setIfInBounds_toArray, List.set_cons_zero, List.set_cons_succ, i64_w, i32_w]
          rfl
        refine pure_ (i := 15) (N := some 29) (v := undef) (a' := ?_) #[true, true, true, true, true, true, true, true, true, true, true, true, true, true, true, true, false] rfl rfl (any_of HT_.out (by kernel_rfl)) (fun _ _ _ h => h) (Or.inr ⟨by rfl, rfl⟩) ?_ ?_
        rotate_left
        · simp only [Act.put, List.setIfInBounds_toArray, List.set_cons_zero, List.set_cons_succ, i64_w, i32_w]
          rfl
        refine pure_ (i := 16) (N := some 30) (v := ?_) (a' := ?_) #[true, true, true, true, true, true, true, true, true, true, true, true, true, true, true, true, true] rfl rfl (any_of HT_.out (by kernel_rfl)) (fun _ _ _ h => h) (Or.inl ⟨by rfl, ?_⟩) ?_ ?_
        rotate_left
        · intro w'
          go_simp
          with_reducible rfl
        rotate_left
        · simp only [Act.put, List.setIfInBounds_toArray, List.set_cons_zero, List.set_cons_succ, i64_w, i32_w]
          rfl
        refine done_ (done_of HT_.out (by kernel_rfl)) ?_
        try go_wp2
        go_meet
        case rel => exact ⟨_, (true), (by first | rfl | (simp; done) | (simp [*]; done)), H', ⟨by first | omega | exact Nat.le_refl _⟩, ⟨by (with_reducible repeat (first | apply Kd.R_alloc | apply Kd.R_drewN | apply Kd.R_drew)); exact Kd.R_mono HO1559.out (fun _ hk => hk.1)⟩, ⟨by (with_reducible repeat (first | apply Kd.R_alloc | apply Kd.R_drewN | apply Kd.R_drew)); exact Kd.R_mono HO1565.out (fun _ hk => hk.1)⟩, ⟨by (with_reducible repeat (first | refine blk_drewN ?_ _ | refine blk_drew ?_ | refine blk_alloc ?_ _)); exact BK1560.out⟩, ⟨by (with_reducible repeat (first | refine blk_drewN ?_ _ | refine blk_drew ?_ | refine blk_alloc ?_ _)); exact BK1566.out⟩, ⟨by repeat (first | (with_reducible first | exact HB.out | apply below_alloc | apply pw_below_drewN | apply below_drew1 | refine below_set ?_ GE1560.out | refine below_set ?_ GE1566.out) | exact HB.out)⟩⟩
    case rest =>
      clear HC5
      try clear c1
      try clear c2
      try clear c2b0
      try clear c2b1
      try clear p2
      try clear c3
      try clear c5
      try clear p6
      try clear c7
      try clear c8
      try clear c9
      try clear c12
      try clear c17
      try clear hcz13_0
      try clear hcz13_1
      try clear hcz13_2
      try clear hcz8_0
      try clear hcz8_1
      try clear hcz8_2
      try clear hfz13_0
      try clear hfz13_1
      try clear hfz13_2
      try clear hfz8_0
      try clear hfz8_1
      try clear hfz8_2
      obtain ⟨kq, x30_4, rfl, HA, HJ4, HO_1561002, HO_1567002, BK1560, BK1566, HB⟩ := hcut
      cases kq with
      | zero => exact absurd HA.out (by simp [laws_FnNegative.j0])
      | succ kj4 =>
        have H := HA.out
        clear HA
        simp only [laws_FnNegative.j0] at H
        by_cases c31 : x30_4 = true
        · subst c31
          have H1 : (some false) = some r := by rw [if_pos rfl] at H; exact H
          clear H
          have H := H1
          clear H1
          exact absurd ((Option.some.inj H).trans hT.out) (by decide)
        · replace c31 := Bool.eq_false_iff.mpr c31
          subst c31
          have H1 : ((laws_fresh.f kj4 l0 3).bind fun t1575 => ((spec_MakePicture.f kj4 t1575 9).bind fun bt1578 => ((spec_IsPlate.f kj4 bt1578.1 bt1578.2.1 bt1578.2.2).bind fun t1584 => (if t1584 = true then (some true) else ((impl_NegativePicture.f bt1578.1 bt1578.2.1 bt1578.2.2).bind fun bt1585 => ((impl_SumInk.f kj4 bt1585.1 bt1585.2.1 bt1585.2.2).bind fun t1591 => ((laws_total.f kj4 bt1578.2.2).bind fun t1592 => (if (wrap64 (t1591 + t1592)) = (wrap64 (255 * (bt1578.2.2.length : Int))) then ((impl_IsPlate.f bt1585.1 bt1585.2.1 bt1585.2.2).bind fun t1593 => (if t1593 = true then (some true) else ((impl_NegativePicture.f bt1585.1 bt1585.2.1 bt1585.2.2).bind fun bt1594 => ((laws_same.f kj4 bt1594.1 bt1594.2.1 bt1594.2.2 bt1578.1 bt1578.2.1 bt1578.2.2).bind fun t1599 => (some t1599))))) else (some false))))))))) = some r := by rw [if_neg (show ¬ (false = true) by decide)] at H; exact H
          clear H
          have H := H1
          clear H1
          replace H := Option.bind_eq_some_iff.mp H
          obtain ⟨t1575, A320, H⟩ := H
          replace H : ((spec_MakePicture.f kj4 t1575 9).bind fun bt1578 => ((spec_IsPlate.f kj4 bt1578.1 bt1578.2.1 bt1578.2.2).bind fun t1584 => (if t1584 = true then (some true) else ((impl_NegativePicture.f bt1578.1 bt1578.2.1 bt1578.2.2).bind fun bt1585 => ((impl_SumInk.f kj4 bt1585.1 bt1585.2.1 bt1585.2.2).bind fun t1591 => ((laws_total.f kj4 bt1578.2.2).bind fun t1592 => (if (wrap64 (t1591 + t1592)) = (wrap64 (255 * (bt1578.2.2.length : Int))) then ((impl_IsPlate.f bt1585.1 bt1585.2.1 bt1585.2.2).bind fun t1593 => (if t1593 = true then (some true) else ((impl_NegativePicture.f bt1585.1 bt1585.2.1 bt1585.2.2).bind fun bt1594 => ((laws_same.f kj4 bt1594.1 bt1594.2.1 bt1594.2.2 bt1578.1 bt1578.2.1 bt1578.2.2).bind fun t1599 => (some t1599))))) else (some false)))))))) = some r := H
          have A32 := Aside0.mk A320
          clear A320
          replace H := Option.bind_eq_some_iff.mp H
          obtain ⟨⟨t1578, t1579, t1580⟩, A330, H⟩ := H
          replace H : ((spec_IsPlate.f kj4 t1578 t1579 t1580).bind fun t1584 => (if t1584 = true then (some true) else ((impl_NegativePicture.f t1578 t1579 t1580).bind fun bt1585 => ((impl_SumInk.f kj4 bt1585.1 bt1585.2.1 bt1585.2.2).bind fun t1591 => ((laws_total.f kj4 t1580).bind fun t1592 => (if (wrap64 (t1591 + t1592)) = (wrap64 (255 * (t1580.length : Int))) then ((impl_IsPlate.f bt1585.1 bt1585.2.1 bt1585.2.2).bind fun t1593 => (if t1593 = true then (some true) else ((impl_NegativePicture.f bt1585.1 bt1585.2.1 bt1585.2.2).bind fun bt1594 => ((laws_same.f kj4 bt1594.1 bt1594.2.1 bt1594.2.2 t1578 t1579 t1580).bind fun t1599 => (some t1599))))) else (some false))))))) = some r := H
          have A33 := Aside0.mk A330
          clear A330
          replace H := Option.bind_eq_some_iff.mp H
          obtain ⟨t1584, A340, H⟩ := H
          replace H : (if t1584 = true then (some true) else ((impl_NegativePicture.f t1578 t1579 t1580).bind fun bt1585 => ((impl_SumInk.f kj4 bt1585.1 bt1585.2.1 bt1585.2.2).bind fun t1591 => ((laws_total.f kj4 t1580).bind fun t1592 => (if (wrap64 (t1591 + t1592)) = (wrap64 (255 * (t1580.length : Int))) then ((impl_IsPlate.f bt1585.1 bt1585.2.1 bt1585.2.2).bind fun t1593 => (if t1593 = true then (some true) else ((impl_NegativePicture.f bt1585.1 bt1585.2.1 bt1585.2.2).bind fun bt1594 => ((laws_same.f kj4 bt1594.1 bt1594.2.1 bt1594.2.2 t1578 t1579 t1580).bind fun t1599 => (some t1599))))) else (some false)))))) = some r := H
          have A34 := Aside0.mk A340
          clear A340
          by_cases c35 : t1584 = true
          · subst c35
            have H1 : (some true) = some r := by rw [if_pos rfl] at H; exact H
            clear H
            have H := H1
            clear H1
            obtain rfl := Option.some.inj H
            go_wp2_with (first | ((with_reducible refine gate_callee (f := 68) rfl ?_); refine goesL_ (some 32) rfl rfl Try.func68 (by kernel_rfl) rfl #[.slice A0 l0.length c0, .int .i64 3] rfl (by (try simp only [List.map_toArray, List.map_cons, List.map_nil]); first | done | rfl | (simp only [List.length_drop, List.length_take]; rfl)) ?_; (with_reducible refine (laws_fresh.calls kj4 _ _ l0 3 t1575 _ ?side1 ?side2 A32.out).mono ?_); (case side1 => repeat (first | exact (Kd.C_below HR0.out HB.out) | (with_reducible refine Kd.C_alloc ?_ _) | (with_reducible refine Kd.C_drewN ?_ _) | (with_reducible refine Kd.C_drew ?_))); (case side2 => exact HC0.out); rintro e w36 ⟨v1576, rfl, ho0, hb⟩; refine ⟨_, rfl, ?_⟩; have n0_ := Aside0.mk (Kd.R_below (by (with_reducible repeat (first | apply Kd.R_alloc | apply Kd.R_drewN | apply Kd.R_drew)); exact HO_1561002.out) hb); have n1_ := Aside0.mk (Kd.R_below (by (with_reducible repeat (first | apply Kd.R_alloc | apply Kd.R_drewN | apply Kd.R_drew)); exact HO_1567002.out) hb); have n2_ := Aside0.mk (Kd.R_lower ho0 (below_size (by repeat (first | (with_reducible first | exact HB.out | apply below_alloc | apply pw_below_drewN | apply below_drew1 | refine below_set ?_ GE1560.out | refine below_set ?_ GE1566.out) | exact HB.out)))); have n3_ := Aside0.mk (blk_below (g := gb1560) (o := .cells #[.int .i64 t1555, .int .i64 t1556, .slice Ao9 t1557.length co9] 37 (0, 0)) (by (with_reducible repeat (first | refine blk_drewN ?_ _ | refine blk_drew ?_ | refine blk_alloc ?_ _)); exact BK1560.out) hb); have n4_ := Aside0.mk (blk_below (g := gb1566) (o := .cells #[.int .i64 t1561, .int .i64 t1562, .slice Ao14 t1563.length co14] 37 (0, 0)) (by (with_reducible repeat (first | refine blk_drewN ?_ _ | refine blk_drew ?_ | refine blk_alloc ?_ _)); exact BK1566.out) hb); have n5_ := Aside0.mk (below_step (by repeat (first | (with_reducible first | exact HB.out | apply below_alloc | apply pw_below_drewN | apply below_drew1 | refine below_set ?_ GE1560.out | refine below_set ?_ GE1566.out) | exact HB.out)) hb); clear HO_1561002; clear HO_1567002; clear BK1560; clear BK1566; clear HB; have HO_1561002 := n0_; have HO_1567002 := n1_; have HO1577 := n2_; have BK1560 := n3_; have BK1566 := n4_; have HB := n5_; clear n0_ n1_ n2_ n3_ n4_ n5_; (try clear hb); (try clear hb2); (try clear hk); (try clear hi); (try clear ho0); obtain ⟨Ao37, co37, eo37⟩ := Kd.R_slice HO1577.out; subst eo37) | ((with_reducible refine gate_callee (f := 67) rfl ?_); refine goesL_ (some 33) rfl rfl Try.func67 (by kernel_rfl) rfl #[.slice Ao37 t1575.length co37, .int .i64 9] rfl (by (try simp only [List.map_toArray, List.map_cons, List.map_nil]); first | done | rfl | (simp only [List.length_drop, List.length_take]; rfl)) ?_; (with_reducible refine (spec_MakePicture.calls kj4 _ _ t1575 9 t1578 t1579 t1580 _ ?side1 ?side2 A33.out).mono ?_); (case side1 => repeat (first | exact (Kd.R_reads' HO1577.out).2.2 | (with_reducible refine Kd.C_alloc ?_ _) | (with_reducible refine Kd.C_drewN ?_ _) | (with_reducible refine Kd.C_drew ?_))); (case side2 => exact (Kd.R_reads' HO1577.out).2.1); rintro e w38 ⟨v1581, rfl, ho0, hb⟩; refine ⟨_, rfl, ?_⟩; have n0_ := Aside0.mk (Kd.R_elder' (by (with_reducible repeat (first | apply Kd.R_alloc | apply Kd.R_drewN | apply Kd.R_drew)); exact HO_1561002.out) (Kd.R_base ho0) hb); have n1_ := Aside0.mk (Kd.R_elder' (by (with_reducible repeat (first | apply Kd.R_alloc | apply Kd.R_drewN | apply Kd.R_drew)); exact HO_1567002.out) (Kd.R_base ho0) hb); have n2_ := Aside0.mk (Kd.R_below (by (with_reducible repeat (first | apply Kd.R_alloc | apply Kd.R_drewN | apply Kd.R_drew)); exact HO1577.out) hb); have n3_ := Aside0.mk (Kd.R_lower (Kd.R_new' (Kd.R_new' ho0 (Kd.R_lt (by (with_reducible repeat (first | apply Kd.R_alloc | apply Kd.R_drewN | apply Kd.R_drew)); exact HO_1561002.out))) (Kd.R_lt (by (with_reducible repeat (first | apply Kd.R_alloc | apply Kd.R_drewN | apply Kd.R_drew)); exact HO_1567002.out))) (below_size (by repeat (first | (with_reducible first | exact HB.out | apply below_alloc | apply pw_below_drewN | apply below_drew1 | refine below_set ?_ GE1560.out | refine below_set ?_ GE1566.out) | exact HB.out)))); have n4_ := Aside0.mk (blk_below (g := gb1560) (o := .cells #[.int .i64 t1555, .int .i64 t1556, .slice Ao9 t1557.length co9] 37 (0, 0)) (by (with_reducible repeat (first | refine blk_drewN ?_ _ | refine blk_drew ?_ | refine blk_alloc ?_ _)); exact BK1560.out) hb); have n5_ := Aside0.mk (blk_below (g := gb1566) (o := .cells #[.int .i64 t1561, .int .i64 t1562, .slice Ao14 t1563.length co14] 37 (0, 0)) (by (with_reducible repeat (first | refine blk_drewN ?_ _ | refine blk_drew ?_ | refine blk_alloc ?_ _)); exact BK1566.out) hb); have n6_ := Aside0.mk (below_step (by repeat (first | (with_reducible first | exact HB.out | apply below_alloc | apply pw_below_drewN | apply below_drew1 | refine below_set ?_ GE1560.out | refine below_set ?_ GE1566.out) | exact HB.out)) hb); clear HO_1561002; clear HO_1567002; clear HO1577; clear BK1560; clear BK1566; clear HB; have HO_1561002 := n0_; have HO_1567002 := n1_; have HO1577 := n2_; have HO1582 := n3_; have BK1560 := n4_; have BK1566 := n5_; have HB := n6_; clear n0_ n1_ n2_ n3_ n4_ n5_ n6_; (try clear hb); (try clear hb2); (try clear hk); (try clear hi); (try clear ho0)) | ((with_reducible refine gate_dst (N := 5) rfl ?_); refine box_event ?hg (N := 5) ?hd (cs := #[.int .i64 0, .int .i64 0, .slice none 0 0]) (t := 37) ?hr ?_; (case hd => rfl); (case hg => rfl); (case hr => first | (go_simp; done) | (go_simp; rfl)); intro gb1583 hg w39 hbox hb; have n0_ := Aside0.mk (Kd.R_below (by (with_reducible repeat (first | apply Kd.R_alloc | apply Kd.R_drewN | apply Kd.R_drew)); exact HO_1561002.out) hb); have n1_ := Aside0.mk (Kd.R_below (by (with_reducible repeat (first | apply Kd.R_alloc | apply Kd.R_drewN | apply Kd.R_drew)); exact HO_1567002.out) hb); have n2_ := Aside0.mk (Kd.R_below (by (with_reducible repeat (first | apply Kd.R_alloc | apply Kd.R_drewN | apply Kd.R_drew)); exact HO1577.out) hb); have n3_ := Aside0.mk (Kd.R_below (by (with_reducible repeat (first | apply Kd.R_alloc | apply Kd.R_drewN | apply Kd.R_drew)); exact HO1582.out) hb); have n4_ := Aside0.mk (blk_below (g := gb1560) (o := .cells #[.int .i64 t1555, .int .i64 t1556, .slice Ao9 t1557.length co9] 37 (0, 0)) (by (with_reducible repeat (first | refine blk_drewN ?_ _ | refine blk_drew ?_ | refine blk_alloc ?_ _)); exact BK1560.out) hb); have n5_ := Aside0.mk (blk_below (g := gb1566) (o := .cells #[.int .i64 t1561, .int .i64 t1562, .slice Ao14 t1563.length co14] 37 (0, 0)) (by (with_reducible repeat (first | refine blk_drewN ?_ _ | refine blk_drew ?_ | refine blk_alloc ?_ _)); exact BK1566.out) hb); have n6_ := Aside0.mk (below_step (by repeat (first | (with_reducible first | exact HB.out | apply below_alloc | apply pw_below_drewN | apply below_drew1 | refine below_set ?_ GE1560.out | refine below_set ?_ GE1566.out) | exact HB.out)) hb); have n7_ := Aside0.mk (hbox); have n8_ := Aside0.mk ((by rw [hg]; exact (below_size (by repeat (first | (with_reducible first | exact HB.out | apply below_alloc | apply pw_below_drewN | apply below_drew1 | refine below_set ?_ GE1560.out | refine below_set ?_ GE1566.out) | exact HB.out))) : w.heap.size ≤ gb1583)); have n9_ := Aside0.mk ((by rw [hg]; exact (below_size (by repeat (first | (with_reducible first | exact HB.out | apply below_alloc | apply pw_below_drewN | apply below_drew1 | refine below_set ?_ GE1560.out | refine below_set ?_ GE1566.out) | exact HB.out))) : w.heap.size ≤ gb1583)); have n10_ := Aside0.mk ((by rw [hg]; exact Nat.ne_of_lt (blk_lt (g := gb1560) (o := .cells #[.int .i64 t1555, .int .i64 t1556, .slice Ao9 t1557.length co9] 37 (0, 0)) (by (with_reducible repeat (first | refine blk_drewN ?_ _ | refine blk_drew ?_ | refine blk_alloc ?_ _)); exact BK1560.out)) : gb1560 ≠ gb1583)); have n11_ := Aside0.mk ((by rw [hg]; exact Nat.ne_of_gt (blk_lt (g := gb1560) (o := .cells #[.int .i64 t1555, .int .i64 t1556, .slice Ao9 t1557.length co9] 37 (0, 0)) (by (with_reducible repeat (first | refine blk_drewN ?_ _ | refine blk_drew ?_ | refine blk_alloc ?_ _)); exact BK1560.out)) : gb1583 ≠ gb1560)); have n12_ := Aside0.mk ((by rw [hg]; exact Nat.ne_of_lt (blk_lt (g := gb1566) (o := .cells #[.int .i64 t1561, .int .i64 t1562, .slice Ao14 t1563.length co14] 37 (0, 0)) (by (with_reducible repeat (first | refine blk_drewN ?_ _ | refine blk_drew ?_ | refine blk_alloc ?_ _)); exact BK1566.out)) : gb1566 ≠ gb1583)); have n13_ := Aside0.mk ((by rw [hg]; exact Nat.ne_of_gt (blk_lt (g := gb1566) (o := .cells #[.int .i64 t1561, .int .i64 t1562, .slice Ao14 t1563.length co14] 37 (0, 0)) (by (with_reducible repeat (first | refine blk_drewN ?_ _ | refine blk_drew ?_ | refine blk_alloc ?_ _)); exact BK1566.out)) : gb1583 ≠ gb1566)); clear HO_1561002; clear HO_1567002; clear HO1577; clear HO1582; clear BK1560; clear BK1566; clear HB; have HO_1561002 := n0_; have HO_1567002 := n1_; have HO1577 := n2_; have HO1582 := n3_; have BK1560 := n4_; have BK1566 := n5_; have HB := n6_; have BK1583 := n7_; have GW1583 := n8_; have GE1583 := n9_; have NB1560_1583 := n10_; have NB1583_1560 := n11_; have NB1566_1583 := n12_; have NB1583_1566 := n13_; clear n0_ n1_ n2_ n3_ n4_ n5_ n6_ n7_ n8_ n9_ n10_ n11_ n12_ n13_; clear hb hbox hg; have hnb40 := NB1583_1560.out; have hnc40 := NB1560_1583.out; have hnb41 := NB1583_1566.out; have hnc41 := NB1566_1583.out; have hcz42_0 : w39.cell? ⟨gb1583, 0, none⟩ = some (.int .i64 0) := (blk_cell BK1583.out 0).trans rfl; have hcz42_1 : w39.cell? ⟨gb1583, 1, none⟩ = some (.int .i64 0) := (blk_cell BK1583.out 1).trans rfl; have hcz42_2 : w39.cell? ⟨gb1583, 2, none⟩ = some (.slice none 0 0) := (blk_cell BK1583.out 2).trans rfl; have hfz42_0 := blk_frozen BK1583.out 0; have hfz42_1 := blk_frozen BK1583.out 1; have hfz42_2 := blk_frozen BK1583.out 2; obtain ⟨Ao43, co43, eo43⟩ := Kd.R_slice HO1582.out; subst eo43) | ((with_reducible refine gate_callee (f := 62) rfl ?_); refine goesL_ (some 35) rfl rfl Try.func62 (by kernel_rfl) rfl #[.agg #[.int .i64 t1578, .int .i64 t1579, .slice Ao43 t1580.length co43]] rfl (by (try simp only [List.map_toArray, List.map_cons, List.map_nil]); first | done | rfl | (simp only [List.length_drop, List.length_take]; rfl)) ?_; (with_reducible refine (spec_IsPlate.calls kj4 t1578 t1579 _ _ t1580 true _ ?side1 ?side2 A34.out).mono ?_); (case side1 => refine (Kd.R_reads' (e := 3) (base := w.heap.size) (ok := fun k_ => ((True ∧ some k_ ≠ (.slice Ao9 t1557.length co9 : Value).ownBlock) ∧ some k_ ≠ (.slice Ao14 t1563.length co14 : Value).ownBlock)) (n := t1580.length) (c := co43) ?_).2.2; exact (by (with_reducible repeat (first | apply Kd.R_alloc | apply Kd.R_drewN | apply Kd.R_drew)); exact (Kd.R_mono (Kd.R_far (p := ⟨gb1583, 2, none⟩) (Kd.R_far (p := ⟨gb1583, 1, none⟩) (Kd.R_far (p := ⟨gb1583, 0, none⟩) (Kd.R_types HO1582.out BK1583.out (by decide)) (fun _ hk => hk.2) (.int .i64 t1578)) (fun _ hk => hk.2) (.int .i64 t1579)) (fun _ hk => hk.2) (.slice Ao43 t1580.length co43)) (fun _ h_ => h_.1)))); (case side2 => exact (Kd.R_reads' HO1582.out).2.1); rintro e w44 ⟨rfl, hb⟩; refine ⟨_, rfl, ?_⟩; have n0_ := Aside0.mk (Kd.R_below (by (with_reducible repeat (first | apply Kd.R_alloc | apply Kd.R_drewN | apply Kd.R_drew)); exact (Kd.R_mono (Kd.R_far (p := ⟨gb1583, 2, none⟩) (Kd.R_far (p := ⟨gb1583, 1, none⟩) (Kd.R_far (p := ⟨gb1583, 0, none⟩) (Kd.R_types HO_1561002.out BK1583.out (by decide)) (fun _ hk => hk.2) (.int .i64 t1578)) (fun _ hk => hk.2) (.int .i64 t1579)) (fun _ hk => hk.2) (.slice Ao43 t1580.length co43)) (fun _ h_ => h_.1))) hb); have n1_ := Aside0.mk (Kd.R_below (by (with_reducible repeat (first | apply Kd.R_alloc | apply Kd.R_drewN | apply Kd.R_drew)); exact (Kd.R_mono (Kd.R_far (p := ⟨gb1583, 2, none⟩) (Kd.R_far (p := ⟨gb1583, 1, none⟩) (Kd.R_far (p := ⟨gb1583, 0, none⟩) (Kd.R_types HO_1567002.out BK1583.out (by decide)) (fun _ hk => hk.2) (.int .i64 t1578)) (fun _ hk => hk.2) (.int .i64 t1579)) (fun _ hk => hk.2) (.slice Ao43 t1580.length co43)) (fun _ h_ => h_.1))) hb); have n2_ := Aside0.mk (Kd.R_below (by (with_reducible repeat (first | apply Kd.R_alloc | apply Kd.R_drewN | apply Kd.R_drew)); exact (Kd.R_mono (Kd.R_far (p := ⟨gb1583, 2, none⟩) (Kd.R_far (p := ⟨gb1583, 1, none⟩) (Kd.R_far (p := ⟨gb1583, 0, none⟩) (Kd.R_types HO1577.out BK1583.out (by decide)) (fun _ hk => hk.2) (.int .i64 t1578)) (fun _ hk => hk.2) (.int .i64 t1579)) (fun _ hk => hk.2) (.slice Ao43 t1580.length co43)) (fun _ h_ => h_.1))) hb); have n3_ := Aside0.mk (Kd.R_below (by (with_reducible repeat (first | apply Kd.R_alloc | apply Kd.R_drewN | apply Kd.R_drew)); exact (Kd.R_mono (Kd.R_far (p := ⟨gb1583, 2, none⟩) (Kd.R_far (p := ⟨gb1583, 1, none⟩) (Kd.R_far (p := ⟨gb1583, 0, none⟩) (Kd.R_types HO1582.out BK1583.out (by decide)) (fun _ hk => hk.2) (.int .i64 t1578)) (fun _ hk => hk.2) (.int .i64 t1579)) (fun _ hk => hk.2) (.slice Ao43 t1580.length co43)) (fun _ h_ => h_.1))) hb); have n4_ := Aside0.mk (blk_below (g := gb1560) (o := .cells #[.int .i64 t1555, .int .i64 t1556, .slice Ao9 t1557.length co9] 37 (0, 0)) (by (with_reducible repeat (first | refine blk_drewN ?_ _ | refine blk_drew ?_ | refine blk_alloc ?_ _)); refine blk_far ?_ NB1560_1583.out _; (with_reducible repeat (first | refine blk_drewN ?_ _ | refine blk_drew ?_ | refine blk_alloc ?_ _)); refine blk_far ?_ NB1560_1583.out _; (with_reducible repeat (first | refine blk_drewN ?_ _ | refine blk_drew ?_ | refine blk_alloc ?_ _)); refine blk_far ?_ NB1560_1583.out _; (with_reducible repeat (first | refine blk_drewN ?_ _ | refine blk_drew ?_ | refine blk_alloc ?_ _)); exact BK1560.out) hb); have n5_ := Aside0.mk (blk_below (g := gb1566) (o := .cells #[.int .i64 t1561, .int .i64 t1562, .slice Ao14 t1563.length co14] 37 (0, 0)) (by (with_reducible repeat (first | refine blk_drewN ?_ _ | refine blk_drew ?_ | refine blk_alloc ?_ _)); refine blk_far ?_ NB1566_1583.out _; (with_reducible repeat (first | refine blk_drewN ?_ _ | refine blk_drew ?_ | refine blk_alloc ?_ _)); refine blk_far ?_ NB1566_1583.out _; (with_reducible repeat (first | refine blk_drewN ?_ _ | refine blk_drew ?_ | refine blk_alloc ?_ _)); refine blk_far ?_ NB1566_1583.out _; (with_reducible repeat (first | refine blk_drewN ?_ _ | refine blk_drew ?_ | refine blk_alloc ?_ _)); exact BK1566.out) hb); have n6_ := Aside0.mk (blk_below (g := gb1583) (o := .cells #[.int .i64 t1578, .int .i64 t1579, .slice Ao43 t1580.length co43] 37 (0, 0)) (by (with_reducible repeat (first | refine blk_drewN ?_ _ | refine blk_drew ?_ | refine blk_alloc ?_ _)); refine blk_put (cs := #[.int .i64 t1578, .int .i64 t1579, .slice none 0 0]) ?_ 2 _ rfl; (with_reducible repeat (first | refine blk_drewN ?_ _ | refine blk_drew ?_ | refine blk_alloc ?_ _)); refine blk_put (cs := #[.int .i64 t1578, .int .i64 0, .slice none 0 0]) ?_ 1 _ rfl; (with_reducible repeat (first | refine blk_drewN ?_ _ | refine blk_drew ?_ | refine blk_alloc ?_ _)); refine blk_put (cs := #[.int .i64 0, .int .i64 0, .slice none 0 0]) ?_ 0 _ rfl; (with_reducible repeat (first | refine blk_drewN ?_ _ | refine blk_drew ?_ | refine blk_alloc ?_ _)); exact BK1583.out) hb); have n7_ := Aside0.mk (below_step (by repeat (first | (with_reducible first | exact HB.out | apply below_alloc | apply pw_below_drewN | apply below_drew1 | refine below_set ?_ GE1560.out | refine below_set ?_ GE1566.out | refine below_set ?_ GE1583.out) | exact HB.out)) hb); clear HO_1561002; clear HO_1567002; clear HO1577; clear HO1582; clear BK1560; clear BK1566; clear BK1583; clear HB; have HO_1561002 := n0_; have HO_1567002 := n1_; have HO1577 := n2_; have HO1582 := n3_; have BK1560 := n4_; have BK1566 := n5_; have BK1583 := n6_; have HB := n7_; clear n0_ n1_ n2_ n3_ n4_ n5_ n6_ n7_; (try clear hb); (try clear hb2); (try clear hk); (try clear hi)))
            go_ret
            exact ⟨by first | rfl | (simp [errW_none, errW_some] <;> rfl) | (simp [*, errW_none, errW_some] <;> rfl), by repeat (first | (with_reducible first | exact HB.out | apply below_alloc | apply pw_below_drewN | apply below_drew1 | refine below_set ?_ GE1560.out | refine below_set ?_ GE1566.out | refine below_set ?_ GE1583.out) | exact HB.out)⟩
          · replace c35 := Bool.eq_false_iff.mpr c35
            subst c35
            have H1 : ((impl_NegativePicture.f t1578 t1579 t1580).bind fun bt1585 => ((impl_SumInk.f kj4 bt1585.1 bt1585.2.1 bt1585.2.2).bind fun t1591 => ((laws_total.f kj4 t1580).bind fun t1592 => (if (wrap64 (t1591 + t1592)) = (wrap64 (255 * (t1580.length : Int))) then ((impl_IsPlate.f bt1585.1 bt1585.2.1 bt1585.2.2).bind fun t1593 => (if t1593 = true then (some true) else ((impl_NegativePicture.f bt1585.1 bt1585.2.1 bt1585.2.2).bind fun bt1594 => ((laws_same.f kj4 bt1594.1 bt1594.2.1 bt1594.2.2 t1578 t1579 t1580).bind fun t1599 => (some t1599))))) else (some false))))) = some r := by rw [if_neg (show ¬ (false = true) by decide)] at H; exact H
            clear H
            have H := H1
            clear H1
            replace H := Option.bind_eq_some_iff.mp H
            obtain ⟨⟨t1585, t1586, t1587⟩, A450, H⟩ := H
            replace H : ((impl_SumInk.f kj4 t1585 t1586 t1587).bind fun t1591 => ((laws_total.f kj4 t1580).bind fun t1592 => (if (wrap64 (t1591 + t1592)) = (wrap64 (255 * (t1580.length : Int))) then ((impl_IsPlate.f t1585 t1586 t1587).bind fun t1593 => (if t1593 = true then (some true) else ((impl_NegativePicture.f t1585 t1586 t1587).bind fun bt1594 => ((laws_same.f kj4 bt1594.1 bt1594.2.1 bt1594.2.2 t1578 t1579 t1580).bind fun t1599 => (some t1599))))) else (some false)))) = some r := H
            have A45 := Aside0.mk A450
            clear A450
            replace H := Option.bind_eq_some_iff.mp H
            obtain ⟨t1591, A460, H⟩ := H
            replace H : ((laws_total.f kj4 t1580).bind fun t1592 => (if (wrap64 (t1591 + t1592)) = (wrap64 (255 * (t1580.length : Int))) then ((impl_IsPlate.f t1585 t1586 t1587).bind fun t1593 => (if t1593 = true then (some true) else ((impl_NegativePicture.f t1585 t1586 t1587).bind fun bt1594 => ((laws_same.f kj4 bt1594.1 bt1594.2.1 bt1594.2.2 t1578 t1579 t1580).bind fun t1599 => (some t1599))))) else (some false))) = some r := H
            have A46 := Aside0.mk A460
            clear A460
            replace H := Option.bind_eq_some_iff.mp H
            obtain ⟨t1592, A470, H⟩ := H
            replace H : (if (wrap64 (t1591 + t1592)) = (wrap64 (255 * (t1580.length : Int))) then ((impl_IsPlate.f t1585 t1586 t1587).bind fun t1593 => (if t1593 = true then (some true) else ((impl_NegativePicture.f t1585 t1586 t1587).bind fun bt1594 => ((laws_same.f kj4 bt1594.1 bt1594.2.1 bt1594.2.2 t1578 t1579 t1580).bind fun t1599 => (some t1599))))) else (some false)) = some r := H
            have A47 := Aside0.mk A470
            clear A470
            by_cases c48 : (wrap64 (t1591 + t1592)) = (wrap64 (255 * (t1580.length : Int)))
            · rw [if_pos c48] at H
              have c48b0 : ((wrap64 (t1591 + t1592)) == (wrap64 (255 * (t1580.length : Int)))) = true := beq_iff_eq.mpr c48
              have c48b1 : ((wrap64 (t1591 + t1592)) != (wrap64 (255 * (t1580.length : Int)))) = false := bne_eq_false_iff_eq.mpr c48
              clear c48
              replace H := Option.bind_eq_some_iff.mp H
              obtain ⟨t1593, A490, H⟩ := H
              replace H : (if t1593 = true then (some true) else ((impl_NegativePicture.f t1585 t1586 t1587).bind fun bt1594 => ((laws_same.f kj4 bt1594.1 bt1594.2.1 bt1594.2.2 t1578 t1579 t1580).bind fun t1599 => (some t1599)))) = some r := H
              have A49 := Aside0.mk A490
              clear A490
              by_cases c50 : t1593 = true
              · subst c50
                have H1 : (some true) = some r := by rw [if_pos rfl] at H; exact H
                clear H
                have H := H1
                clear H1
                obtain rfl := Option.some.inj H
                try go_wp2_with (first | ((with_reducible refine gate_callee (f := 68) rfl ?_); refine goesL_ (some 32) rfl rfl Try.func68 (by kernel_rfl) rfl #[.slice A0 l0.length c0, .int .i64 3] rfl (by (try simp only [List.map_toArray, List.map_cons, List.map_nil]); first | done | rfl | (simp only [List.length_drop, List.length_take]; rfl)) ?_; (with_reducible refine (laws_fresh.calls kj4 _ _ l0 3 t1575 _ ?side1 ?side2 A32.out).mono ?_); (case side1 => repeat (first | exact (Kd.C_below HR0.out HB.out) | (with_reducible refine Kd.C_alloc ?_ _) | (with_reducible refine Kd.C_drewN ?_ _) | (with_reducible refine Kd.C_drew ?_))); (case side2 => exact HC0.out); rintro e w51 ⟨v1576, rfl, ho0, hb⟩; refine ⟨_, rfl, ?_⟩; have n0_ := Aside0.mk (Kd.R_below (by (with_reducible repeat (first | apply Kd.R_alloc | apply Kd.R_drewN | apply Kd.R_drew)); exact HO_1561002.out) hb); have n1_ := Aside0.mk (Kd.R_below (by (with_reducible repeat (first | apply Kd.R_alloc | apply Kd.R_drewN | apply Kd.R_drew)); exact HO_1567002.out) hb); have n2_ := Aside0.mk (Kd.R_lower ho0 (below_size (by repeat (first | (with_reducible first | exact HB.out | apply below_alloc | apply pw_below_drewN | apply below_drew1 | refine below_set ?_ GE1560.out | refine below_set ?_ GE1566.out) | exact HB.out)))); have n3_ := Aside0.mk (blk_below (g := gb1560) (o := .cells #[.int .i64 t1555, .int .i64 t1556, .slice Ao9 t1557.length co9] 37 (0, 0)) (by (with_reducible repeat (first | refine blk_drewN ?_ _ | refine blk_drew ?_ | refine blk_alloc ?_ _)); exact BK1560.out) hb); have n4_ := Aside0.mk (blk_below (g := gb1566) (o := .cells #[.int .i64 t1561, .int .i64 t1562, .slice Ao14 t1563.length co14] 37 (0, 0)) (by (with_reducible repeat (first | refine blk_drewN ?_ _ | refine blk_drew ?_ | refine blk_alloc ?_ _)); exact BK1566.out) hb); have n5_ := Aside0.mk (below_step (by repeat (first | (with_reducible first | exact HB.out | apply below_alloc | apply pw_below_drewN | apply below_drew1 | refine below_set ?_ GE1560.out | refine below_set ?_ GE1566.out) | exact HB.out)) hb); clear HO_1561002; clear HO_1567002; clear BK1560; clear BK1566; clear HB; have HO_1561002 := n0_; have HO_1567002 := n1_; have HO1577 := n2_; have BK1560 := n3_; have BK1566 := n4_; have HB := n5_; clear n0_ n1_ n2_ n3_ n4_ n5_; (try clear hb); (try clear hb2); (try clear hk); (try clear hi); (try clear ho0); obtain ⟨Ao52, co52, eo52⟩ := Kd.R_slice HO1577.out; subst eo52) | ((with_reducible refine gate_callee (f := 67) rfl ?_); refine goesL_ (some 33) rfl rfl Try.func67 (by kernel_rfl) rfl #[.slice Ao52 t1575.length co52, .int .i64 9] rfl (by (try simp only [List.map_toArray, List.map_cons, List.map_nil]); first | done | rfl | (simp only [List.length_drop, List.length_take]; rfl)) ?_; (with_reducible refine (spec_MakePicture.calls kj4 _ _ t1575 9 t1578 t1579 t1580 _ ?side1 ?side2 A33.out).mono ?_); (case side1 => repeat (first | exact (Kd.R_reads' HO1577.out).2.2 | (with_reducible refine Kd.C_alloc ?_ _) | (with_reducible refine Kd.C_drewN ?_ _) | (with_reducible refine Kd.C_drew ?_))); (case side2 => exact (Kd.R_reads' HO1577.out).2.1); rintro e w53 ⟨v1581, rfl, ho0, hb⟩; refine ⟨_, rfl, ?_⟩; have n0_ := Aside0.mk (Kd.R_elder' (by (with_reducible repeat (first | apply Kd.R_alloc | apply Kd.R_drewN | apply Kd.R_drew)); exact HO_1561002.out) (Kd.R_base ho0) hb); have n1_ := Aside0.mk (Kd.R_elder' (by (with_reducible repeat (first | apply Kd.R_alloc | apply Kd.R_drewN | apply Kd.R_drew)); exact HO_1567002.out) (Kd.R_base ho0) hb); have n2_ := Aside0.mk (Kd.R_below (by (with_reducible repeat (first | apply Kd.R_alloc | apply Kd.R_drewN | apply Kd.R_drew)); exact HO1577.out) hb); have n3_ := Aside0.mk (Kd.R_lower (Kd.R_new' (Kd.R_new' ho0 (Kd.R_lt (by (with_reducible repeat (first | apply Kd.R_alloc | apply Kd.R_drewN | apply Kd.R_drew)); exact HO_1561002.out))) (Kd.R_lt (by (with_reducible repeat (first | apply Kd.R_alloc | apply Kd.R_drewN | apply Kd.R_drew)); exact HO_1567002.out))) (below_size (by repeat (first | (with_reducible first | exact HB.out | apply below_alloc | apply pw_below_drewN | apply below_drew1 | refine below_set ?_ GE1560.out | refine below_set ?_ GE1566.out) | exact HB.out)))); have n4_ := Aside0.mk (blk_below (g := gb1560) (o := .cells #[.int .i64 t1555, .int .i64 t1556, .slice Ao9 t1557.length co9] 37 (0, 0)) (by (with_reducible repeat (first | refine blk_drewN ?_ _ | refine blk_drew ?_ | refine blk_alloc ?_ _)); exact BK1560.out) hb); have n5_ := Aside0.mk (blk_below (g := gb1566) (o := .cells #[.int .i64 t1561, .int .i64 t1562, .slice Ao14 t1563.length co14] 37 (0, 0)) (by (with_reducible repeat (first | refine blk_drewN ?_ _ | refine blk_drew ?_ | refine blk_alloc ?_ _)); exact BK1566.out) hb); have n6_ := Aside0.mk (below_step (by repeat (first | (with_reducible first | exact HB.out | apply below_alloc | apply pw_below_drewN | apply below_drew1 | refine below_set ?_ GE1560.out | refine below_set ?_ GE1566.out) | exact HB.out)) hb); clear HO_1561002; clear HO_1567002; clear HO1577; clear BK1560; clear BK1566; clear HB; have HO_1561002 := n0_; have HO_1567002 := n1_; have HO1577 := n2_; have HO1582 := n3_; have BK1560 := n4_; have BK1566 := n5_; have HB := n6_; clear n0_ n1_ n2_ n3_ n4_ n5_ n6_; (try clear hb); (try clear hb2); (try clear hk); (try clear hi); (try clear ho0)) | ((with_reducible refine gate_dst (N := 5) rfl ?_); refine box_event ?hg (N := 5) ?hd (cs := #[.int .i64 0, .int .i64 0, .slice none 0 0]) (t := 37) ?hr ?_; (case hd => rfl); (case hg => rfl); (case hr => first | (go_simp; done) | (go_simp; rfl)); intro gb1583 hg w54 hbox hb; have n0_ := Aside0.mk (Kd.R_below (by (with_reducible repeat (first | apply Kd.R_alloc | apply Kd.R_drewN | apply Kd.R_drew)); exact HO_1561002.out) hb); have n1_ := Aside0.mk (Kd.R_below (by (with_reducible repeat (first | apply Kd.R_alloc | apply Kd.R_drewN | apply Kd.R_drew)); exact HO_1567002.out) hb); have n2_ := Aside0.mk (Kd.R_below (by (with_reducible repeat (first | apply Kd.R_alloc | apply Kd.R_drewN | apply Kd.R_drew)); exact HO1577.out) hb); have n3_ := Aside0.mk (Kd.R_below (by (with_reducible repeat (first | apply Kd.R_alloc | apply Kd.R_drewN | apply Kd.R_drew)); exact HO1582.out) hb); have n4_ := Aside0.mk (blk_below (g := gb1560) (o := .cells #[.int .i64 t1555, .int .i64 t1556, .slice Ao9 t1557.length co9] 37 (0, 0)) (by (with_reducible repeat (first | refine blk_drewN ?_ _ | refine blk_drew ?_ | refine blk_alloc ?_ _)); exact BK1560.out) hb); have n5_ := Aside0.mk (blk_below (g := gb1566) (o := .cells #[.int .i64 t1561, .int .i64 t1562, .slice Ao14 t1563.length co14] 37 (0, 0)) (by (with_reducible repeat (first | refine blk_drewN ?_ _ | refine blk_drew ?_ | refine blk_alloc ?_ _)); exact BK1566.out) hb); have n6_ := Aside0.mk (below_step (by repeat (first | (with_reducible first | exact HB.out | apply below_alloc | apply pw_below_drewN | apply below_drew1 | refine below_set ?_ GE1560.out | refine below_set ?_ GE1566.out) | exact HB.out)) hb); have n7_ := Aside0.mk (hbox); have n8_ := Aside0.mk ((by rw [hg]; exact (below_size (by repeat (first | (with_reducible first | exact HB.out | apply below_alloc | apply pw_below_drewN | apply below_drew1 | refine below_set ?_ GE1560.out | refine below_set ?_ GE1566.out) | exact HB.out))) : w.heap.size ≤ gb1583)); have n9_ := Aside0.mk ((by rw [hg]; exact (below_size (by repeat (first | (with_reducible first | exact HB.out | apply below_alloc | apply pw_below_drewN | apply below_drew1 | refine below_set ?_ GE1560.out | refine below_set ?_ GE1566.out) | exact HB.out))) : w.heap.size ≤ gb1583)); have n10_ := Aside0.mk ((by rw [hg]; exact Nat.ne_of_lt (blk_lt (g := gb1560) (o := .cells #[.int .i64 t1555, .int .i64 t1556, .slice Ao9 t1557.length co9] 37 (0, 0)) (by (with_reducible repeat (first | refine blk_drewN ?_ _ | refine blk_drew ?_ | refine blk_alloc ?_ _)); exact BK1560.out)) : gb1560 ≠ gb1583)); have n11_ := Aside0.mk ((by rw [hg]; exact Nat.ne_of_gt (blk_lt (g := gb1560) (o := .cells #[.int .i64 t1555, .int .i64 t1556, .slice Ao9 t1557.length co9] 37 (0, 0)) (by (with_reducible repeat (first | refine blk_drewN ?_ _ | refine blk_drew ?_ | refine blk_alloc ?_ _)); exact BK1560.out)) : gb1583 ≠ gb1560)); have n12_ := Aside0.mk ((by rw [hg]; exact Nat.ne_of_lt (blk_lt (g := gb1566) (o := .cells #[.int .i64 t1561, .int .i64 t1562, .slice Ao14 t1563.length co14] 37 (0, 0)) (by (with_reducible repeat (first | refine blk_drewN ?_ _ | refine blk_drew ?_ | refine blk_alloc ?_ _)); exact BK1566.out)) : gb1566 ≠ gb1583)); have n13_ := Aside0.mk ((by rw [hg]; exact Nat.ne_of_gt (blk_lt (g := gb1566) (o := .cells #[.int .i64 t1561, .int .i64 t1562, .slice Ao14 t1563.length co14] 37 (0, 0)) (by (with_reducible repeat (first | refine blk_drewN ?_ _ | refine blk_drew ?_ | refine blk_alloc ?_ _)); exact BK1566.out)) : gb1583 ≠ gb1566)); clear HO_1561002; clear HO_1567002; clear HO1577; clear HO1582; clear BK1560; clear BK1566; clear HB; have HO_1561002 := n0_; have HO_1567002 := n1_; have HO1577 := n2_; have HO1582 := n3_; have BK1560 := n4_; have BK1566 := n5_; have HB := n6_; have BK1583 := n7_; have GW1583 := n8_; have GE1583 := n9_; have NB1560_1583 := n10_; have NB1583_1560 := n11_; have NB1566_1583 := n12_; have NB1583_1566 := n13_; clear n0_ n1_ n2_ n3_ n4_ n5_ n6_ n7_ n8_ n9_ n10_ n11_ n12_ n13_; clear hb hbox hg; have hnb55 := NB1583_1560.out; have hnc55 := NB1560_1583.out; have hnb56 := NB1583_1566.out; have hnc56 := NB1566_1583.out; have hcz57_0 : w54.cell? ⟨gb1583, 0, none⟩ = some (.int .i64 0) := (blk_cell BK1583.out 0).trans rfl; have hcz57_1 : w54.cell? ⟨gb1583, 1, none⟩ = some (.int .i64 0) := (blk_cell BK1583.out 1).trans rfl; have hcz57_2 : w54.cell? ⟨gb1583, 2, none⟩ = some (.slice none 0 0) := (blk_cell BK1583.out 2).trans rfl; have hfz57_0 := blk_frozen BK1583.out 0; have hfz57_1 := blk_frozen BK1583.out 1; have hfz57_2 := blk_frozen BK1583.out 2; obtain ⟨Ao58, co58, eo58⟩ := Kd.R_slice HO1582.out; subst eo58) | ((with_reducible refine gate_callee (f := 62) rfl ?_); refine goesL_ (some 35) rfl rfl Try.func62 (by kernel_rfl) rfl #[.agg #[.int .i64 t1578, .int .i64 t1579, .slice Ao58 t1580.length co58]] rfl (by (try simp only [List.map_toArray, List.map_cons, List.map_nil]); first | done | rfl | (simp only [List.length_drop, List.length_take]; rfl)) ?_; (with_reducible refine (spec_IsPlate.calls kj4 t1578 t1579 _ _ t1580 false _ ?side1 ?side2 A34.out).mono ?_); (case side1 => refine (Kd.R_reads' (e := 3) (base := w.heap.size) (ok := fun k_ => ((True ∧ some k_ ≠ (.slice Ao9 t1557.length co9 : Value).ownBlock) ∧ some k_ ≠ (.slice Ao14 t1563.length co14 : Value).ownBlock)) (n := t1580.length) (c := co58) ?_).2.2; exact (by (with_reducible repeat (first | apply Kd.R_alloc | apply Kd.R_drewN | apply Kd.R_drew)); exact (Kd.R_mono (Kd.R_far (p := ⟨gb1583, 2, none⟩) (Kd.R_far (p := ⟨gb1583, 1, none⟩) (Kd.R_far (p := ⟨gb1583, 0, none⟩) (Kd.R_types HO1582.out BK1583.out (by decide)) (fun _ hk => hk.2) (.int .i64 t1578)) (fun _ hk => hk.2) (.int .i64 t1579)) (fun _ hk => hk.2) (.slice Ao58 t1580.length co58)) (fun _ h_ => h_.1)))); (case side2 => exact (Kd.R_reads' HO1582.out).2.1); rintro e w59 ⟨rfl, hb⟩; refine ⟨_, rfl, ?_⟩; have n0_ := Aside0.mk (Kd.R_below (by (with_reducible repeat (first | apply Kd.R_alloc | apply Kd.R_drewN | apply Kd.R_drew)); exact (Kd.R_mono (Kd.R_far (p := ⟨gb1583, 2, none⟩) (Kd.R_far (p := ⟨gb1583, 1, none⟩) (Kd.R_far (p := ⟨gb1583, 0, none⟩) (Kd.R_types HO_1561002.out BK1583.out (by decide)) (fun _ hk => hk.2) (.int .i64 t1578)) (fun _ hk => hk.2) (.int .i64 t1579)) (fun _ hk => hk.2) (.slice Ao58 t1580.length co58)) (fun _ h_ => h_.1))) hb); have n1_ := Aside0.mk (Kd.R_below (by (with_reducible repeat (first | apply Kd.R_alloc | apply Kd.R_drewN | apply Kd.R_drew)); exact (Kd.R_mono (Kd.R_far (p := ⟨gb1583, 2, none⟩) (Kd.R_far (p := ⟨gb1583, 1, none⟩) (Kd.R_far (p := ⟨gb1583, 0, none⟩) (Kd.R_types HO_1567002.out BK1583.out (by decide)) (fun _ hk => hk.2) (.int .i64 t1578)) (fun _ hk => hk.2) (.int .i64 t1579)) (fun _ hk => hk.2) (.slice Ao58 t1580.length co58)) (fun _ h_ => h_.1))) hb); have n2_ := Aside0.mk (Kd.R_below (by (with_reducible repeat (first | apply Kd.R_alloc | apply Kd.R_drewN | apply Kd.R_drew)); exact (Kd.R_mono (Kd.R_far (p := ⟨gb1583, 2, none⟩) (Kd.R_far (p := ⟨gb1583, 1, none⟩) (Kd.R_far (p := ⟨gb1583, 0, none⟩) (Kd.R_types HO1577.out BK1583.out (by decide)) (fun _ hk => hk.2) (.int .i64 t1578)) (fun _ hk => hk.2) (.int .i64 t1579)) (fun _ hk => hk.2) (.slice Ao58 t1580.length co58)) (fun _ h_ => h_.1))) hb); have n3_ := Aside0.mk (Kd.R_below (by (with_reducible repeat (first | apply Kd.R_alloc | apply Kd.R_drewN | apply Kd.R_drew)); exact (Kd.R_mono (Kd.R_far (p := ⟨gb1583, 2, none⟩) (Kd.R_far (p := ⟨gb1583, 1, none⟩) (Kd.R_far (p := ⟨gb1583, 0, none⟩) (Kd.R_types HO1582.out BK1583.out (by decide)) (fun _ hk => hk.2) (.int .i64 t1578)) (fun _ hk => hk.2) (.int .i64 t1579)) (fun _ hk => hk.2) (.slice Ao58 t1580.length co58)) (fun _ h_ => h_.1))) hb); have n4_ := Aside0.mk (blk_below (g := gb1560) (o := .cells #[.int .i64 t1555, .int .i64 t1556, .slice Ao9 t1557.length co9] 37 (0, 0)) (by (with_reducible repeat (first | refine blk_drewN ?_ _ | refine blk_drew ?_ | refine blk_alloc ?_ _)); refine blk_far ?_ NB1560_1583.out _; (with_reducible repeat (first | refine blk_drewN ?_ _ | refine blk_drew ?_ | refine blk_alloc ?_ _)); refine blk_far ?_ NB1560_1583.out _; (with_reducible repeat (first | refine blk_drewN ?_ _ | refine blk_drew ?_ | refine blk_alloc ?_ _)); refine blk_far ?_ NB1560_1583.out _; (with_reducible repeat (first | refine blk_drewN ?_ _ | refine blk_drew ?_ | refine blk_alloc ?_ _)); exact BK1560.out) hb); have n5_ := Aside0.mk (blk_below (g := gb1566) (o := .cells #[.int .i64 t1561, .int .i64 t1562, .slice Ao14 t1563.length co14] 37 (0, 0)) (by (with_reducible repeat (first | refine blk_drewN ?_ _ | refine blk_drew ?_ | refine blk_alloc ?_ _)); refine blk_far ?_ NB1566_1583.out _; (with_reducible repeat (first | refine blk_drewN ?_ _ | refine blk_drew ?_ | refine blk_alloc ?_ _)); refine blk_far ?_ NB1566_1583.out _; (with_reducible repeat (first | refine blk_drewN ?_ _ | refine blk_drew ?_ | refine blk_alloc ?_ _)); refine blk_far ?_ NB1566_1583.out _; (with_reducible repeat (first | refine blk_drewN ?_ _ | refine blk_drew ?_ | refine blk_alloc ?_ _)); exact BK1566.out) hb); have n6_ := Aside0.mk (blk_below (g := gb1583) (o := .cells #[.int .i64 t1578, .int .i64 t1579, .slice Ao58 t1580.length co58] 37 (0, 0)) (by (with_reducible repeat (first | refine blk_drewN ?_ _ | refine blk_drew ?_ | refine blk_alloc ?_ _)); refine blk_put (cs := #[.int .i64 t1578, .int .i64 t1579, .slice none 0 0]) ?_ 2 _ rfl; (with_reducible repeat (first | refine blk_drewN ?_ _ | refine blk_drew ?_ | refine blk_alloc ?_ _)); refine blk_put (cs := #[.int .i64 t1578, .int .i64 0, .slice none 0 0]) ?_ 1 _ rfl; (with_reducible repeat (first | refine blk_drewN ?_ _ | refine blk_drew ?_ | refine blk_alloc ?_ _)); refine blk_put (cs := #[.int .i64 0, .int .i64 0, .slice none 0 0]) ?_ 0 _ rfl; (with_reducible repeat (first | refine blk_drewN ?_ _ | refine blk_drew ?_ | refine blk_alloc ?_ _)); exact BK1583.out) hb); have n7_ := Aside0.mk (below_step (by repeat (first | (with_reducible first | exact HB.out | apply below_alloc | apply pw_below_drewN | apply below_drew1 | refine below_set ?_ GE1560.out | refine below_set ?_ GE1566.out | refine below_set ?_ GE1583.out) | exact HB.out)) hb); clear HO_1561002; clear HO_1567002; clear HO1577; clear HO1582; clear BK1560; clear BK1566; clear BK1583; clear HB; have HO_1561002 := n0_; have HO_1567002 := n1_; have HO1577 := n2_; have HO1582 := n3_; have BK1560 := n4_; have BK1566 := n5_; have BK1583 := n6_; have HB := n7_; clear n0_ n1_ n2_ n3_ n4_ n5_ n6_ n7_; (try clear hb); (try clear hb2); (try clear hk); (try clear hi); have hcz60_0 : w59.cell? ⟨gb1583, 0, none⟩ = some (.int .i64 t1578) := (blk_cell BK1583.out 0).trans rfl; have hcz60_1 : w59.cell? ⟨gb1583, 1, none⟩ = some (.int .i64 t1579) := (blk_cell BK1583.out 1).trans rfl; have hcz60_2 : w59.cell? ⟨gb1583, 2, none⟩ = some (.slice Ao58 t1580.length co58) := (blk_cell BK1583.out 2).trans rfl; have hfz60_0 := blk_frozen BK1583.out 0; have hfz60_1 := blk_frozen BK1583.out 1; have hfz60_2 := blk_frozen BK1583.out 2) | ((with_reducible refine gate_callee (f := 97) rfl ?_); refine goesL_ (some 37) rfl rfl Try.func97 (by kernel_rfl) rfl #[.agg #[.int .i64 t1578, .int .i64 t1579, .slice Ao58 t1580.length co58]] rfl (by (try simp only [List.map_toArray, List.map_cons, List.map_nil]); first | done | rfl | (simp only [List.length_drop, List.length_take]; rfl)) ?_; (with_reducible refine (impl_NegativePicture.calls t1578 t1579 _ _ t1580 t1585 t1586 t1587 _ ?side1 ?side2 A45.out).mono ?_); (case side1 => repeat (first | exact (Kd.R_reads' HO1582.out).2.2 | (with_reducible refine Kd.C_alloc ?_ _) | (with_reducible refine Kd.C_drewN ?_ _) | (with_reducible refine Kd.C_drew ?_))); (case side2 => exact (Kd.R_reads' HO1582.out).2.1); rintro e w61 ⟨v1588, rfl, ho0, hb⟩; refine ⟨_, rfl, ?_⟩; have n0_ := Aside0.mk (Kd.R_elder' (by (with_reducible repeat (first | apply Kd.R_alloc | apply Kd.R_drewN | apply Kd.R_drew)); exact HO_1561002.out) (Kd.R_base ho0) hb); have n1_ := Aside0.mk (Kd.R_elder' (by (with_reducible repeat (first | apply Kd.R_alloc | apply Kd.R_drewN | apply Kd.R_drew)); exact HO_1567002.out) (Kd.R_base ho0) hb); have n2_ := Aside0.mk (Kd.R_below (by (with_reducible repeat (first | apply Kd.R_alloc | apply Kd.R_drewN | apply Kd.R_drew)); exact HO1577.out) hb); have n3_ := Aside0.mk (Kd.R_elder' (by (with_reducible repeat (first | apply Kd.R_alloc | apply Kd.R_drewN | apply Kd.R_drew)); exact HO1582.out) (Kd.R_base ho0) hb); have n4_ := Aside0.mk (Kd.R_lower (Kd.R_new' (Kd.R_new' (Kd.R_new' ho0 (Kd.R_lt (by (with_reducible repeat (first | apply Kd.R_alloc | apply Kd.R_drewN | apply Kd.R_drew)); exact HO_1561002.out))) (Kd.R_lt (by (with_reducible repeat (first | apply Kd.R_alloc | apply Kd.R_drewN | apply Kd.R_drew)); exact HO_1567002.out))) (Kd.R_lt (by (with_reducible repeat (first | apply Kd.R_alloc | apply Kd.R_drewN | apply Kd.R_drew)); exact HO1582.out))) (below_size (by repeat (first | (with_reducible first | exact HB.out | apply below_alloc | apply pw_below_drewN | apply below_drew1 | refine below_set ?_ GE1560.out | refine below_set ?_ GE1566.out | refine below_set ?_ GE1583.out) | exact HB.out)))); have n5_ := Aside0.mk (blk_below (g := gb1560) (o := .cells #[.int .i64 t1555, .int .i64 t1556, .slice Ao9 t1557.length co9] 37 (0, 0)) (by (with_reducible repeat (first | refine blk_drewN ?_ _ | refine blk_drew ?_ | refine blk_alloc ?_ _)); exact BK1560.out) hb); have n6_ := Aside0.mk (blk_below (g := gb1566) (o := .cells #[.int .i64 t1561, .int .i64 t1562, .slice Ao14 t1563.length co14] 37 (0, 0)) (by (with_reducible repeat (first | refine blk_drewN ?_ _ | refine blk_drew ?_ | refine blk_alloc ?_ _)); exact BK1566.out) hb); have n7_ := Aside0.mk (blk_below (g := gb1583) (o := .cells #[.int .i64 t1578, .int .i64 t1579, .slice Ao58 t1580.length co58] 37 (0, 0)) (by (with_reducible repeat (first | refine blk_drewN ?_ _ | refine blk_drew ?_ | refine blk_alloc ?_ _)); exact BK1583.out) hb); have n8_ := Aside0.mk (below_step (by repeat (first | (with_reducible first | exact HB.out | apply below_alloc | apply pw_below_drewN | apply below_drew1 | refine below_set ?_ GE1560.out | refine below_set ?_ GE1566.out | refine below_set ?_ GE1583.out) | exact HB.out)) hb); clear HO_1561002; clear HO_1567002; clear HO1577; clear HO1582; clear BK1560; clear BK1566; clear BK1583; clear HB; have HO_1561002 := n0_; have HO_1567002 := n1_; have HO1577 := n2_; have HO1582 := n3_; have HO1589 := n4_; have BK1560 := n5_; have BK1566 := n6_; have BK1583 := n7_; have HB := n8_; clear n0_ n1_ n2_ n3_ n4_ n5_ n6_ n7_ n8_; (try clear hb); (try clear hb2); (try clear hk); (try clear hi); (try clear ho0)) | ((with_reducible refine gate_dst (N := 6) rfl ?_); refine box_event ?hg (N := 6) ?hd (cs := #[.int .i64 0, .int .i64 0, .slice none 0 0]) (t := 37) ?hr ?_; (case hd => rfl); (case hg => rfl); (case hr => first | (go_simp; done) | (go_simp; rfl)); intro gb1590 hg w62 hbox hb; have n0_ := Aside0.mk (Kd.R_below (by (with_reducible repeat (first | apply Kd.R_alloc | apply Kd.R_drewN | apply Kd.R_drew)); exact HO_1561002.out) hb); have n1_ := Aside0.mk (Kd.R_below (by (with_reducible repeat (first | apply Kd.R_alloc | apply Kd.R_drewN | apply Kd.R_drew)); exact HO_1567002.out) hb); have n2_ := Aside0.mk (Kd.R_below (by (with_reducible repeat (first | apply Kd.R_alloc | apply Kd.R_drewN | apply Kd.R_drew)); exact HO1577.out) hb); have n3_ := Aside0.mk (Kd.R_below (by (with_reducible repeat (first | apply Kd.R_alloc | apply Kd.R_drewN | apply Kd.R_drew)); exact HO1582.out) hb); have n4_ := Aside0.mk (Kd.R_below (by (with_reducible repeat (first | apply Kd.R_alloc | apply Kd.R_drewN | apply Kd.R_drew)); exact HO1589.out) hb); have n5_ := Aside0.mk (blk_below (g := gb1560) (o := .cells #[.int .i64 t1555, .int .i64 t1556, .slice Ao9 t1557.length co9] 37 (0, 0)) (by (with_reducible repeat (first | refine blk_drewN ?_ _ | refine blk_drew ?_ | refine blk_alloc ?_ _)); exact BK1560.out) hb); have n6_ := Aside0.mk (blk_below (g := gb1566) (o := .cells #[.int .i64 t1561, .int .i64 t1562, .slice Ao14 t1563.length co14] 37 (0, 0)) (by (with_reducible repeat (first | refine blk_drewN ?_ _ | refine blk_drew ?_ | refine blk_alloc ?_ _)); exact BK1566.out) hb); have n7_ := Aside0.mk (blk_below (g := gb1583) (o := .cells #[.int .i64 t1578, .int .i64 t1579, .slice Ao58 t1580.length co58] 37 (0, 0)) (by (with_reducible repeat (first | refine blk_drewN ?_ _ | refine blk_drew ?_ | refine blk_alloc ?_ _)); exact BK1583.out) hb); have n8_ := Aside0.mk (below_step (by repeat (first | (with_reducible first | exact HB.out | apply below_alloc | apply pw_below_drewN | apply below_drew1 | refine below_set ?_ GE1560.out | refine below_set ?_ GE1566.out | refine below_set ?_ GE1583.out) | exact HB.out)) hb); have n9_ := Aside0.mk (hbox); have n10_ := Aside0.mk ((by rw [hg]; exact (below_size (by repeat (first | (with_reducible first | exact HB.out | apply below_alloc | apply pw_below_drewN | apply below_drew1 | refine below_set ?_ GE1560.out | refine below_set ?_ GE1566.out | refine below_set ?_ GE1583.out) | exact HB.out))) : w.heap.size ≤ gb1590)); have n11_ := Aside0.mk ((by rw [hg]; exact (below_size (by repeat (first | (with_reducible first | exact HB.out | apply below_alloc | apply pw_below_drewN | apply below_drew1 | refine below_set ?_ GE1560.out | refine below_set ?_ GE1566.out | refine below_set ?_ GE1583.out) | exact HB.out))) : w.heap.size ≤ gb1590)); have n12_ := Aside0.mk ((by rw [hg]; exact Nat.ne_of_lt (blk_lt (g := gb1560) (o := .cells #[.int .i64 t1555, .int .i64 t1556, .slice Ao9 t1557.length co9] 37 (0, 0)) (by (with_reducible repeat (first | refine blk_drewN ?_ _ | refine blk_drew ?_ | refine blk_alloc ?_ _)); exact BK1560.out)) : gb1560 ≠ gb1590)); have n13_ := Aside0.mk ((by rw [hg]; exact Nat.ne_of_gt (blk_lt (g := gb1560) (o := .cells #[.int .i64 t1555, .int .i64 t1556, .slice Ao9 t1557.length co9] 37 (0, 0)) (by (with_reducible repeat (first | refine blk_drewN ?_ _ | refine blk_drew ?_ | refine blk_alloc ?_ _)); exact BK1560.out)) : gb1590 ≠ gb1560)); have n14_ := Aside0.mk ((by rw [hg]; exact Nat.ne_of_lt (blk_lt (g := gb1566) (o := .cells #[.int .i64 t1561, .int .i64 t1562, .slice Ao14 t1563.length co14] 37 (0, 0)) (by (with_reducible repeat (first | refine blk_drewN ?_ _ | refine blk_drew ?_ | refine blk_alloc ?_ _)); exact BK1566.out)) : gb1566 ≠ gb1590)); have n15_ := Aside0.mk ((by rw [hg]; exact Nat.ne_of_gt (blk_lt (g := gb1566) (o := .cells #[.int .i64 t1561, .int .i64 t1562, .slice Ao14 t1563.length co14] 37 (0, 0)) (by (with_reducible repeat (first | refine blk_drewN ?_ _ | refine blk_drew ?_ | refine blk_alloc ?_ _)); exact BK1566.out)) : gb1590 ≠ gb1566)); have n16_ := Aside0.mk ((by rw [hg]; exact Nat.ne_of_lt (blk_lt (g := gb1583) (o := .cells #[.int .i64 t1578, .int .i64 t1579, .slice Ao58 t1580.length co58] 37 (0, 0)) (by (with_reducible repeat (first | refine blk_drewN ?_ _ | refine blk_drew ?_ | refine blk_alloc ?_ _)); exact BK1583.out)) : gb1583 ≠ gb1590)); have n17_ := Aside0.mk ((by rw [hg]; exact Nat.ne_of_gt (blk_lt (g := gb1583) (o := .cells #[.int .i64 t1578, .int .i64 t1579, .slice Ao58 t1580.length co58] 37 (0, 0)) (by (with_reducible repeat (first | refine blk_drewN ?_ _ | refine blk_drew ?_ | refine blk_alloc ?_ _)); exact BK1583.out)) : gb1590 ≠ gb1583)); clear HO_1561002; clear HO_1567002; clear HO1577; clear HO1582; clear HO1589; clear BK1560; clear BK1566; clear BK1583; clear HB; have HO_1561002 := n0_; have HO_1567002 := n1_; have HO1577 := n2_; have HO1582 := n3_; have HO1589 := n4_; have BK1560 := n5_; have BK1566 := n6_; have BK1583 := n7_; have HB := n8_; have BK1590 := n9_; have GW1590 := n10_; have GE1590 := n11_; have NB1560_1590 := n12_; have NB1590_1560 := n13_; have NB1566_1590 := n14_; have NB1590_1566 := n15_; have NB1583_1590 := n16_; have NB1590_1583 := n17_; clear n0_ n1_ n2_ n3_ n4_ n5_ n6_ n7_ n8_ n9_ n10_ n11_ n12_ n13_ n14_ n15_ n16_ n17_; clear hb hbox hg; have hnb63 := NB1590_1560.out; have hnc63 := NB1560_1590.out; have hnb64 := NB1590_1566.out; have hnc64 := NB1566_1590.out; have hnb65 := NB1590_1583.out; have hnc65 := NB1583_1590.out; have hcz66_0 : w62.cell? ⟨gb1590, 0, none⟩ = some (.int .i64 0) := (blk_cell BK1590.out 0).trans rfl; have hcz66_1 : w62.cell? ⟨gb1590, 1, none⟩ = some (.int .i64 0) := (blk_cell BK1590.out 1).trans rfl; have hcz66_2 : w62.cell? ⟨gb1590, 2, none⟩ = some (.slice none 0 0) := (blk_cell BK1590.out 2).trans rfl; have hfz66_0 := blk_frozen BK1590.out 0; have hfz66_1 := blk_frozen BK1590.out 1; have hfz66_2 := blk_frozen BK1590.out 2; obtain ⟨Ao67, co67, eo67⟩ := Kd.R_slice HO1589.out; subst eo67))
                have n0_ : Aside0 (Kd.R (Kd.int .i64) 3 (((w62.setCell ⟨gb1590, 0, none⟩ (.int .i64 t1585)).setCell ⟨gb1590, 1, none⟩ (.int .i64 t1586)).setCell ⟨gb1590, 2, none⟩ (.slice Ao67 t1587.length co67)) w.heap.size (fun k_ => some k_ ≠ (.slice Ao14 t1563.length co14 : Value).ownBlock ∧ some k_ ≠ (.slice Ao58 t1580.length co58 : Value).ownBlock ∧ some k_ ≠ (.slice Ao67 t1587.length co67 : Value).ownBlock) (.slice Ao9 t1557.length co9) t1557) := ⟨by (with_reducible repeat (first | apply Kd.R_alloc | apply Kd.R_drewN | apply Kd.R_drew)); exact Kd.R_mono (Kd.R_far (p := ⟨gb1590, 2, none⟩) (Kd.R_far (p := ⟨gb1590, 1, none⟩) (Kd.R_far (p := ⟨gb1590, 0, none⟩) (Kd.R_types HO_1561002.out BK1590.out (by decide)) (fun _ hk => hk.2) (.int .i64 t1585)) (fun _ hk => hk.2) (.int .i64 t1586)) (fun _ hk => hk.2) (.slice Ao67 t1587.length co67)) (fun _ hk => ⟨hk.1.1.1, ⟨hk.1.1.2, hk.1.2⟩⟩)⟩
                have n1_ : Aside0 (Kd.R (Kd.int .i64) 3 (((w62.setCell ⟨gb1590, 0, none⟩ (.int .i64 t1585)).setCell ⟨gb1590, 1, none⟩ (.int .i64 t1586)).setCell ⟨gb1590, 2, none⟩ (.slice Ao67 t1587.length co67)) w.heap.size (fun k_ => some k_ ≠ (.slice Ao9 t1557.length co9 : Value).ownBlock ∧ some k_ ≠ (.slice Ao58 t1580.length co58 : Value).ownBlock ∧ some k_ ≠ (.slice Ao67 t1587.length co67 : Value).ownBlock) (.slice Ao14 t1563.length co14) t1563) := ⟨by (with_reducible repeat (first | apply Kd.R_alloc | apply Kd.R_drewN | apply Kd.R_drew)); exact Kd.R_mono (Kd.R_far (p := ⟨gb1590, 2, none⟩) (Kd.R_far (p := ⟨gb1590, 1, none⟩) (Kd.R_far (p := ⟨gb1590, 0, none⟩) (Kd.R_types HO_1567002.out BK1590.out (by decide)) (fun _ hk => hk.2) (.int .i64 t1585)) (fun _ hk => hk.2) (.int .i64 t1586)) (fun _ hk => hk.2) (.slice Ao67 t1587.length co67)) (fun _ hk => ⟨hk.1.1.1, ⟨hk.1.1.2, hk.1.2⟩⟩)⟩
                have n2_ : Aside0 (Kd.R (Kd.int .u8) 5 (((w62.setCell ⟨gb1590, 0, none⟩ (.int .i64 t1585)).setCell ⟨gb1590, 1, none⟩ (.int .i64 t1586)).setCell ⟨gb1590, 2, none⟩ (.slice Ao67 t1587.length co67)) w.heap.size (fun _ => True) (.slice Ao52 t1575.length co52) t1575) := ⟨by (with_reducible repeat (first | apply Kd.R_alloc | apply Kd.R_drewN | apply Kd.R_drew)); exact Kd.R_mono (Kd.R_far (p := ⟨gb1590, 2, none⟩) (Kd.R_far (p := ⟨gb1590, 1, none⟩) (Kd.R_far (p := ⟨gb1590, 0, none⟩) (Kd.R_types HO1577.out BK1590.out (by decide)) (fun _ hk => hk.2) (.int .i64 t1585)) (fun _ hk => hk.2) (.int .i64 t1586)) (fun _ hk => hk.2) (.slice Ao67 t1587.length co67)) (fun _ hk => trivial)⟩
                have n3_ : Aside0 (Kd.R (Kd.int .i64) 3 (((w62.setCell ⟨gb1590, 0, none⟩ (.int .i64 t1585)).setCell ⟨gb1590, 1, none⟩ (.int .i64 t1586)).setCell ⟨gb1590, 2, none⟩ (.slice Ao67 t1587.length co67)) w.heap.size (fun k_ => some k_ ≠ (.slice Ao9 t1557.length co9 : Value).ownBlock ∧ some k_ ≠ (.slice Ao14 t1563.length co14 : Value).ownBlock ∧ some k_ ≠ (.slice Ao67 t1587.length co67 : Value).ownBlock) (.slice Ao58 t1580.length co58) t1580) := ⟨by (with_reducible repeat (first | apply Kd.R_alloc | apply Kd.R_drewN | apply Kd.R_drew)); exact Kd.R_mono (Kd.R_far (p := ⟨gb1590, 2, none⟩) (Kd.R_far (p := ⟨gb1590, 1, none⟩) (Kd.R_far (p := ⟨gb1590, 0, none⟩) (Kd.R_types HO1582.out BK1590.out (by decide)) (fun _ hk => hk.2) (.int .i64 t1585)) (fun _ hk => hk.2) (.int .i64 t1586)) (fun _ hk => hk.2) (.slice Ao67 t1587.length co67)) (fun _ hk => ⟨hk.1.1.1.2, ⟨hk.1.1.2, hk.1.2⟩⟩)⟩
                have n4_ : Aside0 (Kd.R (Kd.int .i64) 3 (((w62.setCell ⟨gb1590, 0, none⟩ (.int .i64 t1585)).setCell ⟨gb1590, 1, none⟩ (.int .i64 t1586)).setCell ⟨gb1590, 2, none⟩ (.slice Ao67 t1587.length co67)) w.heap.size (fun k_ => some k_ ≠ (.slice Ao9 t1557.length co9 : Value).ownBlock ∧ some k_ ≠ (.slice Ao14 t1563.length co14 : Value).ownBlock ∧ some k_ ≠ (.slice Ao58 t1580.length co58 : Value).ownBlock) (.slice Ao67 t1587.length co67) t1587) := ⟨by (with_reducible repeat (first | apply Kd.R_alloc | apply Kd.R_drewN | apply Kd.R_drew)); exact Kd.R_mono (Kd.R_far (p := ⟨gb1590, 2, none⟩) (Kd.R_far (p := ⟨gb1590, 1, none⟩) (Kd.R_far (p := ⟨gb1590, 0, none⟩) (Kd.R_types HO1589.out BK1590.out (by decide)) (fun _ hk => hk.2) (.int .i64 t1585)) (fun _ hk => hk.2) (.int .i64 t1586)) (fun _ hk => hk.2) (.slice Ao67 t1587.length co67)) (fun _ hk => ⟨hk.1.1.1.2, ⟨hk.1.1.2, hk.1.2⟩⟩)⟩
                have n5_ : Aside0 ((((w62.setCell ⟨gb1590, 0, none⟩ (.int .i64 t1585)).setCell ⟨gb1590, 1, none⟩ (.int .i64 t1586)).setCell ⟨gb1590, 2, none⟩ (.slice Ao67 t1587.length co67)).heap[gb1560]? = some (.cells #[.int .i64 t1555, .int .i64 t1556, .slice Ao9 t1557.length co9] 37 (0, 0))) := ⟨by (with_reducible repeat (first | refine blk_drewN ?_ _ | refine blk_drew ?_ | refine blk_alloc ?_ _)); refine blk_far ?_ NB1560_1590.out _; (with_reducible repeat (first | refine blk_drewN ?_ _ | refine blk_drew ?_ | refine blk_alloc ?_ _)); refine blk_far ?_ NB1560_1590.out _; (with_reducible repeat (first | refine blk_drewN ?_ _ | refine blk_drew ?_ | refine blk_alloc ?_ _)); refine blk_far ?_ NB1560_1590.out _; (with_reducible repeat (first | refine blk_drewN ?_ _ | refine blk_drew ?_ | refine blk_alloc ?_ _)); exact BK1560.out⟩
                have n6_ : Aside0 ((((w62.setCell ⟨gb1590, 0, none⟩ (.int .i64 t1585)).setCell ⟨gb1590, 1, none⟩ (.int .i64 t1586)).setCell ⟨gb1590, 2, none⟩ (.slice Ao67 t1587.length co67)).heap[gb1566]? = some (.cells #[.int .i64 t1561, .int .i64 t1562, .slice Ao14 t1563.length co14] 37 (0, 0))) := ⟨by (with_reducible repeat (first | refine blk_drewN ?_ _ | refine blk_drew ?_ | refine blk_alloc ?_ _)); refine blk_far ?_ NB1566_1590.out _; (with_reducible repeat (first | refine blk_drewN ?_ _ | refine blk_drew ?_ | refine blk_alloc ?_ _)); refine blk_far ?_ NB1566_1590.out _; (with_reducible repeat (first | refine blk_drewN ?_ _ | refine blk_drew ?_ | refine blk_alloc ?_ _)); refine blk_far ?_ NB1566_1590.out _; (with_reducible repeat (first | refine blk_drewN ?_ _ | refine blk_drew ?_ | refine blk_alloc ?_ _)); exact BK1566.out⟩
                have n7_ : Aside0 ((((w62.setCell ⟨gb1590, 0, none⟩ (.int .i64 t1585)).setCell ⟨gb1590, 1, none⟩ (.int .i64 t1586)).setCell ⟨gb1590, 2, none⟩ (.slice Ao67 t1587.length co67)).heap[gb1583]? = some (.cells #[.int .i64 t1578, .int .i64 t1579, .slice Ao58 t1580.length co58] 37 (0, 0))) := ⟨by (with_reducible repeat (first | refine blk_drewN ?_ _ | refine blk_drew ?_ | refine blk_alloc ?_ _)); refine blk_far ?_ NB1583_1590.out _; (with_reducible repeat (first | refine blk_drewN ?_ _ | refine blk_drew ?_ | refine blk_alloc ?_ _)); refine blk_far ?_ NB1583_1590.out _; (with_reducible repeat (first | refine blk_drewN ?_ _ | refine blk_drew ?_ | refine blk_alloc ?_ _)); refine blk_far ?_ NB1583_1590.out _; (with_reducible repeat (first | refine blk_drewN ?_ _ | refine blk_drew ?_ | refine blk_alloc ?_ _)); exact BK1583.out⟩
                have n8_ : Aside0 ((((w62.setCell ⟨gb1590, 0, none⟩ (.int .i64 t1585)).setCell ⟨gb1590, 1, none⟩ (.int .i64 t1586)).setCell ⟨gb1590, 2, none⟩ (.slice Ao67 t1587.length co67)).heap[gb1590]? = some (.cells #[.int .i64 t1585, .int .i64 t1586, .slice Ao67 t1587.length co67] 37 (0, 0))) := ⟨by (with_reducible repeat (first | refine blk_drewN ?_ _ | refine blk_drew ?_ | refine blk_alloc ?_ _)); refine blk_put (cs := #[.int .i64 t1585, .int .i64 t1586, .slice none 0 0]) ?_ 2 _ rfl; (with_reducible repeat (first | refine blk_drewN ?_ _ | refine blk_drew ?_ | refine blk_alloc ?_ _)); refine blk_put (cs := #[.int .i64 t1585, .int .i64 0, .slice none 0 0]) ?_ 1 _ rfl; (with_reducible repeat (first | refine blk_drewN ?_ _ | refine blk_drew ?_ | refine blk_alloc ?_ _)); refine blk_put (cs := #[.int .i64 0, .int .i64 0, .slice none 0 0]) ?_ 0 _ rfl; (with_reducible repeat (first | refine blk_drewN ?_ _ | refine blk_drew ?_ | refine blk_alloc ?_ _)); exact BK1590.out⟩
                have n9_ : Aside0 (Below w.heap.size w (((w62.setCell ⟨gb1590, 0, none⟩ (.int .i64 t1585)).setCell ⟨gb1590, 1, none⟩ (.int .i64 t1586)).setCell ⟨gb1590, 2, none⟩ (.slice Ao67 t1587.length co67))) := ⟨by repeat (first | (with_reducible first | exact HB.out | apply below_alloc | apply pw_below_drewN | apply below_drew1 | refine below_set ?_ GE1560.out | refine below_set ?_ GE1566.out | refine below_set ?_ GE1583.out | refine below_set ?_ GE1590.out) | exact HB.out)⟩
                (try clear HO_1561002)
                (try clear HO_1567002)
                (try clear HO1577)
                (try clear HO1582)
                (try clear HO1589)
                (try clear BK1560)
                (try clear BK1566)
                (try clear BK1583)
                (try clear BK1590)
                (try clear HB)
                generalize (((w62.setCell ⟨gb1590, 0, none⟩ (.int .i64 t1585)).setCell ⟨gb1590, 1, none⟩ (.int .i64 t1586)).setCell ⟨gb1590, 2, none⟩ (.slice Ao67 t1587.length co67)) = w68 at n0_ n1_ n2_ n3_ n4_ n5_ n6_ n7_ n8_ n9_ ⊢
                have HO_1561002 := n0_
                have HO_1567002 := n1_
                have HO1577 := n2_
                have HO1582 := n3_
                have HO1589 := n4_
                have BK1560 := n5_
                have BK1566 := n6_
                have BK1583 := n7_
                have BK1590 := n8_
                have HB := n9_
                clear n0_ n1_ n2_ n3_ n4_ n5_ n6_ n7_ n8_ n9_
                have n0_ := Aside0.mk (Kd.R_drew HO_1561002.out)
                have n1_ := Aside0.mk (Kd.R_drew HO_1567002.out)
                have n2_ := Aside0.mk (Kd.R_drew HO1577.out)
                have n3_ := Aside0.mk (Kd.R_drew HO1582.out)
                have n4_ := Aside0.mk (Kd.R_drew HO1589.out)
                have n5_ := Aside0.mk (blk_drew BK1560.out)
                have n6_ := Aside0.mk (blk_drew BK1566.out)
                have n7_ := Aside0.mk (blk_drew BK1583.out)
                have n8_ := Aside0.mk (blk_drew BK1590.out)
                have n9_ := Aside0.mk (below_drew1 HB.out)
                clear HO_1561002
                clear HO_1567002
                clear HO1577
                clear HO1582
                clear HO1589
                clear BK1560
                clear BK1566
                clear BK1583
                clear BK1590
                clear HB
                have HO_1561002 := n0_
                have HO_1567002 := n1_
                have HO1577 := n2_
                have HO1582 := n3_
                have HO1589 := n4_
                have BK1560 := n5_
                have BK1566 := n6_
                have BK1583 := n7_
                have BK1590 := n8_
                have HB := n9_
                clear n0_ n1_ n2_ n3_ n4_ n5_ n6_ n7_ n8_ n9_
                refine start_ (n := 22) (S := fun w' => w'.cell? ⟨gb1590, 0, none⟩ = some (.int .i64 t1585) ∧ w'.cell? ⟨gb1590, 1, none⟩ = some (.int .i64 t1586) ∧ w'.cell? ⟨gb1590, 2, none⟩ = some (.slice Ao67 t1587.length co67) ∧ w'.cell? ⟨gb1583, 0, none⟩ = some (.int .i64 t1578) ∧ w'.cell? ⟨gb1583, 1, none⟩ = some (.int .i64 t1579) ∧ w'.cell? ⟨gb1583, 2, none⟩ = some (.slice Ao58 t1580.length co58)) (ds := []) #[false, false, false, false, false, false, false, false, false, false, false, false, false, false, false, false, false, false, false, false, false, false] (by kernel_rfl) rfl rfl ⟨(blk_cell BK1590.out 0).trans rfl, (blk_cell BK1590.out 1).trans rfl, (blk_cell BK1590.out 2).trans rfl, (blk_cell BK1583.out 0).trans rfl, (blk_cell BK1583.out 1).trans rfl, (blk_cell BK1583.out 2).trans rfl⟩ (fun hHeld => ?_); refine with_tabW laws_FnNegative.tab11 laws_FnNegative.bits11 (fun HT_ HW_ => ?_)
                generalize w68.drew = w69 at HO_1561002 HO_1567002 HO1577 HO1582 HO1589 BK1560 BK1566 BK1583 BK1590 HB hHeld ⊢
                refine pure_ (i := 2) (N := some 40) (v := ?_) (a' := ?_) #[false, false, true, false, false, false, false, false, false, false, false, false, false, false, false, false, false, false, false, false, false, false] rfl rfl (any_of HT_.out (by kernel_rfl)) (fun _ _ _ h => h) (Or.inl ⟨by rfl, ?_⟩) ?_ ?_
                rotate_left
                · intro w'
                  go_simp
                  with_reducible rfl
                rotate_left
                · simp only [Act.put, List.setIfInBounds_toArray, List.set_cons_zero, List.set_cons_succ, i64_w, i32_w]
                  rfl
                refine pure_ (i := 6) (N := some 44) (v := ?_) (a' := ?_) #[false, false, true, false, false, false, true, false, false, false, false, false, false, false, false, false, false, false, false, false, false, false] rfl rfl (any_of HT_.out (by kernel_rfl)) (fun _ _ _ h => h) (Or.inl ⟨by rfl, ?_⟩) ?_ ?_
                rotate_left
                · intro w'
                  go_simp
                  with_reducible rfl
                rotate_left
                · simp only [Act.put, List.setIfInBounds_toArray, List.set_cons_zero, List.set_cons_succ, i64_w, i32_w]
                  rfl
                refine take_ (i := 0) (N := some 38) (v := ?_) (a' := ?_) #[true, false, true, false, false, false, true, false, false, false, false, false, false, false, false, false, false, false, false, false, false, false] rfl rfl (take_ofW HT_.out HW_.out (by kernel_rfl)) (fun _ _ _ h => h) (Or.inl ⟨by rfl, ?_⟩) hHeld ?_ ?_
                rotate_left
                · rintro w' ⟨s0, s1, s2, s3, s4, s5⟩
                  go_simp
                  with_reducible rfl
                rotate_left
                · simp only [Act.put, List.setIfInBounds_toArray, List.set_cons_zero, List.set_cons_succ, i64_w, i32_w]
                  rfl
                refine take_ (i := 3) (N := some 41) (v := ?_) (a' := ?_) #[true, false, true, true, false, false, true, false, false, false, false, false, false, false, false, false, false, false, false, false, false, false] rfl rfl (take_ofW HT_.out HW_.out (by kernel_rfl)) (fun _ _ _ h => h) (Or.inl ⟨by rfl, ?_⟩) hHeld ?_ ?_
                rotate_left
                · rintro w' ⟨s0, s1, s2, s3, s4, s5⟩
                  go_simp
                  with_reducible rfl
                rotate_left
                · simp only [Act.put, List.setIfInBounds_toArray, List.set_cons_zero, List.set_cons_succ, i64_w, i32_w]
                  rfl
                refine take_ (i := 7) (N := some 45) (v := ?_) (a' := ?_) #[true, false, true, true, false, false, true, true, false, false, false, false, false, false, false, false, false, false, false, false, false, false] rfl rfl (take_ofW HT_.out HW_.out (by kernel_rfl)) (fun _ _ _ h => h) (Or.inl ⟨by rfl, ?_⟩) hHeld ?_ ?_
                rotate_left
                · rintro w' ⟨s0, s1, s2, s3, s4, s5⟩
                  go_simp
                  with_reducible rfl
                rotate_left
                · simp only [Act.put, List.setIfInBounds_toArray, List.set_cons_zero, List.set_cons_succ, i64_w, i32_w]
                  rfl
                refine pure_ (i := 8) (N := some 46) (v := ?_) (a' := ?_) #[true, false, true, true, false, false, true, true, true, false, false, false, false, false, false, false, false, false, false, false, false, false] rfl rfl (any_of HT_.out (by kernel_rfl)) (fun _ _ _ h => h) (Or.inl ⟨by rfl, ?_⟩) ?_ ?_
                rotate_left
                · intro w'
                  go_simp
                  with_reducible rfl
                rotate_left
                · simp only [Act.put, List.setIfInBounds_toArray, List.set_cons_zero, List.set_cons_succ, i64_w, i32_w]
                  rfl
                refine pure_ (i := 9) (N := some 47) (v := ?_) (a' := ?_) #[true, false, true, true, false, false, true, true, true, true, false, false, false, false, false, false, false, false, false, false, false, false] rfl rfl (any_of HT_.out (by kernel_rfl)) (fun _ _ _ h => h) (Or.inl ⟨by rfl, ?_⟩) ?_ ?_
                rotate_left
                · intro w'
                  go_simp
                  with_reducible rfl
                rotate_left
                · simp only [Act.put, List.setIfInBounds_toArray, List.set_cons_zero, List.set_cons_succ, i64_w, i32_w]
                  rfl
                refine one_ (i := 1) (N := some 39) #[true, true, true, true, false, false, true, true, true, true, false, false, false, false, false, false, false, false, false, false, false, false] rfl rfl (one_of HT_.out (by kernel_rfl)) (by decide) (fun K hK => ?_)
                refine goes_ Try.func76 (by kernel_rfl) rfl #[.agg #[.int .i64 t1585, .int .i64 t1586, .slice Ao67 t1587.length co67]] (by rfl) rfl rfl (by (try simp only [List.map_toArray, List.map_cons, List.map_nil]); first | done | rfl | (simp only [List.length_drop, List.length_take]; rfl)) ?_
                with_reducible refine (impl_SumInk.calls kj4 t1585 t1586 _ _ t1587 t1591 _ ?side1 ?side2 A46.out).mono ?_
                (case side1 => repeat (first | exact (Kd.R_reads' HO1589.out).2.2 | (with_reducible refine Kd.C_alloc ?_ _) | (with_reducible refine Kd.C_drewN ?_ _) | (with_reducible refine Kd.C_drew ?_)))
                (case side2 => exact (Kd.R_reads' HO1589.out).2.1)
                rintro e w70 ⟨rfl, hb⟩
                refine ⟨_, rfl, ?_⟩
                have n0_ := Aside0.mk (Kd.R_below (by (with_reducible repeat (first | apply Kd.R_alloc | apply Kd.R_drewN | apply Kd.R_drew)); exact HO_1561002.out) hb)
                have n1_ := Aside0.mk (Kd.R_below (by (with_reducible repeat (first | apply Kd.R_alloc | apply Kd.R_drewN | apply Kd.R_drew)); exact HO_1567002.out) hb)
                have n2_ := Aside0.mk (Kd.R_below (by (with_reducible repeat (first | apply Kd.R_alloc | apply Kd.R_drewN | apply Kd.R_drew)); exact HO1577.out) hb)
                have n3_ := Aside0.mk (Kd.R_below (by (with_reducible repeat (first | apply Kd.R_alloc | apply Kd.R_drewN | apply Kd.R_drew)); exact HO1582.out) hb)
                have n4_ := Aside0.mk (Kd.R_below (by (with_reducible repeat (first | apply Kd.R_alloc | apply Kd.R_drewN | apply Kd.R_drew)); exact HO1589.out) hb)
                have n5_ := Aside0.mk (blk_below (g := gb1560) (o := .cells #[.int .i64 t1555, .int .i64 t1556, .slice Ao9 t1557.length co9] 37 (0, 0)) (by (with_reducible repeat (first | refine blk_drewN ?_ _ | refine blk_drew ?_ | refine blk_alloc ?_ _)); exact BK1560.out) hb)
                have n6_ := Aside0.mk (blk_below (g := gb1566) (o := .cells #[.int .i64 t1561, .int .i64 t1562, .slice Ao14 t1563.length co14] 37 (0, 0)) (by (with_reducible repeat (first | refine blk_drewN ?_ _ | refine blk_drew ?_ | refine blk_alloc ?_ _)); exact BK1566.out) hb)
                have n7_ := Aside0.mk (blk_below (g := gb1583) (o := .cells #[.int .i64 t1578, .int .i64 t1579, .slice Ao58 t1580.length co58] 37 (0, 0)) (by (with_reducible repeat (first | refine blk_drewN ?_ _ | refine blk_drew ?_ | refine blk_alloc ?_ _)); exact BK1583.out) hb)
                have n8_ := Aside0.mk (blk_below (g := gb1590) (o := .cells #[.int .i64 t1585, .int .i64 t1586, .slice Ao67 t1587.length co67] 37 (0, 0)) (by (with_reducible repeat (first | refine blk_drewN ?_ _ | refine blk_drew ?_ | refine blk_alloc ?_ _)); exact BK1590.out) hb)
                have n9_ := Aside0.mk (below_step (by repeat (first | (with_reducible first | exact HB.out | apply below_alloc | apply pw_below_drewN | apply below_drew1 | refine below_set ?_ GE1560.out | refine below_set ?_ GE1566.out | refine below_set ?_ GE1583.out | refine below_set ?_ GE1590.out) | exact HB.out)) hb)
                clear HO_1561002
                clear HO_1567002
                clear HO1577
                clear HO1582
                clear HO1589
                clear BK1560
                clear BK1566
                clear BK1583
                clear BK1590
                clear HB
                have HO_1561002 := n0_
                have HO_1567002 := n1_
                have HO1577 := n2_
                have HO1582 := n3_
                have HO1589 := n4_
                have BK1560 := n5_
                have BK1566 := n6_
                have BK1583 := n7_
                have BK1590 := n8_
                have HB := n9_
                clear n0_ n1_ n2_ n3_ n4_ n5_ n6_ n7_ n8_ n9_
                (try clear hb)
                (try clear hb2)
                (try clear hk)
                (try clear hi)
                refine hK.out _ _ ⟨(blk_cell BK1590.out 0).trans rfl, (blk_cell BK1590.out 1).trans rfl, (blk_cell BK1590.out 2).trans rfl, (blk_cell BK1583.out 0).trans rfl, (blk_cell BK1583.out 1).trans rfl, (blk_cell BK1583.out 2).trans rfl⟩ (fun hHeld => ?_)
                clear hK K
                refine norm_ (a' := ?_) ?_ ?_
                rotate_left
                · show Act.put _ (some 39) _ = _
                  simp only [Act.put, List.setIfInBounds_toArray, List.set_cons_zero, List.set_cons_succ, i64_w, i32_w]
                  rfl
                refine one_ (i := 4) (N := some 42) #[true, true, true, true, true, false, true, true, true, true, false, false, false, false, false, false, false, false, false, false, false, false] rfl rfl (one_of HT_.out (by kernel_rfl)) (by decide) (fun K hK => ?_)
                refine goes_ Try.func55 (by kernel_rfl) rfl #[.slice Ao58 t1580.length co58] (by rfl) rfl rfl (by (try simp only [List.map_toArray, List.map_cons, List.map_nil]); first | done | rfl | (simp only [List.length_drop, List.length_take]; rfl)) ?_
                with_reducible refine (laws_total.calls kj4 _ _ t1580 t1592 _ ?side1 ?side2 A47.out).mono ?_
                (case side1 => repeat (first | exact (Kd.R_reads' HO1582.out).2.2 | (with_reducible refine Kd.C_alloc ?_ _) | (with_reducible refine Kd.C_drewN ?_ _) | (with_reducible refine Kd.C_drew ?_)))
                (case side2 => exact (Kd.R_reads' HO1582.out).2.1)
                rintro e w' ⟨rfl, ⟨nd, rfl⟩⟩
                refine ⟨_, rfl, ?_⟩
                refine hK.out _ _ ⟨(blk_cell BK1590.out 0).trans rfl, (blk_cell BK1590.out 1).trans rfl, (blk_cell BK1590.out 2).trans rfl, (blk_cell BK1583.out 0).trans rfl, (blk_cell BK1583.out 1).trans rfl, (blk_cell BK1583.out 2).trans rfl⟩ (fun hHeld => ?_)
                clear hK K
                refine norm_ (a' := ?_) ?_ ?_
                rotate_left
                · show Act.put _ (some 42) _ = _
                  simp only [Act.put, List.setIfInBounds_toArray, List.set_cons_zero, List.set_cons_succ, i64_w, i32_w]
                  rfl
                refine pure_ (i := 5) (N := some 43) (v := ?_) (a' := ?_) #[true, true, true, true, true, true, true, true, true, true, false, false, false, false, false, false, false, false, false, false, false, false] rfl rfl (any_of HT_.out (by kernel_rfl)) (fun _ _ _ h => h) (Or.inl ⟨by rfl, ?_⟩) ?_ ?_
                rotate_left
                · intro w'
                  go_simp
                  with_reducible rfl
                rotate_left
                · simp only [Act.put, List.setIfInBounds_toArray, List.set_cons_zero, List.set_cons_succ, i64_w, i32_w]
                  rfl
                refine pure_ (i := 10) (N := some 48) (v := ?_) (a' := ?_) #[true, true, true, true, true, true, true, true, true, true, true, false, false, false, false, false, false, false, false, false, false, false] rfl rfl (any_of HT_.out (by kernel_rfl)) (fun _ _ _ h => h) (Or.inl ⟨by rfl, ?_⟩) ?_ ?_
                rotate_left
                · intro w'
                  go_simp
                  with_reducible rfl
                rotate_left
                · simp only [Act.put, List.setIfInBounds_toArray, List.set_cons_zero, List.set_cons_succ, i64_w, i32_w]
                  rfl
                refine pure_ (i := 11) (N := some 49) (v := ?_) (a' := ?_) #[true, true, true, true, true, true, true, true, true, true, true, true, false, false, false, false, false, false, false, false, false, false] rfl rfl (any_of HT_.out (by kernel_rfl)) (fun _ _ _ h => h) (Or.inl ⟨by rfl, ?_⟩) ?_ ?_
                rotate_left
                · intro w'
                  go_simp
                  with_reducible rfl
                rotate_left
                · simp only [Act.put, List.setIfInBounds_toArray, List.set_cons_zero, List.set_cons_succ, i64_w, i32_w]
                  rfl
                refine take_ (i := 12) (N := some 50) (v := ?_) (a' := ?_) #[true, true, true, true, true, true, true, true, true, true, true, true, true, false, false, false, false, false, false, false, false, false] rfl rfl (take_ofW HT_.out HW_.out (by kernel_rfl)) (fun _ _ _ h => h) (Or.inl ⟨by rfl, ?_⟩) hHeld ?_ ?_
                rotate_left
                · rintro w' ⟨s0, s1, s2, s3, s4, s5⟩
                  go_simp
                  with_reducible rfl
                rotate_left
                · simp only [Act.put, List.setIfInBounds_toArray, List.set_cons_zero, List.set_cons_succ, i64_w, i32_w]
                  rfl
                refine one_ (i := 13) (N := some 51) #[true, true, true, true, true, true, true, true, true, true, true, true, true, true, false, false, false, false, false, false, false, false] rfl rfl (one_of HT_.out (by kernel_rfl)) (by decide) (fun K hK => ?_)
                refine goes_ Try.func63 (by kernel_rfl) rfl #[.agg #[.int .i64 t1585, .int .i64 t1586, .slice Ao67 t1587.length co67]] (by rfl) rfl rfl (by (try simp only [List.map_toArray, List.map_cons, List.map_nil]); first | done | rfl | (simp only [List.length_drop, List.length_take]; rfl)) ?_
                with_reducible refine (impl_IsPlate.calls t1585 t1586 _ _ t1587 true _ ?side1 ?side2 A49.out).mono ?_
                (case side1 => repeat (first | exact (Kd.R_reads' HO1589.out).2.2 | (with_reducible refine Kd.C_alloc ?_ _) | (with_reducible refine Kd.C_drewN ?_ _) | (with_reducible refine Kd.C_drew ?_)))
                (case side2 => exact (Kd.R_reads' HO1589.out).2.1)
                rintro e w71 ⟨rfl, hb⟩
                refine ⟨_, rfl, ?_⟩
                have n0_ := Aside0.mk (Kd.R_below (by (with_reducible repeat (first | apply Kd.R_alloc | apply Kd.R_drewN | apply Kd.R_drew)); exact HO_1561002.out) hb)
                have n1_ := Aside0.mk (Kd.R_below (by (with_reducible repeat (first | apply Kd.R_alloc | apply Kd.R_drewN | apply Kd.R_drew)); exact HO_1567002.out) hb)
                have n2_ := Aside0.mk (Kd.R_below (by (with_reducible repeat (first | apply Kd.R_alloc | apply Kd.R_drewN | apply Kd.R_drew)); exact HO1577.out) hb)
                have n3_ := Aside0.mk (Kd.R_below (by (with_reducible repeat (first | apply Kd.R_alloc | apply Kd.R_drewN | apply Kd.R_drew)); exact HO1582.out) hb)
                have n4_ := Aside0.mk (Kd.R_below (by (with_reducible repeat (first | apply Kd.R_alloc | apply Kd.R_drewN | apply Kd.R_drew)); exact HO1589.out) hb)
                have n5_ := Aside0.mk (blk_below (g := gb1560) (o := .cells #[.int .i64 t1555, .int .i64 t1556, .slice Ao9 t1557.length co9] 37 (0, 0)) (by (with_reducible repeat (first | refine blk_drewN ?_ _ | refine blk_drew ?_ | refine blk_alloc ?_ _)); exact BK1560.out) hb)
                have n6_ := Aside0.mk (blk_below (g := gb1566) (o := .cells #[.int .i64 t1561, .int .i64 t1562, .slice Ao14 t1563.length co14] 37 (0, 0)) (by (with_reducible repeat (first | refine blk_drewN ?_ _ | refine blk_drew ?_ | refine blk_alloc ?_ _)); exact BK1566.out) hb)
                have n7_ := Aside0.mk (blk_below (g := gb1583) (o := .cells #[.int .i64 t1578, .int .i64 t1579, .slice Ao58 t1580.length co58] 37 (0, 0)) (by (with_reducible repeat (first | refine blk_drewN ?_ _ | refine blk_drew ?_ | refine blk_alloc ?_ _)); exact BK1583.out) hb)
                have n8_ := Aside0.mk (blk_below (g := gb1590) (o := .cells #[.int .i64 t1585, .int .i64 t1586, .slice Ao67 t1587.length co67] 37 (0, 0)) (by (with_reducible repeat (first | refine blk_drewN ?_ _ | refine blk_drew ?_ | refine blk_alloc ?_ _)); exact BK1590.out) hb)
                have n9_ := Aside0.mk (below_step (by repeat (first | (with_reducible first | exact HB.out | apply below_alloc | apply pw_below_drewN | apply below_drew1 | refine below_set ?_ GE1560.out | refine below_set ?_ GE1566.out | refine below_set ?_ GE1583.out | refine below_set ?_ GE1590.out) | exact HB.out)) hb)
                clear HO_1561002
                clear HO_1567002
                clear HO1577
                clear HO1582
                clear HO1589
                clear BK1560
                clear BK1566
                clear BK1583
                clear BK1590
                clear HB
                have HO_1561002 := n0_
                have HO_1567002 := n1_
                have HO1577 := n2_
                have HO1582 := n3_
                have HO1589 := n4_
                have BK1560 := n5_
                have BK1566 := n6_
                have BK1583 := n7_
                have BK1590 := n8_
                have HB := n9_
                clear n0_ n1_ n2_ n3_ n4_ n5_ n6_ n7_ n8_ n9_
                (try clear hb)
                (try clear hb2)
                (try clear hk)
                (try clear hi)
                refine hK.out _ _ ⟨(blk_cell BK1590.out 0).trans rfl, (blk_cell BK1590.out 1).trans rfl, (blk_cell BK1590.out 2).trans rfl, (blk_cell BK1583.out 0).trans rfl, (blk_cell BK1583.out 1).trans rfl, (blk_cell BK1583.out 2).trans rfl⟩ (fun hHeld => ?_)
                clear hK K
                refine norm_ (a' := ?_) ?_ ?_
                rotate_left
                · show Act.put _ (some 51) _ = _
                  simp only [Act.put, List.setIfInBounds_toArray, List.set_cons_zero, List.set_cons_succ, i64_w, i32_w]
                  rfl
                refine pure_ (i := 14) (N := some 52) (v := ?_) (a' := ?_) #[true, true, true, true, true, true, true, true, true, true, true, true, true, true, true, false, false, false, false, false, false, false] rfl rfl (any_of HT_.out (by kernel_rfl)) (fun _ _ _ h => h) (Or.inl ⟨by rfl, ?_⟩) ?_ ?_
                rotate_left
                · intro w'
                  go_simp
                  with_reducible rfl
                rotate_left
                · simp only [Act.put, List.setIfInBounds_toArray, List.set_cons_zero, List.set_cons_succ, i64_w, i32_w]
                  rfl
                refine pure_ (i := 15) (N := some 53) (v := undef) (a' := ?_) #[true, true, true, true, true, true, true, true, true, true, true, true, true, true, true, true, false, false, false, false, false, false] rfl rfl (any_of HT_.out (by kernel_rfl)) (fun _ _ _ h => h) (Or.inr ⟨by rfl, rfl⟩) ?_ ?_
                rotate_left
                · simp only [Act.put, List.setIfInBounds_toArray, List.set_cons_zero, List.set_cons_succ, i64_w, i32_w]
                  rfl
                refine pure_ (i := 16) (N := some 54) (v := undef) (a' := ?_) #[true, true, true, true, true, true, true, true, true, true, true, true, true, true, true, true, true, false, false, false, false, false] rfl rfl (any_of HT_.out (by kernel_rfl)) (fun _ _ _ h => h) (Or.inr ⟨by rfl, rfl⟩) ?_ ?_
                rotate_left
                · simp only [Act.put, List.setIfInBounds_toArray, List.set_cons_zero, List.set_cons_succ, i64_w, i32_w]
                  rfl
                refine pure_ (i := 17) (N := some 55) (v := undef) (a' := ?_) #[true, true, true, true, true, true, true, true, true, true, true, true, true, true, true, true, true, true, false, false, false, false] rfl rfl (any_of HT_.out (by kernel_rfl)) (fun _ _ _ h => h) (Or.inr ⟨by rfl, rfl⟩) ?_ ?_
                rotate_left
                · simp only [Act.put, List.setIfInBounds_toArray, List.set_cons_zero, List.set_cons_succ, i64_w, i32_w]
                  rfl
                refine pure_ (i := 18) (N := some 56) (v := undef) (a' := ?_) #[true, true, true, true, true, true, true, true, true, true, true, true, true, true, true, true, true, true, true, false, false, false] rfl rfl (any_of HT_.out (by kernel_rfl)) (fun _ _ _ h => h) (Or.inr ⟨by rfl, rfl⟩) ?_ ?_
                rotate_left
                · simp only [Act.put, List.setIfInBounds_toArray, List.set_cons_zero, List.set_cons_succ, i64_w, i32_w]
                  rfl
                refine pure_ (i := 19) (N := some 57) (v := ?_) (a' := ?_) #[true, true, true, true, true, true, true, true, true, true, true, true, true, true, true, true, true, true, true, true, false, false] rfl rfl (any_of HT_.out (by kernel_rfl)) (fun _ _ _ h => h) (Or.inl ⟨by rfl, ?_⟩) ?_ ?_
                rotate_left
                · intro w'
                  go_simp
                  with_reducible rfl
                rotate_left
                · simp only [Act.put, List.setIfInBounds_toArray, List.set_cons_zero, List.set_cons_succ, i64_w, i32_w]
                  rfl
                refine pure_ (i := 20) (N := some 58) (v := ?_) (a' := ?_) #[true, true, true, true, true, true, true, true, true, true, true, true, true, true, true, true, true, true, true, true, true, false] rfl rfl (any_of HT_.out (by kernel_rfl)) (fun _ _ _ h => h) (Or.inl ⟨by rfl, ?_⟩) ?_ ?_
                rotate_left
                · intro w'
                  go_simp
                  with_reducible rfl
                rotate_left
                · simp only [Act.put, List.setIfInBounds_toArray, List.set_cons_zero, List.set_cons_succ, i64_w, i32_w]
                  rfl
                refine pure_ (i := 21) (N := some 2) (v := ?_) (a' := ?_) #[true, true, true, true, true, true, true, true, true, true, true, true, true, true, true, true, true, true, true, true, true, true] rfl rfl (any_of HT_.out (by kernel_rfl)) (fun _ _ _ h => h) (Or.inl ⟨by rfl, ?_⟩) ?_ ?_
                rotate_left
                · intro w'
                  go_simp
                  with_reducible rfl
                rotate_left
                · simp only [Act.put, List.setIfInBounds_toArray, List.set_cons_zero, List.set_cons_succ, i64_w, i32_w]
                  rfl
                refine done_ (done_of HT_.out (by kernel_rfl)) ?_
                try go_wp2
                go_ret
                exact ⟨by first | rfl | (simp [errW_none, errW_some] <;> rfl) | (simp [*, errW_none, errW_some] <;> rfl), by repeat (first | (with_reducible first | exact HB.out | apply below_alloc | apply pw_below_drewN | apply below_drew1 | refine below_set ?_ GE1560.out | refine below_set ?_ GE1566.out | refine below_set ?_ GE1583.out | refine below_set ?_ GE1590.out) | exact HB.out)⟩
              · replace c50 := Bool.eq_false_iff.mpr c50
                subst c50
                have H1 : ((impl_NegativePicture.f t1585 t1586 t1587).bind fun bt1594 => ((laws_same.f kj4 bt1594.1 bt1594.2.1 bt1594.2.2 t1578 t1579 t1580).bind fun t1599 => (some t1599))) = some r := by rw [if_neg (show ¬ (false = true) by decide)] at H; exact H
                clear H
                have H := H1
                clear H1
                replace H := Option.bind_eq_some_iff.mp H
                obtain ⟨⟨t1594, t1595, t1596⟩, A720, H⟩ := H
                replace H : ((laws_same.f kj4 t1594 t1595 t1596 t1578 t1579 t1580).bind fun t1599 => (some t1599)) = some r := H
                have A72 := Aside0.mk A720
                clear A720
                replace H := Option.bind_eq_some_iff.mp H
                obtain ⟨t1599, A730, H⟩ := H
                replace H : (some t1599) = some r := H
                have A73 := Aside0.mk A730
                clear A730
                obtain rfl := Option.some.inj H
                try go_wp2_with (first | ((with_reducible refine gate_callee (f := 68) rfl ?_); refine goesL_ (some 32) rfl rfl Try.func68 (by kernel_rfl) rfl #[.slice A0 l0.length c0, .int .i64 3] rfl (by (try simp only [List.map_toArray, List.map_cons, List.map_nil]); first | done | rfl | (simp only [List.length_drop, List.length_take]; rfl)) ?_; (with_reducible refine (laws_fresh.calls kj4 _ _ l0 3 t1575 _ ?side1 ?side2 A32.out).mono ?_); (case side1 => repeat (first | exact (Kd.C_below HR0.out HB.out) | (with_reducible refine Kd.C_alloc ?_ _) | (with_reducible refine Kd.C_drewN ?_ _) | (with_reducible refine Kd.C_drew ?_))); (case side2 => exact HC0.out); rintro e w74 ⟨v1576, rfl, ho0, hb⟩; refine ⟨_, rfl, ?_⟩; have n0_ := Aside0.mk (Kd.R_below (by (with_reducible repeat (first | apply Kd.R_alloc | apply Kd.R_drewN | apply Kd.R_drew)); exact HO_1561002.out) hb); have n1_ := Aside0.mk (Kd.R_below (by (with_reducible repeat (first | apply Kd.R_alloc | apply Kd.R_drewN | apply Kd.R_drew)); exact HO_1567002.out) hb); have n2_ := Aside0.mk (Kd.R_lower ho0 (below_size (by repeat (first | (with_reducible first | exact HB.out | apply below_alloc | apply pw_below_drewN | apply below_drew1 | refine below_set ?_ GE1560.out | refine below_set ?_ GE1566.out) | exact HB.out)))); have n3_ := Aside0.mk (blk_below (g := gb1560) (o := .cells #[.int .i64 t1555, .int .i64 t1556, .slice Ao9 t1557.length co9] 37 (0, 0)) (by (with_reducible repeat (first | refine blk_drewN ?_ _ | refine blk_drew ?_ | refine blk_alloc ?_ _)); exact BK1560.out) hb); have n4_ := Aside0.mk (blk_below (g := gb1566) (o := .cells #[.int .i64 t1561, .int .i64 t1562, .slice Ao14 t1563.length co14] 37 (0, 0)) (by (with_reducible repeat (first | refine blk_drewN ?_ _ | refine blk_drew ?_ | refine blk_alloc ?_ _)); exact BK1566.out) hb); have n5_ := Aside0.mk (below_step (by repeat (first | (with_reducible first | exact HB.out | apply below_alloc | apply pw_below_drewN | apply below_drew1 | refine below_set ?_ GE1560.out | refine below_set ?_ GE1566.out) | exact HB.out)) hb); clear HO_1561002; clear HO_1567002; clear BK1560; clear BK1566; clear HB; have HO_1561002 := n0_; have HO_1567002 := n1_; have HO1577 := n2_; have BK1560 := n3_; have BK1566 := n4_; have HB := n5_; clear n0_ n1_ n2_ n3_ n4_ n5_; (try clear hb); (try clear hb2); (try clear hk); (try clear hi); (try clear ho0); obtain ⟨Ao75, co75, eo75⟩ := Kd.R_slice HO1577.out; subst eo75) | ((with_reducible refine gate_callee (f := 67) rfl ?_); refine goesL_ (some 33) rfl rfl Try.func67 (by kernel_rfl) rfl #[.slice Ao75 t1575.length co75, .int .i64 9] rfl (by (try simp only [List.map_toArray, List.map_cons, List.map_nil]); first | done | rfl | (simp only [List.length_drop, List.length_take]; rfl)) ?_; (with_reducible refine (spec_MakePicture.calls kj4 _ _ t1575 9 t1578 t1579 t1580 _ ?side1 ?side2 A33.out).mono ?_); (case side1 => repeat (first | exact (Kd.R_reads' HO1577.out).2.2 | (with_reducible refine Kd.C_alloc ?_ _) | (with_reducible refine Kd.C_drewN ?_ _) | (with_reducible refine Kd.C_drew ?_))); (case side2 => exact (Kd.R_reads' HO1577.out).2.1); rintro e w76 ⟨v1581, rfl, ho0, hb⟩; refine ⟨_, rfl, ?_⟩; have n0_ := Aside0.mk (Kd.R_elder' (by (with_reducible repeat (first | apply Kd.R_alloc | apply Kd.R_drewN | apply Kd.R_drew)); exact HO_1561002.out) (Kd.R_base ho0) hb); have n1_ := Aside0.mk (Kd.R_elder' (by (with_reducible repeat (first | apply Kd.R_alloc | apply Kd.R_drewN | apply Kd.R_drew)); exact HO_1567002.out) (Kd.R_base ho0) hb); have n2_ := Aside0.mk (Kd.R_below (by (with_reducible repeat (first | apply Kd.R_alloc | apply Kd.R_drewN | apply Kd.R_drew)); exact HO1577.out) hb); have n3_ := Aside0.mk (Kd.R_lower (Kd.R_new' (Kd.R_new' ho0 (Kd.R_lt (by (with_reducible repeat (first | apply Kd.R_alloc | apply Kd.R_drewN | apply Kd.R_drew)); exact HO_1561002.out))) (Kd.R_lt (by (with_reducible repeat (first | apply Kd.R_alloc | apply Kd.R_drewN | apply Kd.R_drew)); exact HO_1567002.out))) (below_size (by repeat (first | (with_reducible first | exact HB.out | apply below_alloc | apply pw_below_drewN | apply below_drew1 | refine below_set ?_ GE1560.out | refine below_set ?_ GE1566.out) | exact HB.out)))); have n4_ := Aside0.mk (blk_below (g := gb1560) (o := .cells #[.int .i64 t1555, .int .i64 t1556, .slice Ao9 t1557.length co9] 37 (0, 0)) (by (with_reducible repeat (first | refine blk_drewN ?_ _ | refine blk_drew ?_ | refine blk_alloc ?_ _)); exact BK1560.out) hb); have n5_ := Aside0.mk (blk_below (g := gb1566) (o := .cells #[.int .i64 t1561, .int .i64 t1562, .slice Ao14 t1563.length co14] 37 (0, 0)) (by (with_reducible repeat (first | refine blk_drewN ?_ _ | refine blk_drew ?_ | refine blk_alloc ?_ _)); exact BK1566.out) hb); have n6_ := Aside0.mk (below_step (by repeat (first | (with_reducible first | exact HB.out | apply below_alloc | apply pw_below_drewN | apply below_drew1 | refine below_set ?_ GE1560.out | refine below_set ?_ GE1566.out) | exact HB.out)) hb); clear HO_1561002; clear HO_1567002; clear HO1577; clear BK1560; clear BK1566; clear HB; have HO_1561002 := n0_; have HO_1567002 := n1_; have HO1577 := n2_; have HO1582 := n3_; have BK1560 := n4_; have BK1566 := n5_; have HB := n6_; clear n0_ n1_ n2_ n3_ n4_ n5_ n6_; (try clear hb); (try clear hb2); (try clear hk); (try clear hi); (try clear ho0)) | ((with_reducible refine gate_dst (N := 5) rfl ?_); refine box_event ?hg (N := 5) ?hd (cs := #[.int .i64 0, .int .i64 0, .slice none 0 0]) (t := 37) ?hr ?_; (case hd => rfl); (case hg => rfl); (case hr => first | (go_simp; done) | (go_simp; rfl)); intro gb1583 hg w77 hbox hb; have n0_ := Aside0.mk (Kd.R_below (by (with_reducible repeat (first | apply Kd.R_alloc | apply Kd.R_drewN | apply Kd.R_drew)); exact HO_1561002.out) hb); have n1_ := Aside0.mk (Kd.R_below (by (with_reducible repeat (first | apply Kd.R_alloc | apply Kd.R_drewN | apply Kd.R_drew)); exact HO_1567002.out) hb); have n2_ := Aside0.mk (Kd.R_below (by (with_reducible repeat (first | apply Kd.R_alloc | apply Kd.R_drewN | apply Kd.R_drew)); exact HO1577.out) hb); have n3_ := Aside0.mk (Kd.R_below (by (with_reducible repeat (first | apply Kd.R_alloc | apply Kd.R_drewN | apply Kd.R_drew)); exact HO1582.out) hb); have n4_ := Aside0.mk (blk_below (g := gb1560) (o := .cells #[.int .i64 t1555, .int .i64 t1556, .slice Ao9 t1557.length co9] 37 (0, 0)) (by (with_reducible repeat (first | refine blk_drewN ?_ _ | refine blk_drew ?_ | refine blk_alloc ?_ _)); exact BK1560.out) hb); have n5_ := Aside0.mk (blk_below (g := gb1566) (o := .cells #[.int .i64 t1561, .int .i64 t1562, .slice Ao14 t1563.length co14] 37 (0, 0)) (by (with_reducible repeat (first | refine blk_drewN ?_ _ | refine blk_drew ?_ | refine blk_alloc ?_ _)); exact BK1566.out) hb); have n6_ := Aside0.mk (below_step (by repeat (first | (with_reducible first | exact HB.out | apply below_alloc | apply pw_below_drewN | apply below_drew1 | refine below_set ?_ GE1560.out | refine below_set ?_ GE1566.out) | exact HB.out)) hb); have n7_ := Aside0.mk (hbox); have n8_ := Aside0.mk ((by rw [hg]; exact (below_size (by repeat (first | (with_reducible first | exact HB.out | apply below_alloc | apply pw_below_drewN | apply below_drew1 | refine below_set ?_ GE1560.out | refine below_set ?_ GE1566.out) | exact HB.out))) : w.heap.size ≤ gb1583)); have n9_ := Aside0.mk ((by rw [hg]; exact (below_size (by repeat (first | (with_reducible first | exact HB.out | apply below_alloc | apply pw_below_drewN | apply below_drew1 | refine below_set ?_ GE1560.out | refine below_set ?_ GE1566.out) | exact HB.out))) : w.heap.size ≤ gb1583)); have n10_ := Aside0.mk ((by rw [hg]; exact Nat.ne_of_lt (blk_lt (g := gb1560) (o := .cells #[.int .i64 t1555, .int .i64 t1556, .slice Ao9 t1557.length co9] 37 (0, 0)) (by (with_reducible repeat (first | refine blk_drewN ?_ _ | refine blk_drew ?_ | refine blk_alloc ?_ _)); exact BK1560.out)) : gb1560 ≠ gb1583)); have n11_ := Aside0.mk ((by rw [hg]; exact Nat.ne_of_gt (blk_lt (g := gb1560) (o := .cells #[.int .i64 t1555, .int .i64 t1556, .slice Ao9 t1557.length co9] 37 (0, 0)) (by (with_reducible repeat (first | refine blk_drewN ?_ _ | refine blk_drew ?_ | refine blk_alloc ?_ _)); exact BK1560.out)) : gb1583 ≠ gb1560)); have n12_ := Aside0.mk ((by rw [hg]; exact Nat.ne_of_lt (blk_lt (g := gb1566) (o := .cells #[.int .i64 t1561, .int .i64 t1562, .slice Ao14 t1563.length co14] 37 (0, 0)) (by (with_reducible repeat (first | refine blk_drewN ?_ _ | refine blk_drew ?_ | refine blk_alloc ?_ _)); exact BK1566.out)) : gb1566 ≠ gb1583)); have n13_ := Aside0.mk ((by rw [hg]; exact Nat.ne_of_gt (blk_lt (g := gb1566) (o := .cells #[.int .i64 t1561, .int .i64 t1562, .slice Ao14 t1563.length co14] 37 (0, 0)) (by (with_reducible repeat (first | refine blk_drewN ?_ _ | refine blk_drew ?_ | refine blk_alloc ?_ _)); exact BK1566.out)) : gb1583 ≠ gb1566)); clear HO_1561002; clear HO_1567002; clear HO1577; clear HO1582; clear BK1560; clear BK1566; clear HB; have HO_1561002 := n0_; have HO_1567002 := n1_; have HO1577 := n2_; have HO1582 := n3_; have BK1560 := n4_; have BK1566 := n5_; have HB := n6_; have BK1583 := n7_; have GW1583 := n8_; have GE1583 := n9_; have NB1560_1583 := n10_; have NB1583_1560 := n11_; have NB1566_1583 := n12_; have NB1583_1566 := n13_; clear n0_ n1_ n2_ n3_ n4_ n5_ n6_ n7_ n8_ n9_ n10_ n11_ n12_ n13_; clear hb hbox hg; have hnb78 := NB1583_1560.out; have hnc78 := NB1560_1583.out; have hnb79 := NB1583_1566.out; have hnc79 := NB1566_1583.out; have hcz80_0 : w77.cell? ⟨gb1583, 0, none⟩ = some (.int .i64 0) := (blk_cell BK1583.out 0).trans rfl; have hcz80_1 : w77.cell? ⟨gb1583, 1, none⟩ = some (.int .i64 0) := (blk_cell BK1583.out 1).trans rfl; have hcz80_2 : w77.cell? ⟨gb1583, 2, none⟩ = some (.slice none 0 0) := (blk_cell BK1583.out 2).trans rfl; have hfz80_0 := blk_frozen BK1583.out 0; have hfz80_1 := blk_frozen BK1583.out 1; have hfz80_2 := blk_frozen BK1583.out 2; obtain ⟨Ao81, co81, eo81⟩ := Kd.R_slice HO1582.out; subst eo81) | ((with_reducible refine gate_callee (f := 62) rfl ?_); refine goesL_ (some 35) rfl rfl Try.func62 (by kernel_rfl) rfl #[.agg #[.int .i64 t1578, .int .i64 t1579, .slice Ao81 t1580.length co81]] rfl (by (try simp only [List.map_toArray, List.map_cons, List.map_nil]); first | done | rfl | (simp only [List.length_drop, List.length_take]; rfl)) ?_; (with_reducible refine (spec_IsPlate.calls kj4 t1578 t1579 _ _ t1580 false _ ?side1 ?side2 A34.out).mono ?_); (case side1 => refine (Kd.R_reads' (e := 3) (base := w.heap.size) (ok := fun k_ => ((True ∧ some k_ ≠ (.slice Ao9 t1557.length co9 : Value).ownBlock) ∧ some k_ ≠ (.slice Ao14 t1563.length co14 : Value).ownBlock)) (n := t1580.length) (c := co81) ?_).2.2; exact (by (with_reducible repeat (first | apply Kd.R_alloc | apply Kd.R_drewN | apply Kd.R_drew)); exact (Kd.R_mono (Kd.R_far (p := ⟨gb1583, 2, none⟩) (Kd.R_far (p := ⟨gb1583, 1, none⟩) (Kd.R_far (p := ⟨gb1583, 0, none⟩) (Kd.R_types HO1582.out BK1583.out (by decide)) (fun _ hk => hk.2) (.int .i64 t1578)) (fun _ hk => hk.2) (.int .i64 t1579)) (fun _ hk => hk.2) (.slice Ao81 t1580.length co81)) (fun _ h_ => h_.1)))); (case side2 => exact (Kd.R_reads' HO1582.out).2.1); rintro e w82 ⟨rfl, hb⟩; refine ⟨_, rfl, ?_⟩; have n0_ := Aside0.mk (Kd.R_below (by (with_reducible repeat (first | apply Kd.R_alloc | apply Kd.R_drewN | apply Kd.R_drew)); exact (Kd.R_mono (Kd.R_far (p := ⟨gb1583, 2, none⟩) (Kd.R_far (p := ⟨gb1583, 1, none⟩) (Kd.R_far (p := ⟨gb1583, 0, none⟩) (Kd.R_types HO_1561002.out BK1583.out (by decide)) (fun _ hk => hk.2) (.int .i64 t1578)) (fun _ hk => hk.2) (.int .i64 t1579)) (fun _ hk => hk.2) (.slice Ao81 t1580.length co81)) (fun _ h_ => h_.1))) hb); have n1_ := Aside0.mk (Kd.R_below (by (with_reducible repeat (first | apply Kd.R_alloc | apply Kd.R_drewN | apply Kd.R_drew)); exact (Kd.R_mono (Kd.R_far (p := ⟨gb1583, 2, none⟩) (Kd.R_far (p := ⟨gb1583, 1, none⟩) (Kd.R_far (p := ⟨gb1583, 0, none⟩) (Kd.R_types HO_1567002.out BK1583.out (by decide)) (fun _ hk => hk.2) (.int .i64 t1578)) (fun _ hk => hk.2) (.int .i64 t1579)) (fun _ hk => hk.2) (.slice Ao81 t1580.length co81)) (fun _ h_ => h_.1))) hb); have n2_ := Aside0.mk (Kd.R_below (by (with_reducible repeat (first | apply Kd.R_alloc | apply Kd.R_drewN | apply Kd.R_drew)); exact (Kd.R_mono (Kd.R_far (p := ⟨gb1583, 2, none⟩) (Kd.R_far (p := ⟨gb1583, 1, none⟩) (Kd.R_far (p := ⟨gb1583, 0, none⟩) (Kd.R_types HO1577.out BK1583.out (by decide)) (fun _ hk => hk.2) (.int .i64 t1578)) (fun _ hk => hk.2) (.int .i64 t1579)) (fun _ hk => hk.2) (.slice Ao81 t1580.length co81)) (fun _ h_ => h_.1))) hb); have n3_ := Aside0.mk (Kd.R_below (by (with_reducible repeat (first | apply Kd.R_alloc | apply Kd.R_drewN | apply Kd.R_drew)); exact (Kd.R_mono (Kd.R_far (p := ⟨gb1583, 2, none⟩) (Kd.R_far (p := ⟨gb1583, 1, none⟩) (Kd.R_far (p := ⟨gb1583, 0, none⟩) (Kd.R_types HO1582.out BK1583.out (by decide)) (fun _ hk => hk.2) (.int .i64 t1578)) (fun _ hk => hk.2) (.int .i64 t1579)) (fun _ hk => hk.2) (.slice Ao81 t1580.length co81)) (fun _ h_ => h_.1))) hb); have n4_ := Aside0.mk (blk_below (g := gb1560) (o := .cells #[.int .i64 t1555, .int .i64 t1556, .slice Ao9 t1557.length co9] 37 (0, 0)) (by (with_reducible repeat (first | refine blk_drewN ?_ _ | refine blk_drew ?_ | refine blk_alloc ?_ _)); refine blk_far ?_ NB1560_1583.out _; (with_reducible repeat (first | refine blk_drewN ?_ _ | refine blk_drew ?_ | refine blk_alloc ?_ _)); refine blk_far ?_ NB1560_1583.out _; (with_reducible repeat (first | refine blk_drewN ?_ _ | refine blk_drew ?_ | refine blk_alloc ?_ _)); refine blk_far ?_ NB1560_1583.out _; (with_reducible repeat (first | refine blk_drewN ?_ _ | refine blk_drew ?_ | refine blk_alloc ?_ _)); exact BK1560.out) hb); have n5_ := Aside0.mk (blk_below (g := gb1566) (o := .cells #[.int .i64 t1561, .int .i64 t1562, .slice Ao14 t1563.length co14] 37 (0, 0)) (by (with_reducible repeat (first | refine blk_drewN ?_ _ | refine blk_drew ?_ | refine blk_alloc ?_ _)); refine blk_far ?_ NB1566_1583.out _; (with_reducible repeat (first | refine blk_drewN ?_ _ | refine blk_drew ?_ | refine blk_alloc ?_ _)); refine blk_far ?_ NB1566_1583.out _; (with_reducible repeat (first | refine blk_drewN ?_ _ | refine blk_drew ?_ | refine blk_alloc ?_ _)); refine blk_far ?_ NB1566_1583.out _; (with_reducible repeat (first | refine blk_drewN ?_ _ | refine blk_drew ?_ | refine blk_alloc ?_ _)); exact BK1566.out) hb); have n6_ := Aside0.mk (blk_below (g := gb1583) (o := .cells #[.int .i64 t1578, .int .i64 t1579, .slice Ao81 t1580.length co81] 37 (0, 0)) (by (with_reducible repeat (first | refine blk_drewN ?_ _ | refine blk_drew ?_ | refine blk_alloc ?_ _)); refine blk_put (cs := #[.int .i64 t1578, .int .i64 t1579, .slice none 0 0]) ?_ 2 _ rfl; (with_reducible repeat (first | refine blk_drewN ?_ _ | refine blk_drew ?_ | refine blk_alloc ?_ _)); refine blk_put (cs := #[.int .i64 t1578, .int .i64 0, .slice none 0 0]) ?_ 1 _ rfl; (with_reducible repeat (first | refine blk_drewN ?_ _ | refine blk_drew ?_ | refine blk_alloc ?_ _)); refine blk_put (cs := #[.int .i64 0, .int .i64 0, .slice none 0 0]) ?_ 0 _ rfl; (with_reducible repeat (first | refine blk_drewN ?_ _ | refine blk_drew ?_ | refine blk_alloc ?_ _)); exact BK1583.out) hb); have n7_ := Aside0.mk (below_step (by repeat (first | (with_reducible first | exact HB.out | apply below_alloc | apply pw_below_drewN | apply below_drew1 | refine below_set ?_ GE1560.out | refine below_set ?_ GE1566.out | refine below_set ?_ GE1583.out) | exact HB.out)) hb); clear HO_1561002; clear HO_1567002; clear HO1577; clear HO1582; clear BK1560; clear BK1566; clear BK1583; clear HB; have HO_1561002 := n0_; have HO_1567002 := n1_; have HO1577 := n2_; have HO1582 := n3_; have BK1560 := n4_; have BK1566 := n5_; have BK1583 := n6_; have HB := n7_; clear n0_ n1_ n2_ n3_ n4_ n5_ n6_ n7_; (try clear hb); (try clear hb2); (try clear hk); (try clear hi); have hcz83_0 : w82.cell? ⟨gb1583, 0, none⟩ = some (.int .i64 t1578) := (blk_cell BK1583.out 0).trans rfl; have hcz83_1 : w82.cell? ⟨gb1583, 1, none⟩ = some (.int .i64 t1579) := (blk_cell BK1583.out 1).trans rfl; have hcz83_2 : w82.cell? ⟨gb1583, 2, none⟩ = some (.slice Ao81 t1580.length co81) := (blk_cell BK1583.out 2).trans rfl; have hfz83_0 := blk_frozen BK1583.out 0; have hfz83_1 := blk_frozen BK1583.out 1; have hfz83_2 := blk_frozen BK1583.out 2) | ((with_reducible refine gate_callee (f := 97) rfl ?_); refine goesL_ (some 37) rfl rfl Try.func97 (by kernel_rfl) rfl #[.agg #[.int .i64 t1578, .int .i64 t1579, .slice Ao81 t1580.length co81]] rfl (by (try simp only [List.map_toArray, List.map_cons, List.map_nil]); first | done | rfl | (simp only [List.length_drop, List.length_take]; rfl)) ?_; (with_reducible refine (impl_NegativePicture.calls t1578 t1579 _ _ t1580 t1585 t1586 t1587 _ ?side1 ?side2 A45.out).mono ?_); (case side1 => repeat (first | exact (Kd.R_reads' HO1582.out).2.2 | (with_reducible refine Kd.C_alloc ?_ _) | (with_reducible refine Kd.C_drewN ?_ _) | (with_reducible refine Kd.C_drew ?_))); (case side2 => exact (Kd.R_reads' HO1582.out).2.1); rintro e w84 ⟨v1588, rfl, ho0, hb⟩; refine ⟨_, rfl, ?_⟩; have n0_ := Aside0.mk (Kd.R_elder' (by (with_reducible repeat (first | apply Kd.R_alloc | apply Kd.R_drewN | apply Kd.R_drew)); exact HO_1561002.out) (Kd.R_base ho0) hb); have n1_ := Aside0.mk (Kd.R_elder' (by (with_reducible repeat (first | apply Kd.R_alloc | apply Kd.R_drewN | apply Kd.R_drew)); exact HO_1567002.out) (Kd.R_base ho0) hb); have n2_ := Aside0.mk (Kd.R_below (by (with_reducible repeat (first | apply Kd.R_alloc | apply Kd.R_drewN | apply Kd.R_drew)); exact HO1577.out) hb); have n3_ := Aside0.mk (Kd.R_elder' (by (with_reducible repeat (first | apply Kd.R_alloc | apply Kd.R_drewN | apply Kd.R_drew)); exact HO1582.out) (Kd.R_base ho0) hb); have n4_ := Aside0.mk (Kd.R_lower (Kd.R_new' (Kd.R_new' (Kd.R_new' ho0 (Kd.R_lt (by (with_reducible repeat (first | apply Kd.R_alloc | apply Kd.R_drewN | apply Kd.R_drew)); exact HO_1561002.out))) (Kd.R_lt (by (with_reducible repeat (first | apply Kd.R_alloc | apply Kd.R_drewN | apply Kd.R_drew)); exact HO_1567002.out))) (Kd.R_lt (by (with_reducible repeat (first | apply Kd.R_alloc | apply Kd.R_drewN | apply Kd.R_drew)); exact HO1582.out))) (below_size (by repeat (first | (with_reducible first | exact HB.out | apply below_alloc | apply pw_below_drewN | apply below_drew1 | refine below_set ?_ GE1560.out | refine below_set ?_ GE1566.out | refine below_set ?_ GE1583.out) | exact HB.out)))); have n5_ := Aside0.mk (blk_below (g := gb1560) (o := .cells #[.int .i64 t1555, .int .i64 t1556, .slice Ao9 t1557.length co9] 37 (0, 0)) (by (with_reducible repeat (first | refine blk_drewN ?_ _ | refine blk_drew ?_ | refine blk_alloc ?_ _)); exact BK1560.out) hb); have n6_ := Aside0.mk (blk_below (g := gb1566) (o := .cells #[.int .i64 t1561, .int .i64 t1562, .slice Ao14 t1563.length co14] 37 (0, 0)) (by (with_reducible repeat (first | refine blk_drewN ?_ _ | refine blk_drew ?_ | refine blk_alloc ?_ _)); exact BK1566.out) hb); have n7_ := Aside0.mk (blk_below (g := gb1583) (o := .cells #[.int .i64 t1578, .int .i64 t1579, .slice Ao81 t1580.length co81] 37 (0, 0)) (by (with_reducible repeat (first | refine blk_drewN ?_ _ | refine blk_drew ?_ | refine blk_alloc ?_ _)); exact BK1583.out) hb); have n8_ := Aside0.mk (below_step (by repeat (first | (with_reducible first | exact HB.out | apply below_alloc | apply pw_below_drewN | apply below_drew1 | refine below_set ?_ GE1560.out | refine below_set ?_ GE1566.out | refine below_set ?_ GE1583.out) | exact HB.out)) hb); clear HO_1561002; clear HO_1567002; clear HO1577; clear HO1582; clear BK1560; clear BK1566; clear BK1583; clear HB; have HO_1561002 := n0_; have HO_1567002 := n1_; have HO1577 := n2_; have HO1582 := n3_; have HO1589 := n4_; have BK1560 := n5_; have BK1566 := n6_; have BK1583 := n7_; have HB := n8_; clear n0_ n1_ n2_ n3_ n4_ n5_ n6_ n7_ n8_; (try clear hb); (try clear hb2); (try clear hk); (try clear hi); (try clear ho0)) | ((with_reducible refine gate_dst (N := 6) rfl ?_); refine box_event ?hg (N := 6) ?hd (cs := #[.int .i64 0, .int .i64 0, .slice none 0 0]) (t := 37) ?hr ?_; (case hd => rfl); (case hg => rfl); (case hr => first | (go_simp; done) | (go_simp; rfl)); intro gb1590 hg w85 hbox hb; have n0_ := Aside0.mk (Kd.R_below (by (with_reducible repeat (first | apply Kd.R_alloc | apply Kd.R_drewN | apply Kd.R_drew)); exact HO_1561002.out) hb); have n1_ := Aside0.mk (Kd.R_below (by (with_reducible repeat (first | apply Kd.R_alloc | apply Kd.R_drewN | apply Kd.R_drew)); exact HO_1567002.out) hb); have n2_ := Aside0.mk (Kd.R_below (by (with_reducible repeat (first | apply Kd.R_alloc | apply Kd.R_drewN | apply Kd.R_drew)); exact HO1577.out) hb); have n3_ := Aside0.mk (Kd.R_below (by (with_reducible repeat (first | apply Kd.R_alloc | apply Kd.R_drewN | apply Kd.R_drew)); exact HO1582.out) hb); have n4_ := Aside0.mk (Kd.R_below (by (with_reducible repeat (first | apply Kd.R_alloc | apply Kd.R_drewN | apply Kd.R_drew)); exact HO1589.out) hb); have n5_ := Aside0.mk (blk_below (g := gb1560) (o := .cells #[.int .i64 t1555, .int .i64 t1556, .slice Ao9 t1557.length co9] 37 (0, 0)) (by (with_reducible repeat (first | refine blk_drewN ?_ _ | refine blk_drew ?_ | refine blk_alloc ?_ _)); exact BK1560.out) hb); have n6_ := Aside0.mk (blk_below (g := gb1566) (o := .cells #[.int .i64 t1561, .int .i64 t1562, .slice Ao14 t1563.length co14] 37 (0, 0)) (by (with_reducible repeat (first | refine blk_drewN ?_ _ | refine blk_drew ?_ | refine blk_alloc ?_ _)); exact BK1566.out) hb); have n7_ := Aside0.mk (blk_below (g := gb1583) (o := .cells #[.int .i64 t1578, .int .i64 t1579, .slice Ao81 t1580.length co81] 37 (0, 0)) (by (with_reducible repeat (first | refine blk_drewN ?_ _ | refine blk_drew ?_ | refine blk_alloc ?_ _)); exact BK1583.out) hb); have n8_ := Aside0.mk (below_step (by repeat (first | (with_reducible first | exact HB.out | apply below_alloc | apply pw_below_drewN | apply below_drew1 | refine below_set ?_ GE1560.out | refine below_set ?_ GE1566.out | refine below_set ?_ GE1583.out) | exact HB.out)) hb); have n9_ := Aside0.mk (hbox); have n10_ := Aside0.mk ((by rw [hg]; exact (below_size (by repeat (first | (with_reducible first | exact HB.out | apply below_alloc | apply pw_below_drewN | apply below_drew1 | refine below_set ?_ GE1560.out | refine below_set ?_ GE1566.out | refine below_set ?_ GE1583.out) | exact HB.out))) : w.heap.size ≤ gb1590)); have n11_ := Aside0.mk ((by rw [hg]; exact (below_size (by repeat (first | (with_reducible first | exact HB.out | apply below_alloc | apply pw_below_drewN | apply below_drew1 | refine below_set ?_ GE1560.out | refine below_set ?_ GE1566.out | refine below_set ?_ GE1583.out) | exact HB.out))) : w.heap.size ≤ gb1590)); have n12_ := Aside0.mk ((by rw [hg]; exact Nat.ne_of_lt (blk_lt (g := gb1560) (o := .cells #[.int .i64 t1555, .int .i64 t1556, .slice Ao9 t1557.length co9] 37 (0, 0)) (by (with_reducible repeat (first | refine blk_drewN ?_ _ | refine blk_drew ?_ | refine blk_alloc ?_ _)); exact BK1560.out)) : gb1560 ≠ gb1590)); have n13_ := Aside0.mk ((by rw [hg]; exact Nat.ne_of_gt (blk_lt (g := gb1560) (o := .cells #[.int .i64 t1555, .int .i64 t1556, .slice Ao9 t1557.length co9] 37 (0, 0)) (by (with_reducible repeat (first | refine blk_drewN ?_ _ | refine blk_drew ?_ | refine blk_alloc ?_ _)); exact BK1560.out)) : gb1590 ≠ gb1560)); have n14_ := Aside0.mk ((by rw [hg]; exact Nat.ne_of_lt (blk_lt (g := gb1566) (o := .cells #[.int .i64 t1561, .int .i64 t1562, .slice Ao14 t1563.length co14] 37 (0, 0)) (by (with_reducible repeat (first | refine blk_drewN ?_ _ | refine blk_drew ?_ | refine blk_alloc ?_ _)); exact BK1566.out)) : gb1566 ≠ gb1590)); have n15_ := Aside0.mk ((by rw [hg]; exact Nat.ne_of_gt (blk_lt (g := gb1566) (o := .cells #[.int .i64 t1561, .int .i64 t1562, .slice Ao14 t1563.length co14] 37 (0, 0)) (by (with_reducible repeat (first | refine blk_drewN ?_ _ | refine blk_drew ?_ | refine blk_alloc ?_ _)); exact BK1566.out)) : gb1590 ≠ gb1566)); have n16_ := Aside0.mk ((by rw [hg]; exact Nat.ne_of_lt (blk_lt (g := gb1583) (o := .cells #[.int .i64 t1578, .int .i64 t1579, .slice Ao81 t1580.length co81] 37 (0, 0)) (by (with_reducible repeat (first | refine blk_drewN ?_ _ | refine blk_drew ?_ | refine blk_alloc ?_ _)); exact BK1583.out)) : gb1583 ≠ gb1590)); have n17_ := Aside0.mk ((by rw [hg]; exact Nat.ne_of_gt (blk_lt (g := gb1583) (o := .cells #[.int .i64 t1578, .int .i64 t1579, .slice Ao81 t1580.length co81] 37 (0, 0)) (by (with_reducible repeat (first | refine blk_drewN ?_ _ | refine blk_drew ?_ | refine blk_alloc ?_ _)); exact BK1583.out)) : gb1590 ≠ gb1583)); clear HO_1561002; clear HO_1567002; clear HO1577; clear HO1582; clear HO1589; clear BK1560; clear BK1566; clear BK1583; clear HB; have HO_1561002 := n0_; have HO_1567002 := n1_; have HO1577 := n2_; have HO1582 := n3_; have HO1589 := n4_; have BK1560 := n5_; have BK1566 := n6_; have BK1583 := n7_; have HB := n8_; have BK1590 := n9_; have GW1590 := n10_; have GE1590 := n11_; have NB1560_1590 := n12_; have NB1590_1560 := n13_; have NB1566_1590 := n14_; have NB1590_1566 := n15_; have NB1583_1590 := n16_; have NB1590_1583 := n17_; clear n0_ n1_ n2_ n3_ n4_ n5_ n6_ n7_ n8_ n9_ n10_ n11_ n12_ n13_ n14_ n15_ n16_ n17_; clear hb hbox hg; have hnb86 := NB1590_1560.out; have hnc86 := NB1560_1590.out; have hnb87 := NB1590_1566.out; have hnc87 := NB1566_1590.out; have hnb88 := NB1590_1583.out; have hnc88 := NB1583_1590.out; have hcz89_0 : w85.cell? ⟨gb1590, 0, none⟩ = some (.int .i64 0) := (blk_cell BK1590.out 0).trans rfl; have hcz89_1 : w85.cell? ⟨gb1590, 1, none⟩ = some (.int .i64 0) := (blk_cell BK1590.out 1).trans rfl; have hcz89_2 : w85.cell? ⟨gb1590, 2, none⟩ = some (.slice none 0 0) := (blk_cell BK1590.out 2).trans rfl; have hfz89_0 := blk_frozen BK1590.out 0; have hfz89_1 := blk_frozen BK1590.out 1; have hfz89_2 := blk_frozen BK1590.out 2; obtain ⟨Ao90, co90, eo90⟩ := Kd.R_slice HO1589.out; subst eo90))
                have n0_ : Aside0 (Kd.R (Kd.int .i64) 3 (((w85.setCell ⟨gb1590, 0, none⟩ (.int .i64 t1585)).setCell ⟨gb1590, 1, none⟩ (.int .i64 t1586)).setCell ⟨gb1590, 2, none⟩ (.slice Ao90 t1587.length co90)) w.heap.size (fun k_ => some k_ ≠ (.slice Ao14 t1563.length co14 : Value).ownBlock ∧ some k_ ≠ (.slice Ao81 t1580.length co81 : Value).ownBlock ∧ some k_ ≠ (.slice Ao90 t1587.length co90 : Value).ownBlock) (.slice Ao9 t1557.length co9) t1557) := ⟨by (with_reducible repeat (first | apply Kd.R_alloc | apply Kd.R_drewN | apply Kd.R_drew)); exact Kd.R_mono (Kd.R_far (p := ⟨gb1590, 2, none⟩) (Kd.R_far (p := ⟨gb1590, 1, none⟩) (Kd.R_far (p := ⟨gb1590, 0, none⟩) (Kd.R_types HO_1561002.out BK1590.out (by decide)) (fun _ hk => hk.2) (.int .i64 t1585)) (fun _ hk => hk.2) (.int .i64 t1586)) (fun _ hk => hk.2) (.slice Ao90 t1587.length co90)) (fun _ hk => ⟨hk.1.1.1, ⟨hk.1.1.2, hk.1.2⟩⟩)⟩
                have n1_ : Aside0 (Kd.R (Kd.int .i64) 3 (((w85.setCell ⟨gb1590, 0, none⟩ (.int .i64 t1585)).setCell ⟨gb1590, 1, none⟩ (.int .i64 t1586)).setCell ⟨gb1590, 2, none⟩ (.slice Ao90 t1587.length co90)) w.heap.size (fun k_ => some k_ ≠ (.slice Ao9 t1557.length co9 : Value).ownBlock ∧ some k_ ≠ (.slice Ao81 t1580.length co81 : Value).ownBlock ∧ some k_ ≠ (.slice Ao90 t1587.length co90 : Value).ownBlock) (.slice Ao14 t1563.length co14) t1563) := ⟨by (with_reducible repeat (first | apply Kd.R_alloc | apply Kd.R_drewN | apply Kd.R_drew)); exact Kd.R_mono (Kd.R_far (p := ⟨gb1590, 2, none⟩) (Kd.R_far (p := ⟨gb1590, 1, none⟩) (Kd.R_far (p := ⟨gb1590, 0, none⟩) (Kd.R_types HO_1567002.out BK1590.out (by decide)) (fun _ hk => hk.2) (.int .i64 t1585)) (fun _ hk => hk.2) (.int .i64 t1586)) (fun _ hk => hk.2) (.slice Ao90 t1587.length co90)) (fun _ hk => ⟨hk.1.1.1, ⟨hk.1.1.2, hk.1.2⟩⟩)⟩
                have n2_ : Aside0 (Kd.R (Kd.int .u8) 5 (((w85.setCell ⟨gb1590, 0, none⟩ (.int .i64 t1585)).setCell ⟨gb1590, 1, none⟩ (.int .i64 t1586)).setCell ⟨gb1590, 2, none⟩ (.slice Ao90 t1587.length co90)) w.heap.size (fun _ => True) (.slice Ao75 t1575.length co75) t1575) := ⟨by (with_reducible repeat (first | apply Kd.R_alloc | apply Kd.R_drewN | apply Kd.R_drew)); exact Kd.R_mono (Kd.R_far (p := ⟨gb1590, 2, none⟩) (Kd.R_far (p := ⟨gb1590, 1, none⟩) (Kd.R_far (p := ⟨gb1590, 0, none⟩) (Kd.R_types HO1577.out BK1590.out (by decide)) (fun _ hk => hk.2) (.int .i64 t1585)) (fun _ hk => hk.2) (.int .i64 t1586)) (fun _ hk => hk.2) (.slice Ao90 t1587.length co90)) (fun _ hk => trivial)⟩
                have n3_ : Aside0 (Kd.R (Kd.int .i64) 3 (((w85.setCell ⟨gb1590, 0, none⟩ (.int .i64 t1585)).setCell ⟨gb1590, 1, none⟩ (.int .i64 t1586)).setCell ⟨gb1590, 2, none⟩ (.slice Ao90 t1587.length co90)) w.heap.size (fun k_ => some k_ ≠ (.slice Ao9 t1557.length co9 : Value).ownBlock ∧ some k_ ≠ (.slice Ao14 t1563.length co14 : Value).ownBlock ∧ some k_ ≠ (.slice Ao90 t1587.length co90 : Value).ownBlock) (.slice Ao81 t1580.length co81) t1580) := ⟨by (with_reducible repeat (first | apply Kd.R_alloc | apply Kd.R_drewN | apply Kd.R_drew)); exact Kd.R_mono (Kd.R_far (p := ⟨gb1590, 2, none⟩) (Kd.R_far (p := ⟨gb1590, 1, none⟩) (Kd.R_far (p := ⟨gb1590, 0, none⟩) (Kd.R_types HO1582.out BK1590.out (by decide)) (fun _ hk => hk.2) (.int .i64 t1585)) (fun _ hk => hk.2) (.int .i64 t1586)) (fun _ hk => hk.2) (.slice Ao90 t1587.length co90)) (fun _ hk => ⟨hk.1.1.1.2, ⟨hk.1.1.2, hk.1.2⟩⟩)⟩
                have n4_ : Aside0 (Kd.R (Kd.int .i64) 3 (((w85.setCell ⟨gb1590, 0, none⟩ (.int .i64 t1585)).setCell ⟨gb1590, 1, none⟩ (.int .i64 t1586)).setCell ⟨gb1590, 2, none⟩ (.slice Ao90 t1587.length co90)) w.heap.size (fun k_ => some k_ ≠ (.slice Ao9 t1557.length co9 : Value).ownBlock ∧ some k_ ≠ (.slice Ao14 t1563.length co14 : Value).ownBlock ∧ some k_ ≠ (.slice Ao81 t1580.length co81 : Value).ownBlock) (.slice Ao90 t1587.length co90) t1587) := ⟨by (with_reducible repeat (first | apply Kd.R_alloc | apply Kd.R_drewN | apply Kd.R_drew)); exact Kd.R_mono (Kd.R_far (p := ⟨gb1590, 2, none⟩) (Kd.R_far (p := ⟨gb1590, 1, none⟩) (Kd.R_far (p := ⟨gb1590, 0, none⟩) (Kd.R_types HO1589.out BK1590.out (by decide)) (fun _ hk => hk.2) (.int .i64 t1585)) (fun _ hk => hk.2) (.int .i64 t1586)) (fun _ hk => hk.2) (.slice Ao90 t1587.length co90)) (fun _ hk => ⟨hk.1.1.1.2, ⟨hk.1.1.2, hk.1.2⟩⟩)⟩
                have n5_ : Aside0 ((((w85.setCell ⟨gb1590, 0, none⟩ (.int .i64 t1585)).setCell ⟨gb1590, 1, none⟩ (.int .i64 t1586)).setCell ⟨gb1590, 2, none⟩ (.slice Ao90 t1587.length co90)).heap[gb1560]? = some (.cells #[.int .i64 t1555, .int .i64 t1556, .slice Ao9 t1557.length co9] 37 (0, 0))) := ⟨by (with_reducible repeat (first | refine blk_drewN ?_ _ | refine blk_drew ?_ | refine blk_alloc ?_ _)); refine blk_far ?_ NB1560_1590.out _; (with_reducible repeat (first | refine blk_drewN ?_ _ | refine blk_drew ?_ | refine blk_alloc ?_ _)); refine blk_far ?_ NB1560_1590.out _; (with_reducible repeat (first | refine blk_drewN ?_ _ | refine blk_drew ?_ | refine blk_alloc ?_ _)); refine blk_far ?_ NB1560_1590.out _; (with_reducible repeat (first | refine blk_drewN ?_ _ | refine blk_drew ?_ | refine blk_alloc ?_ _)); exact BK1560.out⟩
                have n6_ : Aside0 ((((w85.setCell ⟨gb1590, 0, none⟩ (.int .i64 t1585)).setCell ⟨gb1590, 1, none⟩ (.int .i64 t1586)).setCell ⟨gb1590, 2, none⟩ (.slice Ao90 t1587.length co90)).heap[gb1566]? = some (.cells #[.int .i64 t1561, .int .i64 t1562, .slice Ao14 t1563.length co14] 37 (0, 0))) := ⟨by (with_reducible repeat (first | refine blk_drewN ?_ _ | refine blk_drew ?_ | refine blk_alloc ?_ _)); refine blk_far ?_ NB1566_1590.out _; (with_reducible repeat (first | refine blk_drewN ?_ _ | refine blk_drew ?_ | refine blk_alloc ?_ _)); refine blk_far ?_ NB1566_1590.out _; (with_reducible repeat (first | refine blk_drewN ?_ _ | refine blk_drew ?_ | refine blk_alloc ?_ _)); refine blk_far ?_ NB1566_1590.out _; (with_reducible repeat (first | refine blk_drewN ?_ _ | refine blk_drew ?_ | refine blk_alloc ?_ _)); exact BK1566.out⟩
                have n7_ : Aside0 ((((w85.setCell ⟨gb1590, 0, none⟩ (.int .i64 t1585)).setCell ⟨gb1590, 1, none⟩ (.int .i64 t1586)).setCell ⟨gb1590, 2, none⟩ (.slice Ao90 t1587.length co90)).heap[gb1583]? = some (.cells #[.int .i64 t1578, .int .i64 t1579, .slice Ao81 t1580.length co81] 37 (0, 0))) := ⟨by (with_reducible repeat (first | refine blk_drewN ?_ _ | refine blk_drew ?_ | refine blk_alloc ?_ _)); refine blk_far ?_ NB1583_1590.out _; (with_reducible repeat (first | refine blk_drewN ?_ _ | refine blk_drew ?_ | refine blk_alloc ?_ _)); refine blk_far ?_ NB1583_1590.out _; (with_reducible repeat (first | refine blk_drewN ?_ _ | refine blk_drew ?_ | refine blk_alloc ?_ _)); refine blk_far ?_ NB1583_1590.out _; (with_reducible repeat (first | refine blk_drewN ?_ _ | refine blk_drew ?_ | refine blk_alloc ?_ _)); exact BK1583.out⟩
                have n8_ : Aside0 ((((w85.setCell ⟨gb1590, 0, none⟩ (.int .i64 t1585)).setCell ⟨gb1590, 1, none⟩ (.int .i64 t1586)).setCell ⟨gb1590, 2, none⟩ (.slice Ao90 t1587.length co90)).heap[gb1590]? = some (.cells #[.int .i64 t1585, .int .i64 t1586, .slice Ao90 t1587.length co90] 37 (0, 0))) := ⟨by (with_reducible repeat (first | refine blk_drewN ?_ _ | refine blk_drew ?_ | refine blk_alloc ?_ _)); refine blk_put (cs := #[.int .i64 t1585, .int .i64 t1586, .slice none 0 0]) ?_ 2 _ rfl; (with_reducible repeat (first | refine blk_drewN ?_ _ | refine blk_drew ?_ | refine blk_alloc ?_ _)); refine blk_put (cs := #[.int .i64 t1585, .int .i64 0, .slice none 0 0]) ?_ 1 _ rfl; (with_reducible repeat (first | refine blk_drewN ?_ _ | refine blk_drew ?_ | refine blk_alloc ?_ _)); refine blk_put (cs := #[.int .i64 0, .int .i64 0, .slice none 0 0]) ?_ 0 _ rfl; (with_reducible repeat (first | refine blk_drewN ?_ _ | refine blk_drew ?_ | refine blk_alloc ?_ _)); exact BK1590.out⟩
                have n9_ : Aside0 (Below w.heap.size w (((w85.setCell ⟨gb1590, 0, none⟩ (.int .i64 t1585)).setCell ⟨gb1590, 1, none⟩ (.int .i64 t1586)).setCell ⟨gb1590, 2, none⟩ (.slice Ao90 t1587.length co90))) := ⟨by repeat (first | (with_reducible first | exact HB.out | apply below_alloc | apply pw_below_drewN | apply below_drew1 | refine below_set ?_ GE1560.out | refine below_set ?_ GE1566.out | refine below_set ?_ GE1583.out | refine below_set ?_ GE1590.out) | exact HB.out)⟩
                (try clear HO_1561002)
                (try clear HO_1567002)
                (try clear HO1577)
                (try clear HO1582)
                (try clear HO1589)
                (try clear BK1560)
                (try clear BK1566)
                (try clear BK1583)
                (try clear BK1590)
                (try clear HB)
                generalize (((w85.setCell ⟨gb1590, 0, none⟩ (.int .i64 t1585)).setCell ⟨gb1590, 1, none⟩ (.int .i64 t1586)).setCell ⟨gb1590, 2, none⟩ (.slice Ao90 t1587.length co90)) = w91 at n0_ n1_ n2_ n3_ n4_ n5_ n6_ n7_ n8_ n9_ ⊢
                have HO_1561002 := n0_
                have HO_1567002 := n1_
                have HO1577 := n2_
                have HO1582 := n3_
                have HO1589 := n4_
                have BK1560 := n5_
                have BK1566 := n6_
                have BK1583 := n7_
                have BK1590 := n8_
                have HB := n9_
                clear n0_ n1_ n2_ n3_ n4_ n5_ n6_ n7_ n8_ n9_
                have n0_ := Aside0.mk (Kd.R_drew HO_1561002.out)
                have n1_ := Aside0.mk (Kd.R_drew HO_1567002.out)
                have n2_ := Aside0.mk (Kd.R_drew HO1577.out)
                have n3_ := Aside0.mk (Kd.R_drew HO1582.out)
                have n4_ := Aside0.mk (Kd.R_drew HO1589.out)
                have n5_ := Aside0.mk (blk_drew BK1560.out)
                have n6_ := Aside0.mk (blk_drew BK1566.out)
                have n7_ := Aside0.mk (blk_drew BK1583.out)
                have n8_ := Aside0.mk (blk_drew BK1590.out)
                have n9_ := Aside0.mk (below_drew1 HB.out)
                clear HO_1561002
                clear HO_1567002
                clear HO1577
                clear HO1582
                clear HO1589
                clear BK1560
                clear BK1566
                clear BK1583
                clear BK1590
                clear HB
                have HO_1561002 := n0_
                have HO_1567002 := n1_
                have HO1577 := n2_
                have HO1582 := n3_
                have HO1589 := n4_
                have BK1560 := n5_
                have BK1566 := n6_
                have BK1583 := n7_
                have BK1590 := n8_
                have HB := n9_
                clear n0_ n1_ n2_ n3_ n4_ n5_ n6_ n7_ n8_ n9_
                refine start_ (n := 22) (S := fun w' => w'.cell? ⟨gb1590, 0, none⟩ = some (.int .i64 t1585) ∧ w'.cell? ⟨gb1590, 1, none⟩ = some (.int .i64 t1586) ∧ w'.cell? ⟨gb1590, 2, none⟩ = some (.slice Ao90 t1587.length co90) ∧ w'.cell? ⟨gb1583, 0, none⟩ = some (.int .i64 t1578) ∧ w'.cell? ⟨gb1583, 1, none⟩ = some (.int .i64 t1579) ∧ w'.cell? ⟨gb1583, 2, none⟩ = some (.slice Ao81 t1580.length co81)) (ds := []) #[false, false, false, false, false, false, false, false, false, false, false, false, false, false, false, false, false, false, false, false, false, false] (by kernel_rfl) rfl rfl ⟨(blk_cell BK1590.out 0).trans rfl, (blk_cell BK1590.out 1).trans rfl, (blk_cell BK1590.out 2).trans rfl, (blk_cell BK1583.out 0).trans rfl, (blk_cell BK1583.out 1).trans rfl, (blk_cell BK1583.out 2).trans rfl⟩ (fun hHeld => ?_); refine with_tabW laws_FnNegative.tab11 laws_FnNegative.bits11 (fun HT_ HW_ => ?_)
                generalize w91.drew = w92 at HO_1561002 HO_1567002 HO1577 HO1582 HO1589 BK1560 BK1566 BK1583 BK1590 HB hHeld ⊢
                refine pure_ (i := 2) (N := some 40) (v := ?_) (a' := ?_) #[false, false, true, false, false, false, false, false, false, false, false, false, false, false, false, false, false, false, false, false, false, false] rfl rfl (any_of HT_.out (by kernel_rfl)) (fun _ _ _ h => h) (Or.inl ⟨by rfl, ?_⟩) ?_ ?_
                rotate_left
                · intro w'
                  go_simp
                  with_reducible rfl
                rotate_left
                · simp only [Act.put, List.setIfInBounds_toArray, List.set_cons_zero, List.set_cons_succ, i64_w, i32_w]
                  rfl
                refine pure_ (i := 6) (N := some 44) (v := ?_) (a' := ?_) #[false, false, true, false, false, false, true, false, false, false, false, false, false, false, false, false, false, false, false, false, false, false] rfl rfl (any_of HT_.out (by kernel_rfl)) (fun _ _ _ h => h) (Or.inl ⟨by rfl, ?_⟩) ?_ ?_
                rotate_left
                · intro w'
                  go_simp
                  with_reducible rfl
                rotate_left
                · simp only [Act.put, List.setIfInBounds_toArray, List.set_cons_zero, List.set_cons_succ, i64_w, i32_w]
                  rfl
                refine take_ (i := 0) (N := some 38) (v := ?_) (a' := ?_) #[true, false, true, false, false, false, true, false, false, false, false, false, false, false, false, false, false, false, false, false, false, false] rfl rfl (take_ofW HT_.out HW_.out (by kernel_rfl)) (fun _ _ _ h => h) (Or.inl ⟨by rfl, ?_⟩) hHeld ?_ ?_
                rotate_left
                · rintro w' ⟨s0, s1, s2, s3, s4, s5⟩
                  go_simp
                  with_reducible rfl
                rotate_left
                · simp only [Act.put, List.setIfInBounds_toArray, List.set_cons_zero, List.set_cons_succ, i64_w, i32_w]
                  rfl
                refine take_ (i := 3) (N := some 41) (v := ?_) (a' := ?_) #[true, false, true, true, false, false, true, false, false, false, false, false, false, false, false, false, false, false, false, false, false, false] rfl rfl (take_ofW HT_.out HW_.out (by kernel_rfl)) (fun _ _ _ h => h) (Or.inl ⟨by rfl, ?_⟩) hHeld ?_ ?_
                rotate_left
                · rintro w' ⟨s0, s1, s2, s3, s4, s5⟩
                  go_simp
                  with_reducible rfl
                rotate_left
                · simp only [Act.put, List.setIfInBounds_toArray, List.set_cons_zero, List.set_cons_succ, i64_w, i32_w]
                  rfl
                refine take_ (i := 7) (N := some 45) (v := ?_) (a' := ?_) #[true, false, true, true, false, false, true, true, false, false, false, false, false, false, false, false, false, false, false, false, false, false] rfl rfl (take_ofW HT_.out HW_.out (by kernel_rfl)) (fun _ _ _ h => h) (Or.inl ⟨by rfl, ?_⟩) hHeld ?_ ?_
                rotate_left
                · rintro w' ⟨s0, s1, s2, s3, s4, s5⟩
                  go_simp
                  with_reducible rfl
                rotate_left
                · simp only [Act.put, List.setIfInBounds_toArray, List.set_cons_zero, List.set_cons_succ, i64_w, i32_w]
                  rfl
                refine pure_ (i := 8) (N := some 46) (v := ?_) (a' := ?_) #[true, false, true, true, false, false, true, true, true, false, false, false, false, false, false, false, false, false, false, false, false, false] rfl rfl (any_of HT_.out (by kernel_rfl)) (fun _ _ _ h => h) (Or.inl ⟨by rfl, ?_⟩) ?_ ?_
                rotate_left
                · intro w'
                  go_simp
                  with_reducible rfl
                rotate_left
                · simp only [Act.put, List.setIfInBounds_toArray, List.set_cons_zero, List.set_cons_succ, i64_w, i32_w]
                  rfl
                refine pure_ (i := 9) (N := some 47) (v := ?_) (a' := ?_) #[true, false, true, true, false, false, true, true, true, true, false, false, false, false, false, false, false, false, false, false, false, false] rfl rfl (any_of HT_.out (by kernel_rfl)) (fun _ _ _ h => h) (Or.inl ⟨by rfl, ?_⟩) ?_ ?_
                rotate_left
                · intro w'
                  go_simp
                  with_reducible rfl
                rotate_left
                · simp only [Act.put, List.setIfInBounds_toArray, List.set_cons_zero, List.set_cons_succ, i64_w, i32_w]
                  rfl
                refine one_ (i := 1) (N := some 39) #[true, true, true, true, false, false, true, true, true, true, false, false, false, false, false, false, false, false, false, false, false, false] rfl rfl (one_of HT_.out (by kernel_rfl)) (by decide) (fun K hK => ?_)
                refine goes_ Try.func76 (by kernel_rfl) rfl #[.agg #[.int .i64 t1585, .int .i64 t1586, .slice Ao90 t1587.length co90]] (by rfl) rfl rfl (by (try simp only [List.map_toArray, List.map_cons, List.map_nil]); first | done | rfl | (simp only [List.length_drop, List.length_take]; rfl)) ?_
                with_reducible refine (impl_SumInk.calls kj4 t1585 t1586 _ _ t1587 t1591 _ ?side1 ?side2 A46.out).mono ?_
                (case side1 => repeat (first | exact (Kd.R_reads' HO1589.out).2.2 | (with_reducible refine Kd.C_alloc ?_ _) | (with_reducible refine Kd.C_drewN ?_ _) | (with_reducible refine Kd.C_drew ?_)))
                (case side2 => exact (Kd.R_reads' HO1589.out).2.1)
                rintro e w93 ⟨rfl, hb⟩
                refine ⟨_, rfl, ?_⟩
                have n0_ := Aside0.mk (Kd.R_below (by (with_reducible repeat (first | apply Kd.R_alloc | apply Kd.R_drewN | apply Kd.R_drew)); exact HO_1561002.out) hb)
                have n1_ := Aside0.mk (Kd.R_below (by (with_reducible repeat (first | apply Kd.R_alloc | apply Kd.R_drewN | apply Kd.R_drew)); exact HO_1567002.out) hb)
                have n2_ := Aside0.mk (Kd.R_below (by (with_reducible repeat (first | apply Kd.R_alloc | apply Kd.R_drewN | apply Kd.R_drew)); exact HO1577.out) hb)
                have n3_ := Aside0.mk (Kd.R_below (by (with_reducible repeat (first | apply Kd.R_alloc | apply Kd.R_drewN | apply Kd.R_drew)); exact HO1582.out) hb)
                have n4_ := Aside0.mk (Kd.R_below (by (with_reducible repeat (first | apply Kd.R_alloc | apply Kd.R_drewN | apply Kd.R_drew)); exact HO1589.out) hb)
                have n5_ := Aside0.mk (blk_below (g := gb1560) (o := .cells #[.int .i64 t1555, .int .i64 t1556, .slice Ao9 t1557.length co9] 37 (0, 0)) (by (with_reducible repeat (first | refine blk_drewN ?_ _ | refine blk_drew ?_ | refine blk_alloc ?_ _)); exact BK1560.out) hb)
                have n6_ := Aside0.mk (blk_below (g := gb1566) (o := .cells #[.int .i64 t1561, .int .i64 t1562, .slice Ao14 t1563.length co14] 37 (0, 0)) (by (with_reducible repeat (first | refine blk_drewN ?_ _ | refine blk_drew ?_ | refine blk_alloc ?_ _)); exact BK1566.out) hb)
                have n7_ := Aside0.mk (blk_below (g := gb1583) (o := .cells #[.int .i64 t1578, .int .i64 t1579, .slice Ao81 t1580.length co81] 37 (0, 0)) (by (with_reducible repeat (first | refine blk_drewN ?_ _ | refine blk_drew ?_ | refine blk_alloc ?_ _)); exact BK1583.out) hb)
                have n8_ := Aside0.mk (blk_below (g := gb1590) (o := .cells #[.int .i64 t1585, .int .i64 t1586, .slice Ao90 t1587.length co90] 37 (0, 0)) (by (with_reducible repeat (first | refine blk_drewN ?_ _ | refine blk_drew ?_ | refine blk_alloc ?_ _)); exact BK1590.out) hb)
                have n9_ := Aside0.mk (below_step (by repeat (first | (with_reducible first | exact HB.out | apply below_alloc | apply pw_below_drewN | apply below_drew1 | refine below_set ?_ GE1560.out | refine below_set ?_ GE1566.out | refine below_set ?_ GE1583.out | refine below_set ?_ GE1590.out) | exact HB.out)) hb)
                clear HO_1561002
                clear HO_1567002
                clear HO1577
                clear HO1582
                clear HO1589
                clear BK1560
                clear BK1566
                clear BK1583
                clear BK1590
                clear HB
                have HO_1561002 := n0_
                have HO_1567002 := n1_
                have HO1577 := n2_
                have HO1582 := n3_
                have HO1589 := n4_
                have BK1560 := n5_
                have BK1566 := n6_
                have BK1583 := n7_
                have BK1590 := n8_
                have HB := n9_
                clear n0_ n1_ n2_ n3_ n4_ n5_ n6_ n7_ n8_ n9_
                (try clear hb)
                (try clear hb2)
                (try clear hk)
                (try clear hi)
                refine hK.out _ _ ⟨(blk_cell BK1590.out 0).trans rfl, (blk_cell BK1590.out 1).trans rfl, (blk_cell BK1590.out 2).trans rfl, (blk_cell BK1583.out 0).trans rfl, (blk_cell BK1583.out 1).trans rfl, (blk_cell BK1583.out 2).trans rfl⟩ (fun hHeld => ?_)
                clear hK K
                refine norm_ (a' := ?_) ?_ ?_
                rotate_left
                · show Act.put _ (some 39) _ = _
                  simp only [Act.put, List.setIfInBounds_toArray, List.set_cons_zero, List.set_cons_succ, i64_w, i32_w]
                  rfl
                refine one_ (i := 4) (N := some 42) #[true, true, true, true, true, false, true, true, true, true, false, false, false, false, false, false, false, false, false, false, false, false] rfl rfl (one_of HT_.out (by kernel_rfl)) (by decide) (fun K hK => ?_)
                refine goes_ Try.func55 (by kernel_rfl) rfl #[.slice Ao81 t1580.length co81] (by rfl) rfl rfl (by (try simp only [List.map_toArray, List.map_cons, List.map_nil]); first | done | rfl | (simp only [List.length_drop, List.length_take]; rfl)) ?_
                with_reducible refine (laws_total.calls kj4 _ _ t1580 t1592 _ ?side1 ?side2 A47.out).mono ?_
                (case side1 => repeat (first | exact (Kd.R_reads' HO1582.out).2.2 | (with_reducible refine Kd.C_alloc ?_ _) | (with_reducible refine Kd.C_drewN ?_ _) | (with_reducible refine Kd.C_drew ?_)))
                (case side2 => exact (Kd.R_reads' HO1582.out).2.1)
                rintro e w' ⟨rfl, ⟨nd, rfl⟩⟩
                refine ⟨_, rfl, ?_⟩
                refine hK.out _ _ ⟨(blk_cell BK1590.out 0).trans rfl, (blk_cell BK1590.out 1).trans rfl, (blk_cell BK1590.out 2).trans rfl, (blk_cell BK1583.out 0).trans rfl, (blk_cell BK1583.out 1).trans rfl, (blk_cell BK1583.out 2).trans rfl⟩ (fun hHeld => ?_)
                clear hK K
                refine norm_ (a' := ?_) ?_ ?_
                rotate_left
                · show Act.put _ (some 42) _ = _
                  simp only [Act.put, List.setIfInBounds_toArray, List.set_cons_zero, List.set_cons_succ, i64_w, i32_w]
                  rfl
                refine pure_ (i := 5) (N := some 43) (v := ?_) (a' := ?_) #[true, true, true, true, true, true, true, true, true, true, false, false, false, false, false, false, false, false, false, false, false, false] rfl rfl (any_of HT_.out (by kernel_rfl)) (fun _ _ _ h => h) (Or.inl ⟨by rfl, ?_⟩) ?_ ?_
                rotate_left
                · intro w'
                  go_simp
                  with_reducible rfl
                rotate_left
                · simp only [Act.put, List.setIfInBounds_toArray, List.set_cons_zero, List.set_cons_succ, i64_w, i32_w]
                  rfl
                refine pure_ (i := 10) (N := some 48) (v := ?_) (a' := ?_) #[true, true, true, true, true, true, true, true, true, true, true, false, false, false, false, false, false, false, false, false, false, false] rfl rfl (any_of HT_.out (by kernel_rfl)) (fun _ _ _ h => h) (Or.inl ⟨by rfl, ?_⟩) ?_ ?_
                rotate_left
                · intro w'
                  go_simp
                  with_reducible rfl
                rotate_left
                · simp only [Act.put, List.setIfInBounds_toArray, List.set_cons_zero, List.set_cons_succ, i64_w, i32_w]
                  rfl
                refine pure_ (i := 11) (N := some 49) (v := ?_) (a' := ?_) #[true, true, true, true, true, true, true, true, true, true, true, true, false, false, false, false, false, false, false, false, false, false] rfl rfl (any_of HT_.out (by kernel_rfl)) (fun _ _ _ h => h) (Or.inl ⟨by rfl, ?_⟩) ?_ ?_
                rotate_left
                · intro w'
                  go_simp
                  with_reducible rfl
                rotate_left
                · simp only [Act.put, List.setIfInBounds_toArray, List.set_cons_zero, List.set_cons_succ, i64_w, i32_w]
                  rfl
                refine take_ (i := 12) (N := some 50) (v := ?_) (a' := ?_) #[true, true, true, true, true, true, true, true, true, true, true, true, true, false, false, false, false, false, false, false, false, false] rfl rfl (take_ofW HT_.out HW_.out (by kernel_rfl)) (fun _ _ _ h => h) (Or.inl ⟨by rfl, ?_⟩) hHeld ?_ ?_
                rotate_left
                · rintro w' ⟨s0, s1, s2, s3, s4, s5⟩
                  go_simp
                  with_reducible rfl
                rotate_left
                · simp only [Act.put, List.setIfInBounds_toArray, List.set_cons_zero, List.set_cons_succ, i64_w, i32_w]
                  rfl
                refine one_ (i := 13) (N := some 51) #[true, true, true, true, true, true, true, true, true, true, true, true, true, true, false, false, false, false, false, false, false, false] rfl rfl (one_of HT_.out (by kernel_rfl)) (by decide) (fun K hK => ?_)
                refine goes_ Try.func63 (by kernel_rfl) rfl #[.agg #[.int .i64 t1585, .int .i64 t1586, .slice Ao90 t1587.length co90]] (by rfl) rfl rfl (by (try simp only [List.map_toArray, List.map_cons, List.map_nil]); first | done | rfl | (simp only [List.length_drop, List.length_take]; rfl)) ?_
                with_reducible refine (impl_IsPlate.calls t1585 t1586 _ _ t1587 false _ ?side1 ?side2 A49.out).mono ?_
                (case side1 => repeat (first | exact (Kd.R_reads' HO1589.out).2.2 | (with_reducible refine Kd.C_alloc ?_ _) | (with_reducible refine Kd.C_drewN ?_ _) | (with_reducible refine Kd.C_drew ?_)))
                (case side2 => exact (Kd.R_reads' HO1589.out).2.1)
                rintro e w94 ⟨rfl, hb⟩
                refine ⟨_, rfl, ?_⟩
                have n0_ := Aside0.mk (Kd.R_below (by (with_reducible repeat (first | apply Kd.R_alloc | apply Kd.R_drewN | apply Kd.R_drew)); exact HO_1561002.out) hb)
                have n1_ := Aside0.mk (Kd.R_below (by (with_reducible repeat (first | apply Kd.R_alloc | apply Kd.R_drewN | apply Kd.R_drew)); exact HO_1567002.out) hb)
                have n2_ := Aside0.mk (Kd.R_below (by (with_reducible repeat (first | apply Kd.R_alloc | apply Kd.R_drewN | apply Kd.R_drew)); exact HO1577.out) hb)
                have n3_ := Aside0.mk (Kd.R_below (by (with_reducible repeat (first | apply Kd.R_alloc | apply Kd.R_drewN | apply Kd.R_drew)); exact HO1582.out) hb)
                have n4_ := Aside0.mk (Kd.R_below (by (with_reducible repeat (first | apply Kd.R_alloc | apply Kd.R_drewN | apply Kd.R_drew)); exact HO1589.out) hb)
                have n5_ := Aside0.mk (blk_below (g := gb1560) (o := .cells #[.int .i64 t1555, .int .i64 t1556, .slice Ao9 t1557.length co9] 37 (0, 0)) (by (with_reducible repeat (first | refine blk_drewN ?_ _ | refine blk_drew ?_ | refine blk_alloc ?_ _)); exact BK1560.out) hb)
                have n6_ := Aside0.mk (blk_below (g := gb1566) (o := .cells #[.int .i64 t1561, .int .i64 t1562, .slice Ao14 t1563.length co14] 37 (0, 0)) (by (with_reducible repeat (first | refine blk_drewN ?_ _ | refine blk_drew ?_ | refine blk_alloc ?_ _)); exact BK1566.out) hb)
                have n7_ := Aside0.mk (blk_below (g := gb1583) (o := .cells #[.int .i64 t1578, .int .i64 t1579, .slice Ao81 t1580.length co81] 37 (0, 0)) (by (with_reducible repeat (first | refine blk_drewN ?_ _ | refine blk_drew ?_ | refine blk_alloc ?_ _)); exact BK1583.out) hb)
                have n8_ := Aside0.mk (blk_below (g := gb1590) (o := .cells #[.int .i64 t1585, .int .i64 t1586, .slice Ao90 t1587.length co90] 37 (0, 0)) (by (with_reducible repeat (first | refine blk_drewN ?_ _ | refine blk_drew ?_ | refine blk_alloc ?_ _)); exact BK1590.out) hb)
                have n9_ := Aside0.mk (below_step (by repeat (first | (with_reducible first | exact HB.out | apply below_alloc | apply pw_below_drewN | apply below_drew1 | refine below_set ?_ GE1560.out | refine below_set ?_ GE1566.out | refine below_set ?_ GE1583.out | refine below_set ?_ GE1590.out) | exact HB.out)) hb)
                clear HO_1561002
                clear HO_1567002
                clear HO1577
                clear HO1582
                clear HO1589
                clear BK1560
                clear BK1566
                clear BK1583
                clear BK1590
                clear HB
                have HO_1561002 := n0_
                have HO_1567002 := n1_
                have HO1577 := n2_
                have HO1582 := n3_
                have HO1589 := n4_
                have BK1560 := n5_
                have BK1566 := n6_
                have BK1583 := n7_
                have BK1590 := n8_
                have HB := n9_
                clear n0_ n1_ n2_ n3_ n4_ n5_ n6_ n7_ n8_ n9_
                (try clear hb)
                (try clear hb2)
                (try clear hk)
                (try clear hi)
                refine hK.out _ _ ⟨(blk_cell BK1590.out 0).trans rfl, (blk_cell BK1590.out 1).trans rfl, (blk_cell BK1590.out 2).trans rfl, (blk_cell BK1583.out 0).trans rfl, (blk_cell BK1583.out 1).trans rfl, (blk_cell BK1583.out 2).trans rfl⟩ (fun hHeld => ?_)
                clear hK K
                refine norm_ (a' := ?_) ?_ ?_
                rotate_left
                · show Act.put _ (some 51) _ = _
                  simp only [Act.put, List.setIfInBounds_toArray, List.set_cons_zero, List.set_cons_succ, i64_w, i32_w]
                  rfl
                refine pure_ (i := 14) (N := some 52) (v := ?_) (a' := ?_) #[true, true, true, true, true, true, true, true, true, true, true, true, true, true, true, false, false, false, false, false, false, false] rfl rfl (any_of HT_.out (by kernel_rfl)) (fun _ _ _ h => h) (Or.inl ⟨by rfl, ?_⟩) ?_ ?_
                rotate_left
                · intro w'
                  go_simp
                  with_reducible rfl
                rotate_left
                · simp only [Act.put, List.setIfInBounds_toArray, List.set_cons_zero, List.set_cons_succ, i64_w, i32_w]
                  rfl
                refine take_ (i := 15) (N := some 53) (v := ?_) (a' := ?_) #[true, true, true, true, true, true, true, true, true, true, true, true, true, true, true, true, false, false, false, false, false, false] rfl rfl (take_ofW HT_.out HW_.out (by kernel_rfl)) (fun _ _ _ h => h) (Or.inl ⟨by rfl, ?_⟩) hHeld ?_ ?_
                rotate_left
                · rintro w' ⟨s0, s1, s2, s3, s4, s5⟩
                  go_simp
                  with_reducible rfl
                rotate_left
                · simp only [Act.put, List.setIfInBounds_toArray, List.set_cons_zero, List.set_cons_succ, i64_w, i32_w]
                  rfl
                refine take_ (i := 17) (N := some 55) (v := ?_) (a' := ?_) #[true, true, true, true, true, true, true, true, true, true, true, true, true, true, true, true, false, true, false, false, false, false] rfl rfl (take_ofW HT_.out HW_.out (by kernel_rfl)) (fun _ _ _ h => h) (Or.inl ⟨by rfl, ?_⟩) hHeld ?_ ?_
                rotate_left
                · rintro w' ⟨s0, s1, s2, s3, s4, s5⟩
                  go_simp
                  with_reducible rfl
                rotate_left
                · simp only [Act.put, List.setIfInBounds_toArray, List.set_cons_zero, List.set_cons_succ, i64_w, i32_w]
                  rfl
                refine one_ (i := 16) (N := some 54) #[true, true, true, true, true, true, true, true, true, true, true, true, true, true, true, true, true, true, false, false, false, false] rfl rfl (one_of HT_.out (by kernel_rfl)) (by decide) (fun K hK => ?_)
                refine goes_ Try.func97 (by kernel_rfl) rfl #[.agg #[.int .i64 t1585, .int .i64 t1586, .slice Ao90 t1587.length co90]] (by rfl) rfl rfl (by (try simp only [List.map_toArray, List.map_cons, List.map_nil]); first | done | rfl | (simp only [List.length_drop, List.length_take]; rfl)) ?_
                with_reducible refine (impl_NegativePicture.calls t1585 t1586 _ _ t1587 t1594 t1595 t1596 _ ?side1 ?side2 A72.out).mono ?_
                (case side1 => repeat (first | exact (Kd.R_reads' HO1589.out).2.2 | (with_reducible refine Kd.C_alloc ?_ _) | (with_reducible refine Kd.C_drewN ?_ _) | (with_reducible refine Kd.C_drew ?_)))
                (case side2 => exact (Kd.R_reads' HO1589.out).2.1)
                rintro e w95 ⟨v1597, rfl, ho0, hb⟩
                refine ⟨_, rfl, ?_⟩
                have n0_ := Aside0.mk (Kd.R_elder' (by (with_reducible repeat (first | apply Kd.R_alloc | apply Kd.R_drewN | apply Kd.R_drew)); exact HO_1561002.out) (Kd.R_base ho0) hb)
                have n1_ := Aside0.mk (Kd.R_elder' (by (with_reducible repeat (first | apply Kd.R_alloc | apply Kd.R_drewN | apply Kd.R_drew)); exact HO_1567002.out) (Kd.R_base ho0) hb)
                have n2_ := Aside0.mk (Kd.R_below (by (with_reducible repeat (first | apply Kd.R_alloc | apply Kd.R_drewN | apply Kd.R_drew)); exact HO1577.out) hb)
                have n3_ := Aside0.mk (Kd.R_elder' (by (with_reducible repeat (first | apply Kd.R_alloc | apply Kd.R_drewN | apply Kd.R_drew)); exact HO1582.out) (Kd.R_base ho0) hb)
                have n4_ := Aside0.mk (Kd.R_elder' (by (with_reducible repeat (first | apply Kd.R_alloc | apply Kd.R_drewN | apply Kd.R_drew)); exact HO1589.out) (Kd.R_base ho0) hb)
                have n5_ := Aside0.mk (Kd.R_lower (Kd.R_new' (Kd.R_new' (Kd.R_new' (Kd.R_new' ho0 (Kd.R_lt (by (with_reducible repeat (first | apply Kd.R_alloc | apply Kd.R_drewN | apply Kd.R_drew)); exact HO_1561002.out))) (Kd.R_lt (by (with_reducible repeat (first | apply Kd.R_alloc | apply Kd.R_drewN | apply Kd.R_drew)); exact HO_1567002.out))) (Kd.R_lt (by (with_reducible repeat (first | apply Kd.R_alloc | apply Kd.R_drewN | apply Kd.R_drew)); exact HO1582.out))) (Kd.R_lt (by (with_reducible repeat (first | apply Kd.R_alloc | apply Kd.R_drewN | apply Kd.R_drew)); exact HO1589.out))) (below_size (by repeat (first | (with_reducible first | exact HB.out | apply below_alloc | apply pw_below_drewN | apply below_drew1 | refine below_set ?_ GE1560.out | refine below_set ?_ GE1566.out | refine below_set ?_ GE1583.out | refine below_set ?_ GE1590.out) | exact HB.out))))
                have n6_ := Aside0.mk (blk_below (g := gb1560) (o := .cells #[.int .i64 t1555, .int .i64 t1556, .slice Ao9 t1557.length co9] 37 (0, 0)) (by (with_reducible repeat (first | refine blk_drewN ?_ _ | refine blk_drew ?_ | refine blk_alloc ?_ _)); exact BK1560.out) hb)
                have n7_ := Aside0.mk (blk_below (g := gb1566) (o := .cells #[.int .i64 t1561, .int .i64 t1562, .slice Ao14 t1563.length co14] 37 (0, 0)) (by (with_reducible repeat (first | refine blk_drewN ?_ _ | refine blk_drew ?_ | refine blk_alloc ?_ _)); exact BK1566.out) hb)
                have n8_ := Aside0.mk (blk_below (g := gb1583) (o := .cells #[.int .i64 t1578, .int .i64 t1579, .slice Ao81 t1580.length co81] 37 (0, 0)) (by (with_reducible repeat (first | refine blk_drewN ?_ _ | refine blk_drew ?_ | refine blk_alloc ?_ _)); exact BK1583.out) hb)
                have n9_ := Aside0.mk (blk_below (g := gb1590) (o := .cells #[.int .i64 t1585, .int .i64 t1586, .slice Ao90 t1587.length co90] 37 (0, 0)) (by (with_reducible repeat (first | refine blk_drewN ?_ _ | refine blk_drew ?_ | refine blk_alloc ?_ _)); exact BK1590.out) hb)
                have n10_ := Aside0.mk (below_step (by repeat (first | (with_reducible first | exact HB.out | apply below_alloc | apply pw_below_drewN | apply below_drew1 | refine below_set ?_ GE1560.out | refine below_set ?_ GE1566.out | refine below_set ?_ GE1583.out | refine below_set ?_ GE1590.out) | exact HB.out)) hb)
                clear HO_1561002
                clear HO_1567002
                clear HO1577
                clear HO1582
                clear HO1589
                clear BK1560
                clear BK1566
                clear BK1583
                clear BK1590
                clear HB
                have HO_1561002 := n0_
                have HO_1567002 := n1_
                have HO1577 := n2_
                have HO1582 := n3_
                have HO1589 := n4_
                have HO1598 := n5_
                have BK1560 := n6_
                have BK1566 := n7_
                have BK1583 := n8_
                have BK1590 := n9_
                have HB := n10_
                clear n0_ n1_ n2_ n3_ n4_ n5_ n6_ n7_ n8_ n9_ n10_
                (try clear hb)
                (try clear hb2)
                (try clear hk)
                (try clear hi)
                (try clear ho0)
                obtain ⟨Ao96, co96, eo96⟩ := Kd.R_slice HO1598.out
                (first | subst eo96 | (injection eo96 with f1_ f2_ f3_; have f4_ := f1_.symm; have f5_ := f3_.symm; clear f1_ f2_ f3_; subst f4_; subst f5_))
                refine hK.out _ _ ⟨(blk_cell BK1590.out 0).trans rfl, (blk_cell BK1590.out 1).trans rfl, (blk_cell BK1590.out 2).trans rfl, (blk_cell BK1583.out 0).trans rfl, (blk_cell BK1583.out 1).trans rfl, (blk_cell BK1583.out 2).trans rfl⟩ (fun hHeld => ?_)
                clear hK K
                refine norm_ (a' := ?_) ?_ ?_
                rotate_left
                · show Act.put _ (some 54) _ = _
                  simp only [Act.put, List.setIfInBounds_toArray, List.set_cons_zero, List.set_cons_succ, i64_w, i32_w]
                  rfl
                refine one_ (i := 18) (N := some 56) #[true, true, true, true, true, true, true, true, true, true, true, true, true, true, true, true, true, true, true, false, false, false] rfl rfl (one_of HT_.out (by kernel_rfl)) (by decide) (fun K hK => ?_)
                refine goes_ Try.func85 (by kernel_rfl) rfl #[.agg #[.int .i64 t1594, .int .i64 t1595, .slice Ao96 t1596.length co96], .agg #[.int .i64 t1578, .int .i64 t1579, .slice Ao81 t1580.length co81]] (by rfl) rfl rfl (by (try simp only [List.map_toArray, List.map_cons, List.map_nil]); first | done | rfl | (simp only [List.length_drop, List.length_take]; rfl)) ?_
                with_reducible refine (laws_same.calls kj4 t1594 t1595 _ _ t1596 t1578 t1579 _ _ t1580 t1599 _ ?side1 ?side2 ?side3 ?side4 A73.out).mono ?_
                (case side1 => repeat (first | exact (Kd.R_reads' HO1598.out).2.2 | (with_reducible refine Kd.C_alloc ?_ _) | (with_reducible refine Kd.C_drewN ?_ _) | (with_reducible refine Kd.C_drew ?_)))
                (case side2 => exact (Kd.R_reads' HO1598.out).2.1)
                (case side3 => repeat (first | exact (Kd.R_reads' HO1582.out).2.2 | (with_reducible refine Kd.C_alloc ?_ _) | (with_reducible refine Kd.C_drewN ?_ _) | (with_reducible refine Kd.C_drew ?_)))
                (case side4 => exact (Kd.R_reads' HO1582.out).2.1)
                rintro e w97 ⟨rfl, hb⟩
                refine ⟨_, rfl, ?_⟩
                have n0_ := Aside0.mk (Kd.R_below (by (with_reducible repeat (first | apply Kd.R_alloc | apply Kd.R_drewN | apply Kd.R_drew)); exact HO_1561002.out) hb)
                have n1_ := Aside0.mk (Kd.R_below (by (with_reducible repeat (first | apply Kd.R_alloc | apply Kd.R_drewN | apply Kd.R_drew)); exact HO_1567002.out) hb)
                have n2_ := Aside0.mk (Kd.R_below (by (with_reducible repeat (first | apply Kd.R_alloc | apply Kd.R_drewN | apply Kd.R_drew)); exact HO1577.out) hb)
                have n3_ := Aside0.mk (Kd.R_below (by (with_reducible repeat (first | apply Kd.R_alloc | apply Kd.R_drewN | apply Kd.R_drew)); exact HO1582.out) hb)
                have n4_ := Aside0.mk (Kd.R_below (by (with_reducible repeat (first | apply Kd.R_alloc | apply Kd.R_drewN | apply Kd.R_drew)); exact HO1589.out) hb)
                have n5_ := Aside0.mk (Kd.R_below (by (with_reducible repeat (first | apply Kd.R_alloc | apply Kd.R_drewN | apply Kd.R_drew)); exact HO1598.out) hb)
                have n6_ := Aside0.mk (blk_below (g := gb1560) (o := .cells #[.int .i64 t1555, .int .i64 t1556, .slice Ao9 t1557.length co9] 37 (0, 0)) (by (with_reducible repeat (first | refine blk_drewN ?_ _ | refine blk_drew ?_ | refine blk_alloc ?_ _)); exact BK1560.out) hb)
                have n7_ := Aside0.mk (blk_below (g := gb1566) (o := .cells #[.int .i64 t1561, .int .i64 t1562, .slice Ao14 t1563.length co14] 37 (0, 0)) (by (with_reducible repeat (first | refine blk_drewN ?_ _ | refine blk_drew ?_ | refine blk_alloc ?_ _)); exact BK1566.out) hb)
                have n8_ := Aside0.mk (blk_below (g := gb1583) (o := .cells #[.int .i64 t1578, .int .i64 t1579, .slice Ao81 t1580.length co81] 37 (0, 0)) (by (with_reducible repeat (first | refine blk_drewN ?_ _ | refine blk_drew ?_ | refine blk_alloc ?_ _)); exact BK1583.out) hb)
                have n9_ := Aside0.mk (blk_below (g := gb1590) (o := .cells #[.int .i64 t1585, .int .i64 t1586, .slice Ao90 t1587.length co90] 37 (0, 0)) (by (with_reducible repeat (first | refine blk_drewN ?_ _ | refine blk_drew ?_ | refine blk_alloc ?_ _)); exact BK1590.out) hb)
                have n10_ := Aside0.mk (below_step (by repeat (first | (with_reducible first | exact HB.out | apply below_alloc | apply pw_below_drewN | apply below_drew1 | refine below_set ?_ GE1560.out | refine below_set ?_ GE1566.out | refine below_set ?_ GE1583.out | refine below_set ?_ GE1590.out) | exact HB.out)) hb)
                clear HO_1561002
                clear HO_1567002
                clear HO1577
                clear HO1582
                clear HO1589
                clear HO1598
                clear BK1560
                clear BK1566
                clear BK1583
                clear BK1590
                clear HB
                have HO_1561002 := n0_
                have HO_1567002 := n1_
                have HO1577 := n2_
                have HO1582 := n3_
                have HO1589 := n4_
                have HO1598 := n5_
                have BK1560 := n6_
                have BK1566 := n7_
                have BK1583 := n8_
                have BK1590 := n9_
                have HB := n10_
                clear n0_ n1_ n2_ n3_ n4_ n5_ n6_ n7_ n8_ n9_ n10_
                (try clear hb)
                (try clear hb2)
                (try clear hk)
                (try clear hi)
                refine hK.out _ _ ⟨(blk_cell BK1590.out 0).trans rfl, (blk_cell BK1590.out 1).trans rfl, (blk_cell BK1590.out 2).trans rfl, (blk_cell BK1583.out 0).trans rfl, (blk_cell BK1583.out 1).trans rfl, (blk_cell BK1583.out 2).trans rfl⟩ (fun hHeld => ?_)
                clear hK K
                refine norm_ (a' := ?_) ?_ ?_
                rotate_left
                · show Act.put _ (some 56) _ = _
                  simp only [Act.put, List.setIfInBounds_toArray, List.set_cons_zero, List.set_cons_succ, i64_w, i32_w]
                  rfl
                refine pure_ (i := 19) (N := some 57) (v := ?_) (a' := ?_) #[true, true, true, true, true, true, true, true, true, true, true, true, true, true, true, true, true, true, true, true, false, false] rfl rfl (any_of HT_.out (by kernel_rfl)) (fun _ _ _ h => h) (Or.inl ⟨by rfl, ?_⟩) ?_ ?_
                rotate_left
                · intro w'
                  go_simp
                  with_reducible rfl
                rotate_left
                · simp only [Act.put, List.setIfInBounds_toArray, List.set_cons_zero, List.set_cons_succ, i64_w, i32_w]
                  rfl
                refine pure_ (i := 20) (N := some 58) (v := ?_) (a' := ?_) #[true, true, true, true, true, true, true, true, true, true, true, true, true, true, true, true, true, true, true, true, true, false] rfl rfl (any_of HT_.out (by kernel_rfl)) (fun _ _ _ h => h) (Or.inl ⟨by rfl, ?_⟩) ?_ ?_
                rotate_left
                · intro w'
                  go_simp
                  with_reducible rfl
                rotate_left
                · simp only [Act.put, List.setIfInBounds_toArray, List.set_cons_zero, List.set_cons_succ, i64_w, i32_w]
                  rfl
                refine pure_ (i := 21) (N := some 2) (v := ?_) (a' := ?_) #[true, true, true, true, true, true, true, true, true, true, true, true, true, true, true, true, true, true, true, true, true, true] rfl rfl (any_of HT_.out (by kernel_rfl)) (fun _ _ _ h => h) (Or.inl ⟨by rfl, ?_⟩) ?_ ?_
                rotate_left
                · intro w'
                  go_simp
                  with_reducible rfl
                rotate_left
                · simp only [Act.put, List.setIfInBounds_toArray, List.set_cons_zero, List.set_cons_succ, i64_w, i32_w]
                  rfl
                refine done_ (done_of HT_.out (by kernel_rfl)) ?_
                try go_wp2
                go_ret
                exact ⟨by first | rfl | (simp [errW_none, errW_some] <;> rfl) | (simp [*, errW_none, errW_some] <;> rfl), by repeat (first | (with_reducible first | exact HB.out | apply below_alloc | apply pw_below_drewN | apply below_drew1 | refine below_set ?_ GE1560.out | refine below_set ?_ GE1566.out | refine below_set ?_ GE1583.out | refine below_set ?_ GE1590.out) | exact HB.out)⟩
            · rw [if_neg c48] at H
              have c48b0 : ((wrap64 (t1591 + t1592)) == (wrap64 (255 * (t1580.length : Int)))) = false := beq_eq_false_iff_ne.mpr c48
              have c48b1 : ((wrap64 (t1591 + t1592)) != (wrap64 (255 * (t1580.length : Int)))) = true := bne_iff_ne.mpr c48
              exact absurd ((Option.some.inj H).trans hT.out) (by decide)

end Go.Proofs.Ytbgbbfdmgpcgmaa.P
