-- Written by tools/seatprint.py (over the kit's print, changed in memory). Not trusted: Lean checks it.
import Derived.Test.YtdlehfnlibddcaaP0
import Derived.Test.YtdlehfnlibddcaaFlawsat
import Derived.Test.YtdlehfnlibddcaaFimplIsMatrix
import Derived.Test.YtdlehfnlibddcaaFlawsalike
import Derived.Test.YtdlehfnlibddcaaFspecMakeMatrix
import Derived.Test.YtdlehfnlibddcaaFimplCellsBelow
import Derived.Test.YtdlehfnlibddcaaFimplReverseMatrix
import Derived.Test.YtdlehfnlibddcaaFlawssame
import Derived.Test.YtdlehfnlibddcaaFspecNegativePicture
import Derived.Test.YtdlehfnlibddcaaFlawsbelow
namespace Go.Proofs.Ytdlehfnlibddcaa.P
open Go.RowKit Go.Proofs.YtdlehfnlibddcaaW.PrintWords Go.Proofs.YtdlehfnlibddcaaW.PrintLast Go.Proofs.YtdlehfnlibddcaaW.PrintMore
attribute [local go_sem] max2_int min2_int max_two min_two max_three min_three max_four min_four   -- for this text's walks alone
set_option linter.unusedVariables false
set_option linter.unusedSimpArgs false

/-! ### laws_FnReversed: function 20 -/
def laws_FnReversed.j0 : Nat → List Int → Bool → Int → Int → List Int → Int → Int → List Int → Option (Bool)
  | 0, _, _, _, _, _, _, _, _ => none
  | k + 1, x0, x22, x1237000, x1237001, x1237002, x1243000, x1243001, x1243002 => if x22 = true then (some false) else ((laws_at.f x0 1).bind fun t1250 => (if (wrap64 ((x1237002.length : Int) + 1)) = 0 then (none) else ((impl_CellsBelow.f x1243000 x1243001 x1243002 (Int.tmod t1250 (wrap64 ((x1237002.length : Int) + 1)))).bind fun bt1251 => ((laws_below.f k x1237000 x1237001 x1237002 (wrap64 ((x1237002.length : Int) - (Int.tmod t1250 (wrap64 ((x1237002.length : Int) + 1)))))).bind fun bt1256 => ((spec_NegativePicture.f k bt1256.1 bt1256.2.1 bt1256.2.2).bind fun bt1261 => ((laws_same.f k bt1251.1 bt1251.2.1 bt1251.2.2 bt1261.1 bt1261.2.1 bt1261.2.2).bind fun t1266 => (some t1266)))))))
def laws_FnReversed.f (k : Nat) (l0 : List Int) : Option (Bool) := if (l0.length : Int) > 1048576 then (some true) else ((spec_MakeMatrix.f k l0).bind fun bt1231 => ((impl_ReverseMatrix.f bt1231.1 bt1231.2.1 bt1231.2.2).bind fun bt1237 => ((impl_IsMatrix.f bt1237.1 bt1237.2.1 bt1237.2.2).bind fun t1243 => (if t1243 = true then ((impl_ReverseMatrix.f bt1237.1 bt1237.2.1 bt1237.2.2).bind fun bt1244 => ((laws_alike.f k bt1244.1 bt1244.2.1 bt1244.2.2 bt1231.1 bt1231.2.1 bt1231.2.2).bind fun t1249 => (laws_FnReversed.j0 k l0 (!t1249) bt1231.1 bt1231.2.1 bt1231.2.2 bt1237.1 bt1237.2.1 bt1237.2.2))) else (laws_FnReversed.j0 k l0 true bt1231.1 bt1231.2.1 bt1231.2.2 bt1237.1 bt1237.2.1 bt1237.2.2)))))
theorem laws_FnReversed.mono_l : ∀ k, (∀ y0 y1 y2 y3 y4 y5 y6 y7, LeO (laws_FnReversed.j0 k y0 y1 y2 y3 y4 y5 y6 y7) (laws_FnReversed.j0 (k + 1) y0 y1 y2 y3 y4 y5 y6 y7))
  | 0 => fun _ _ _ _ _ _ _ _ r h => by simp [laws_FnReversed.j0] at h
  | k + 1 => by
    have ih0 := laws_FnReversed.mono_l k
    · intro y0 y1 y2 y3 y4 y5 y6 y7
      unfold laws_FnReversed.j0
      repeat' first
      | (with_reducible exact ih0 _ _ _ _ _ _ _ _)
      | (with_reducible exact laws_alike.mono _ _ _ _ _ _ _)
      | (with_reducible exact laws_below.mono _ _ _ _ _)
      | (with_reducible exact laws_same.mono _ _ _ _ _ _ _)
      | (with_reducible exact spec_MakeMatrix.mono _ _)
      | (with_reducible exact spec_NegativePicture.mono _ _ _ _)
      | (with_reducible exact LeO.refl _)
      | (with_reducible exact LeO.none _)
      | (with_reducible refine LeO.ite ?_ ?_)
      | (with_reducible refine LeO.bind ?_ (fun _ => ?_))
      | exact ih0 _ _ _ _ _ _ _ _
      | exact laws_alike.mono _ _ _ _ _ _ _
      | exact laws_below.mono _ _ _ _ _
      | exact laws_same.mono _ _ _ _ _ _ _
      | exact spec_MakeMatrix.mono _ _
      | exact spec_NegativePicture.mono _ _ _ _
      | exact LeO.none _
      | refine LeO.ite ?_ ?_
      | refine LeO.bind ?_ (fun _ => ?_)
theorem laws_FnReversed.mono : ∀ a0 k, LeO (laws_FnReversed.f k a0) (laws_FnReversed.f (k + 1) a0) := by
  intro a0 k
  have ih0 := laws_FnReversed.mono_l k
  unfold laws_FnReversed.f
  repeat' first
      | (with_reducible exact ih0 _ _ _ _ _ _ _ _)
      | (with_reducible exact laws_alike.mono _ _ _ _ _ _ _)
      | (with_reducible exact laws_below.mono _ _ _ _ _)
      | (with_reducible exact laws_same.mono _ _ _ _ _ _ _)
      | (with_reducible exact spec_MakeMatrix.mono _ _)
      | (with_reducible exact spec_NegativePicture.mono _ _ _ _)
      | (with_reducible exact LeO.refl _)
      | (with_reducible exact LeO.none _)
      | (with_reducible refine LeO.ite ?_ ?_)
      | (with_reducible refine LeO.bind ?_ (fun _ => ?_))
      | exact ih0 _ _ _ _ _ _ _ _
      | exact laws_alike.mono _ _ _ _ _ _ _
      | exact laws_below.mono _ _ _ _ _
      | exact laws_same.mono _ _ _ _ _ _ _
      | exact spec_MakeMatrix.mono _ _
      | exact spec_NegativePicture.mono _ _ _ _
      | exact LeO.none _
      | refine LeO.ite ?_ ?_
      | refine LeO.bind ?_ (fun _ => ?_)
def laws_FnReversed.T5 : Bool × List (List Nat × List Nat) := (true, [([], []), ([0], [0]), ([1], [1]), ([2, 1], [2]), ([3], [3]), ([4, 3, 3], [3, 4]), ([3], [3]), ([5, 6, 5, 3], [3, 5, 6]), ([7, 3], [3, 7]), ([3, 8], [3, 8])])
def laws_FnReversed.B5 : List Nat := [0, 1, 3, 7, 15, 31, 15, 127, 255, 511]
theorem laws_FnReversed.tab5 : rtab .any (opsOf Try.f20 5) = laws_FnReversed.T5 := by kernel_rfl
theorem laws_FnReversed.bits5 : waitsOk laws_FnReversed.T5.2 laws_FnReversed.B5 = true := by kernel_rfl
def laws_FnReversed.T7 : Bool × List (List Nat × List Nat) := (true, [([], []), ([0], [0]), ([], []), ([2], [2]), ([3], [3]), ([4], [4]), ([1, 5], [1, 5]), ([6, 1, 0, 1, 2, 3, 4, 5, 6], [6])])
def laws_FnReversed.B7 : List Nat := [0, 1, 0, 4, 12, 28, 63, 127]
theorem laws_FnReversed.tab7 : rtab .any (opsOf Try.f20 7) = laws_FnReversed.T7 := by kernel_rfl
theorem laws_FnReversed.bits7 : waitsOk laws_FnReversed.T7.2 laws_FnReversed.B7 = true := by kernel_rfl
def laws_FnReversed.T8 : Bool × List (List Nat × List Nat) := (true, [([], []), ([], []), ([0, 1], [0, 1]), ([], []), ([], []), ([4], [4]), ([5], [5]), ([], []), ([6, 7], [6, 7]), ([3, 8, 2], [3, 8]), ([9, 9], [9]), ([2, 10, 10], [2, 10]), ([11, 11, 0, 1, 2, 3, 4, 5, 6, 7, 8, 9, 10, 11], [11])])
def laws_FnReversed.B8 : List Nat := [0, 0, 3, 0, 0, 16, 48, 0, 240, 511, 1023, 2047, 4095]
theorem laws_FnReversed.tab8 : rtab .any (opsOf Try.f20 8) = laws_FnReversed.T8 := by kernel_rfl
theorem laws_FnReversed.bits8 : waitsOk laws_FnReversed.T8.2 laws_FnReversed.B8 = true := by kernel_rfl
set_option maxHeartbeats 8000000 in
set_option maxRecDepth 100000 in
theorem laws_FnReversed.calls (k : Nat) (A0 : Option Addr) (c0 : Nat) (l0 : List Int) (r : Bool) (w : World) (hr0 : Kd.C (Kd.int .u8) w A0 l0.length l0) (hc0 : l0.length ≤ c0) (hT : Aside0 (r = true)) (h : laws_FnReversed.f k l0 = some r) :
    Calls Try.prog 20 #[.slice A0 l0.length c0] w fun e w' => e = .returned (.bool r) ∧ Below w.heap.size w w' := by
  have hu26 := Try.underlying26
  have HR0 := Aside0.mk hr0
  have HC0 := Aside0.mk hc0
  clear hr0 hc0
  have HB := Aside0.mk (Below.refl w.heap.size w)
  have H : (if (l0.length : Int) > 1048576 then (some true) else ((spec_MakeMatrix.f k l0).bind fun bt1231 => ((impl_ReverseMatrix.f bt1231.1 bt1231.2.1 bt1231.2.2).bind fun bt1237 => ((impl_IsMatrix.f bt1237.1 bt1237.2.1 bt1237.2.2).bind fun t1243 => (if t1243 = true then ((impl_ReverseMatrix.f bt1237.1 bt1237.2.1 bt1237.2.2).bind fun bt1244 => ((laws_alike.f k bt1244.1 bt1244.2.1 bt1244.2.2 bt1231.1 bt1231.2.1 bt1231.2.2).bind fun t1249 => (laws_FnReversed.j0 k l0 (!t1249) bt1231.1 bt1231.2.1 bt1231.2.2 bt1237.1 bt1237.2.1 bt1237.2.2))) else (laws_FnReversed.j0 k l0 true bt1231.1 bt1231.2.1 bt1231.2.2 bt1237.1 bt1237.2.1 bt1237.2.2)))))) = some r := h
  clear h
  by_cases c2 : (l0.length : Int) > 1048576
  · rw [if_pos c2] at H
    have c2b0 : decide (1048576 < (l0.length : Int)) = true := decide_eq_true c2
    have c2b1 : decide (1048576 < l0.length) = true := decide_eq_true (by omega)
    clear c2
    obtain rfl := Option.some.inj H
    go_enter Try.func20, Try.ntmps20
    go_wp2
    go_ret
    exact ⟨by first | rfl | (simp [errW_none, errW_some] <;> rfl) | (simp [*, errW_none, errW_some] <;> rfl), by repeat (first | (with_reducible first | exact HB.out | apply below_alloc | apply pw_below_drewN | apply below_drew1) | exact HB.out)⟩
  · rw [if_neg c2] at H
    have c2b0 : decide (1048576 < (l0.length : Int)) = false := decide_eq_false c2
    have c2b1 : decide (1048576 < l0.length) = false := decide_eq_false (by omega)
    clear c2
    replace H := Option.bind_eq_some_iff.mp H
    obtain ⟨⟨t1231, t1232, t1233⟩, A30, H⟩ := H
    replace H : ((impl_ReverseMatrix.f t1231 t1232 t1233).bind fun bt1237 => ((impl_IsMatrix.f bt1237.1 bt1237.2.1 bt1237.2.2).bind fun t1243 => (if t1243 = true then ((impl_ReverseMatrix.f bt1237.1 bt1237.2.1 bt1237.2.2).bind fun bt1244 => ((laws_alike.f k bt1244.1 bt1244.2.1 bt1244.2.2 t1231 t1232 t1233).bind fun t1249 => (laws_FnReversed.j0 k l0 (!t1249) t1231 t1232 t1233 bt1237.1 bt1237.2.1 bt1237.2.2))) else (laws_FnReversed.j0 k l0 true t1231 t1232 t1233 bt1237.1 bt1237.2.1 bt1237.2.2)))) = some r := H
    have A3 := Aside0.mk A30
    clear A30
    replace H := Option.bind_eq_some_iff.mp H
    obtain ⟨⟨t1237, t1238, t1239⟩, A40, H⟩ := H
    replace H : ((impl_IsMatrix.f t1237 t1238 t1239).bind fun t1243 => (if t1243 = true then ((impl_ReverseMatrix.f t1237 t1238 t1239).bind fun bt1244 => ((laws_alike.f k bt1244.1 bt1244.2.1 bt1244.2.2 t1231 t1232 t1233).bind fun t1249 => (laws_FnReversed.j0 k l0 (!t1249) t1231 t1232 t1233 t1237 t1238 t1239))) else (laws_FnReversed.j0 k l0 true t1231 t1232 t1233 t1237 t1238 t1239))) = some r := H
    have A4 := Aside0.mk A40
    clear A40
    have HC5 := Aside0.mk H
    clear H
    go_enter Try.func20, Try.ntmps20
    go_upto_region 5 with (first | ((with_reducible refine gate_callee (f := 37) rfl ?_); refine goesL_ (some 10) rfl rfl Try.func37 (by kernel_rfl) rfl #[.slice A0 l0.length c0] rfl (by (try simp only [List.map_toArray, List.map_cons, List.map_nil]); first | done | rfl | (simp only [List.length_drop, List.length_take]; rfl)) ?_; (with_reducible refine (spec_MakeMatrix.calls k _ _ l0 t1231 t1232 t1233 _ ?side1 ?side2 A3.out).mono ?_); (case side1 => repeat (first | exact HR0.out | (with_reducible refine Kd.C_alloc ?_ _) | (with_reducible refine Kd.C_drewN ?_ _) | (with_reducible refine Kd.C_drew ?_))); (case side2 => exact HC0.out); rintro e w6 ⟨v1234, rfl, ho0, hb⟩; refine ⟨_, rfl, ?_⟩; have n0_ := Aside0.mk (Kd.R_lower ho0 (below_size (by repeat (first | (with_reducible first | exact HB.out | apply below_alloc | apply pw_below_drewN | apply below_drew1) | exact HB.out)))); have n1_ := Aside0.mk (below_step (by repeat (first | (with_reducible first | exact HB.out | apply below_alloc | apply pw_below_drewN | apply below_drew1) | exact HB.out)) hb); clear HB; have HO1235 := n0_; have HB := n1_; clear n0_ n1_; (try clear hb); (try clear hb2); (try clear hk); (try clear hi); (try clear ho0)) | ((with_reducible refine gate_dst (N := 3) rfl ?_); refine box_event ?hg (N := 3) ?hd (cs := #[.int .i64 0, .int .i64 0, .slice none 0 0]) (t := 26) ?hr ?_; (case hd => rfl); (case hg => rfl); (case hr => first | (go_simp; done) | (go_simp; rfl)); intro gb1236 hg w7 hbox hb; have n0_ := Aside0.mk (Kd.R_below (by (with_reducible repeat (first | apply Kd.R_alloc | apply Kd.R_drewN | apply Kd.R_drew)); exact HO1235.out) hb); have n1_ := Aside0.mk (below_step (by repeat (first | (with_reducible first | exact HB.out | apply below_alloc | apply pw_below_drewN | apply below_drew1) | exact HB.out)) hb); have n2_ := Aside0.mk (hbox); have n3_ := Aside0.mk ((by rw [hg]; exact (below_size (by repeat (first | (with_reducible first | exact HB.out | apply below_alloc | apply pw_below_drewN | apply below_drew1) | exact HB.out))) : w.heap.size ≤ gb1236)); have n4_ := Aside0.mk ((by rw [hg]; exact (below_size (by repeat (first | (with_reducible first | exact HB.out | apply below_alloc | apply pw_below_drewN | apply below_drew1) | exact HB.out))) : w.heap.size ≤ gb1236)); clear HO1235; clear HB; have HO1235 := n0_; have HB := n1_; have BK1236 := n2_; have GW1236 := n3_; have GE1236 := n4_; clear n0_ n1_ n2_ n3_ n4_; clear hb hbox hg; have hcz8_0 : w7.cell? ⟨gb1236, 0, none⟩ = some (.int .i64 0) := (blk_cell BK1236.out 0).trans rfl; have hcz8_1 : w7.cell? ⟨gb1236, 1, none⟩ = some (.int .i64 0) := (blk_cell BK1236.out 1).trans rfl; have hcz8_2 : w7.cell? ⟨gb1236, 2, none⟩ = some (.slice none 0 0) := (blk_cell BK1236.out 2).trans rfl; have hfz8_0 := blk_frozen BK1236.out 0; have hfz8_1 := blk_frozen BK1236.out 1; have hfz8_2 := blk_frozen BK1236.out 2; obtain ⟨Ao9, co9, eo9⟩ := Kd.R_slice HO1235.out; subst eo9) | ((with_reducible refine gate_callee (f := 73) rfl ?_); refine goesL_ (some 12) rfl rfl Try.func73 (by kernel_rfl) rfl #[.agg #[.int .i64 t1231, .int .i64 t1232, .slice Ao9 t1233.length co9]] rfl (by (try simp only [List.map_toArray, List.map_cons, List.map_nil]); first | done | rfl | (simp only [List.length_drop, List.length_take]; rfl)) ?_; (with_reducible refine (impl_ReverseMatrix.calls t1231 t1232 _ _ t1233 t1237 t1238 t1239 _ ?side1 ?side2 A4.out).mono ?_); (case side1 => refine (Kd.R_reads' (e := 3) (base := w.heap.size) (ok := fun k_ => True) (n := t1233.length) (c := co9) ?_).2.2; exact (by (with_reducible repeat (first | apply Kd.R_alloc | apply Kd.R_drewN | apply Kd.R_drew)); exact (Kd.R_mono (Kd.R_far (p := ⟨gb1236, 2, none⟩) (Kd.R_far (p := ⟨gb1236, 1, none⟩) (Kd.R_far (p := ⟨gb1236, 0, none⟩) (Kd.R_types HO1235.out BK1236.out (by decide)) (fun _ hk => hk.2) (.int .i64 t1231)) (fun _ hk => hk.2) (.int .i64 t1232)) (fun _ hk => hk.2) (.slice Ao9 t1233.length co9)) (fun _ h_ => h_.1)))); (case side2 => exact (Kd.R_reads' HO1235.out).2.1); rintro e w10 ⟨v1240, rfl, ho0, hb⟩; refine ⟨_, rfl, ?_⟩; have n0_ := Aside0.mk (Kd.R_elder' (by (with_reducible repeat (first | apply Kd.R_alloc | apply Kd.R_drewN | apply Kd.R_drew)); exact (Kd.R_mono (Kd.R_far (p := ⟨gb1236, 2, none⟩) (Kd.R_far (p := ⟨gb1236, 1, none⟩) (Kd.R_far (p := ⟨gb1236, 0, none⟩) (Kd.R_types HO1235.out BK1236.out (by decide)) (fun _ hk => hk.2) (.int .i64 t1231)) (fun _ hk => hk.2) (.int .i64 t1232)) (fun _ hk => hk.2) (.slice Ao9 t1233.length co9)) (fun _ h_ => h_.1))) (Kd.R_base ho0) hb); have n1_ := Aside0.mk (Kd.R_lower (Kd.R_new' ho0 (Kd.R_lt (by (with_reducible repeat (first | apply Kd.R_alloc | apply Kd.R_drewN | apply Kd.R_drew)); exact (Kd.R_mono (Kd.R_far (p := ⟨gb1236, 2, none⟩) (Kd.R_far (p := ⟨gb1236, 1, none⟩) (Kd.R_far (p := ⟨gb1236, 0, none⟩) (Kd.R_types HO1235.out BK1236.out (by decide)) (fun _ hk => hk.2) (.int .i64 t1231)) (fun _ hk => hk.2) (.int .i64 t1232)) (fun _ hk => hk.2) (.slice Ao9 t1233.length co9)) (fun _ h_ => h_.1))))) (below_size (by repeat (first | (with_reducible first | exact HB.out | apply below_alloc | apply pw_below_drewN | apply below_drew1 | refine below_set ?_ GE1236.out) | exact HB.out)))); have n2_ := Aside0.mk (blk_below (g := gb1236) (o := .cells #[.int .i64 t1231, .int .i64 t1232, .slice Ao9 t1233.length co9] 26 (0, 0)) (by (with_reducible repeat (first | refine blk_drewN ?_ _ | refine blk_drew ?_ | refine blk_alloc ?_ _)); refine blk_put (cs := #[.int .i64 t1231, .int .i64 t1232, .slice none 0 0]) ?_ 2 _ rfl; (with_reducible repeat (first | refine blk_drewN ?_ _ | refine blk_drew ?_ | refine blk_alloc ?_ _)); refine blk_put (cs := #[.int .i64 t1231, .int .i64 0, .slice none 0 0]) ?_ 1 _ rfl; (with_reducible repeat (first | refine blk_drewN ?_ _ | refine blk_drew ?_ | refine blk_alloc ?_ _)); refine blk_put (cs := #[.int .i64 0, .int .i64 0, .slice none 0 0]) ?_ 0 _ rfl; (with_reducible repeat (first | refine blk_drewN ?_ _ | refine blk_drew ?_ | refine blk_alloc ?_ _)); exact BK1236.out) hb); have n3_ := Aside0.mk (below_step (by repeat (first | (with_reducible first | exact HB.out | apply below_alloc | apply pw_below_drewN | apply below_drew1 | refine below_set ?_ GE1236.out) | exact HB.out)) hb); clear HO1235; clear BK1236; clear HB; have HO1235 := n0_; have HO1241 := n1_; have BK1236 := n2_; have HB := n3_; clear n0_ n1_ n2_ n3_; (try clear hb); (try clear hb2); (try clear hk); (try clear hi); (try clear ho0)) | ((with_reducible refine gate_dst (N := 4) rfl ?_); refine box_event ?hg (N := 4) ?hd (cs := #[.int .i64 0, .int .i64 0, .slice none 0 0]) (t := 26) ?hr ?_; (case hd => rfl); (case hg => rfl); (case hr => first | (go_simp; done) | (go_simp; rfl)); intro gb1242 hg w11 hbox hb; have n0_ := Aside0.mk (Kd.R_below (by (with_reducible repeat (first | apply Kd.R_alloc | apply Kd.R_drewN | apply Kd.R_drew)); exact HO1235.out) hb); have n1_ := Aside0.mk (Kd.R_below (by (with_reducible repeat (first | apply Kd.R_alloc | apply Kd.R_drewN | apply Kd.R_drew)); exact HO1241.out) hb); have n2_ := Aside0.mk (blk_below (g := gb1236) (o := .cells #[.int .i64 t1231, .int .i64 t1232, .slice Ao9 t1233.length co9] 26 (0, 0)) (by (with_reducible repeat (first | refine blk_drewN ?_ _ | refine blk_drew ?_ | refine blk_alloc ?_ _)); exact BK1236.out) hb); have n3_ := Aside0.mk (below_step (by repeat (first | (with_reducible first | exact HB.out | apply below_alloc | apply pw_below_drewN | apply below_drew1 | refine below_set ?_ GE1236.out) | exact HB.out)) hb); have n4_ := Aside0.mk (hbox); have n5_ := Aside0.mk ((by rw [hg]; exact (below_size (by repeat (first | (with_reducible first | exact HB.out | apply below_alloc | apply pw_below_drewN | apply below_drew1 | refine below_set ?_ GE1236.out) | exact HB.out))) : w.heap.size ≤ gb1242)); have n6_ := Aside0.mk ((by rw [hg]; exact (below_size (by repeat (first | (with_reducible first | exact HB.out | apply below_alloc | apply pw_below_drewN | apply below_drew1 | refine below_set ?_ GE1236.out) | exact HB.out))) : w.heap.size ≤ gb1242)); have n7_ := Aside0.mk ((by rw [hg]; exact Nat.ne_of_lt (blk_lt (g := gb1236) (o := .cells #[.int .i64 t1231, .int .i64 t1232, .slice Ao9 t1233.length co9] 26 (0, 0)) (by (with_reducible repeat (first | refine blk_drewN ?_ _ | refine blk_drew ?_ | refine blk_alloc ?_ _)); exact BK1236.out)) : gb1236 ≠ gb1242)); have n8_ := Aside0.mk ((by rw [hg]; exact Nat.ne_of_gt (blk_lt (g := gb1236) (o := .cells #[.int .i64 t1231, .int .i64 t1232, .slice Ao9 t1233.length co9] 26 (0, 0)) (by (with_reducible repeat (first | refine blk_drewN ?_ _ | refine blk_drew ?_ | refine blk_alloc ?_ _)); exact BK1236.out)) : gb1242 ≠ gb1236)); clear HO1235; clear HO1241; clear BK1236; clear HB; have HO1235 := n0_; have HO1241 := n1_; have BK1236 := n2_; have HB := n3_; have BK1242 := n4_; have GW1242 := n5_; have GE1242 := n6_; have NB1236_1242 := n7_; have NB1242_1236 := n8_; clear n0_ n1_ n2_ n3_ n4_ n5_ n6_ n7_ n8_; clear hb hbox hg; have hnb12 := NB1242_1236.out; have hnc12 := NB1236_1242.out; have hcz13_0 : w11.cell? ⟨gb1242, 0, none⟩ = some (.int .i64 0) := (blk_cell BK1242.out 0).trans rfl; have hcz13_1 : w11.cell? ⟨gb1242, 1, none⟩ = some (.int .i64 0) := (blk_cell BK1242.out 1).trans rfl; have hcz13_2 : w11.cell? ⟨gb1242, 2, none⟩ = some (.slice none 0 0) := (blk_cell BK1242.out 2).trans rfl; have hfz13_0 := blk_frozen BK1242.out 0; have hfz13_1 := blk_frozen BK1242.out 1; have hfz13_2 := blk_frozen BK1242.out 2; obtain ⟨Ao14, co14, eo14⟩ := Kd.R_slice HO1241.out; subst eo14))
    (try simp only [Act.put, List.setIfInBounds_toArray, List.set_cons_zero, List.set_cons_succ])
    go_cut [22] (fun v22 wc => ∃ (kq : Nat) (x22_4 : Bool), v22 = .bool x22_4 ∧ Aside0 (laws_FnReversed.j0 kq l0 x22_4 t1231 t1232 t1233 t1237 t1238 t1239 = some r) ∧ Aside0 (kq ≤ k) ∧ Aside0 (Kd.R (Kd.int .i64) 3 wc w.heap.size (fun k_ => some k_ ≠ ((.slice Ao14 t1239.length co14) : Value).ownBlock) (.slice Ao9 t1233.length co9) t1233) ∧ Aside0 (Kd.R (Kd.int .i64) 3 wc w.heap.size (fun k_ => some k_ ≠ ((.slice Ao9 t1233.length co9) : Value).ownBlock) (.slice Ao14 t1239.length co14) t1239) ∧ Aside0 (wc.heap[gb1236]? = some (.cells #[.int .i64 t1231, .int .i64 t1232, (.slice Ao9 t1233.length co9)] 26 (0, 0))) ∧ Aside0 (wc.heap[gb1242]? = some (.cells #[.int .i64 t1237, .int .i64 t1238, (.slice Ao14 t1239.length co14)] 26 (0, 0))) ∧ Aside0 (Below w.heap.size w wc))
    case first =>
      have H := HC5.out
      clear HC5
      replace H := Option.bind_eq_some_iff.mp H
      obtain ⟨t1243, A150, H⟩ := H
      replace H : (if t1243 = true then ((impl_ReverseMatrix.f t1237 t1238 t1239).bind fun bt1244 => ((laws_alike.f k bt1244.1 bt1244.2.1 bt1244.2.2 t1231 t1232 t1233).bind fun t1249 => (laws_FnReversed.j0 k l0 (!t1249) t1231 t1232 t1233 t1237 t1238 t1239))) else (laws_FnReversed.j0 k l0 true t1231 t1232 t1233 t1237 t1238 t1239)) = some r := H
      have A15 := Aside0.mk A150
      clear A150
      by_cases c16 : t1243 = true
      · subst c16
        have H1 : ((impl_ReverseMatrix.f t1237 t1238 t1239).bind fun bt1244 => ((laws_alike.f k bt1244.1 bt1244.2.1 bt1244.2.2 t1231 t1232 t1233).bind fun t1249 => (laws_FnReversed.j0 k l0 (!t1249) t1231 t1232 t1233 t1237 t1238 t1239))) = some r := by rw [if_pos rfl] at H; exact H
        clear H
        have H := H1
        clear H1
        replace H := Option.bind_eq_some_iff.mp H
        obtain ⟨⟨t1244, t1245, t1246⟩, A170, H⟩ := H
        replace H : ((laws_alike.f k t1244 t1245 t1246 t1231 t1232 t1233).bind fun t1249 => (laws_FnReversed.j0 k l0 (!t1249) t1231 t1232 t1233 t1237 t1238 t1239)) = some r := H
        have A17 := Aside0.mk A170
        clear A170
        replace H := Option.bind_eq_some_iff.mp H
        obtain ⟨t1249, A180, H⟩ := H
        replace H : (laws_FnReversed.j0 k l0 (!t1249) t1231 t1232 t1233 t1237 t1238 t1239) = some r := H
        have A18 := Aside0.mk A180
        clear A180
        have H' := Aside0.mk H
        clear H
        try go_wp2
        have n0_ : Aside0 (Kd.R (Kd.int .i64) 3 (((w11.setCell ⟨gb1242, 0, none⟩ (.int .i64 t1237)).setCell ⟨gb1242, 1, none⟩ (.int .i64 t1238)).setCell ⟨gb1242, 2, none⟩ (.slice Ao14 t1239.length co14)) w.heap.size (fun k_ => some k_ ≠ (.slice Ao14 t1239.length co14 : Value).ownBlock) (.slice Ao9 t1233.length co9) t1233) := ⟨by (with_reducible repeat (first | apply Kd.R_alloc | apply Kd.R_drewN | apply Kd.R_drew)); exact Kd.R_mono (Kd.R_far (p := ⟨gb1242, 2, none⟩) (Kd.R_far (p := ⟨gb1242, 1, none⟩) (Kd.R_far (p := ⟨gb1242, 0, none⟩) (Kd.R_types HO1235.out BK1242.out (by decide)) (fun _ hk => hk.2) (.int .i64 t1237)) (fun _ hk => hk.2) (.int .i64 t1238)) (fun _ hk => hk.2) (.slice Ao14 t1239.length co14)) (fun _ hk => hk.1.2)⟩
        have n1_ : Aside0 (Kd.R (Kd.int .i64) 3 (((w11.setCell ⟨gb1242, 0, none⟩ (.int .i64 t1237)).setCell ⟨gb1242, 1, none⟩ (.int .i64 t1238)).setCell ⟨gb1242, 2, none⟩ (.slice Ao14 t1239.length co14)) w.heap.size (fun k_ => some k_ ≠ (.slice Ao9 t1233.length co9 : Value).ownBlock) (.slice Ao14 t1239.length co14) t1239) := ⟨by (with_reducible repeat (first | apply Kd.R_alloc | apply Kd.R_drewN | apply Kd.R_drew)); exact Kd.R_mono (Kd.R_far (p := ⟨gb1242, 2, none⟩) (Kd.R_far (p := ⟨gb1242, 1, none⟩) (Kd.R_far (p := ⟨gb1242, 0, none⟩) (Kd.R_types HO1241.out BK1242.out (by decide)) (fun _ hk => hk.2) (.int .i64 t1237)) (fun _ hk => hk.2) (.int .i64 t1238)) (fun _ hk => hk.2) (.slice Ao14 t1239.length co14)) (fun _ hk => hk.1.2)⟩
        have n2_ : Aside0 ((((w11.setCell ⟨gb1242, 0, none⟩ (.int .i64 t1237)).setCell ⟨gb1242, 1, none⟩ (.int .i64 t1238)).setCell ⟨gb1242, 2, none⟩ (.slice Ao14 t1239.length co14)).heap[gb1236]? = some (.cells #[.int .i64 t1231, .int .i64 t1232, .slice Ao9 t1233.length co9] 26 (0, 0))) := ⟨by (with_reducible repeat (first | refine blk_drewN ?_ _ | refine blk_drew ?_ | refine blk_alloc ?_ _)); refine blk_far ?_ NB1236_1242.out _; (with_reducible repeat (first | refine blk_drewN ?_ _ | refine blk_drew ?_ | refine blk_alloc ?_ _)); refine blk_far ?_ NB1236_1242.out _; (with_reducible repeat (first | refine blk_drewN ?_ _ | refine blk_drew ?_ | refine blk_alloc ?_ _)); refine blk_far ?_ NB1236_1242.out _; (with_reducible repeat (first | refine blk_drewN ?_ _ | refine blk_drew ?_ | refine blk_alloc ?_ _)); exact BK1236.out⟩
        have n3_ : Aside0 ((((w11.setCell ⟨gb1242, 0, none⟩ (.int .i64 t1237)).setCell ⟨gb1242, 1, none⟩ (.int .i64 t1238)).setCell ⟨gb1242, 2, none⟩ (.slice Ao14 t1239.length co14)).heap[gb1242]? = some (.cells #[.int .i64 t1237, .int .i64 t1238, .slice Ao14 t1239.length co14] 26 (0, 0))) := ⟨by (with_reducible repeat (first | refine blk_drewN ?_ _ | refine blk_drew ?_ | refine blk_alloc ?_ _)); refine blk_put (cs := #[.int .i64 t1237, .int .i64 t1238, .slice none 0 0]) ?_ 2 _ rfl; (with_reducible repeat (first | refine blk_drewN ?_ _ | refine blk_drew ?_ | refine blk_alloc ?_ _)); refine blk_put (cs := #[.int .i64 t1237, .int .i64 0, .slice none 0 0]) ?_ 1 _ rfl; (with_reducible repeat (first | refine blk_drewN ?_ _ | refine blk_drew ?_ | refine blk_alloc ?_ _)); refine blk_put (cs := #[.int .i64 0, .int .i64 0, .slice none 0 0]) ?_ 0 _ rfl; (with_reducible repeat (first | refine blk_drewN ?_ _ | refine blk_drew ?_ | refine blk_alloc ?_ _)); exact BK1242.out⟩
        have n4_ : Aside0 (Below w.heap.size w (((w11.setCell ⟨gb1242, 0, none⟩ (.int .i64 t1237)).setCell ⟨gb1242, 1, none⟩ (.int .i64 t1238)).setCell ⟨gb1242, 2, none⟩ (.slice Ao14 t1239.length co14))) := ⟨by repeat (first | (with_reducible first | exact HB.out | apply below_alloc | apply pw_below_drewN | apply below_drew1 | refine below_set ?_ GE1236.out | refine below_set ?_ GE1242.out) | exact HB.out)⟩
        (try clear HO1235)
        (try clear HO1241)
        (try clear BK1236)
        (try clear BK1242)
        (try clear HB)
        generalize (((w11.setCell ⟨gb1242, 0, none⟩ (.int .i64 t1237)).setCell ⟨gb1242, 1, none⟩ (.int .i64 t1238)).setCell ⟨gb1242, 2, none⟩ (.slice Ao14 t1239.length co14)) = w19 at n0_ n1_ n2_ n3_ n4_ ⊢
        have HO1235 := n0_
        have HO1241 := n1_
        have BK1236 := n2_
        have BK1242 := n3_
        have HB := n4_
        clear n0_ n1_ n2_ n3_ n4_
        have n0_ := Aside0.mk (Kd.R_drew HO1235.out)
        have n1_ := Aside0.mk (Kd.R_drew HO1241.out)
        have n2_ := Aside0.mk (blk_drew BK1236.out)
        have n3_ := Aside0.mk (blk_drew BK1242.out)
        have n4_ := Aside0.mk (below_drew1 HB.out)
        clear HO1235
        clear HO1241
        clear BK1236
        clear BK1242
        clear HB
        have HO1235 := n0_
        have HO1241 := n1_
        have BK1236 := n2_
        have BK1242 := n3_
        have HB := n4_
        clear n0_ n1_ n2_ n3_ n4_
        refine start_ (n := 10) (S := fun w' => w'.cell? ⟨gb1242, 0, none⟩ = some (.int .i64 t1237) ∧ w'.cell? ⟨gb1242, 1, none⟩ = some (.int .i64 t1238) ∧ w'.cell? ⟨gb1242, 2, none⟩ = some (.slice Ao14 t1239.length co14) ∧ w'.cell? ⟨gb1236, 0, none⟩ = some (.int .i64 t1231) ∧ w'.cell? ⟨gb1236, 1, none⟩ = some (.int .i64 t1232) ∧ w'.cell? ⟨gb1236, 2, none⟩ = some (.slice Ao9 t1233.length co9)) (ds := []) #[false, false, false, false, false, false, false, false, false, false] (by kernel_rfl) rfl rfl ⟨(blk_cell BK1242.out 0).trans rfl, (blk_cell BK1242.out 1).trans rfl, (blk_cell BK1242.out 2).trans rfl, (blk_cell BK1236.out 0).trans rfl, (blk_cell BK1236.out 1).trans rfl, (blk_cell BK1236.out 2).trans rfl⟩ (fun hHeld => ?_); refine with_tabW laws_FnReversed.tab5 laws_FnReversed.bits5 (fun HT_ HW_ => ?_)
        generalize w19.drew = w20 at HO1235 HO1241 BK1236 BK1242 HB hHeld ⊢
        refine take_ (i := 0) (N := some 13) (v := ?_) (a' := ?_) #[true, false, false, false, false, false, false, false, false, false] rfl rfl (take_ofW HT_.out HW_.out (by kernel_rfl)) (fun _ _ _ h => h) (Or.inl ⟨by rfl, ?_⟩) hHeld ?_ ?_
        rotate_left
        · rintro w' ⟨s0, s1, s2, s3, s4, s5⟩
          go_simp
          with_reducible rfl
        rotate_left
        · simp only [Act.put, List.setIfInBounds_toArray, List.set_cons_zero, List.set_cons_succ, i64_w, i32_w]
          rfl
        refine one_ (i := 1) (N := some 14) #[true, true, false, false, false, false, false, false, false, false] rfl rfl (one_of HT_.out (by kernel_rfl)) (by decide) (fun K hK => ?_)
        refine goes_ Try.func28 (by kernel_rfl) rfl #[.agg #[.int .i64 t1237, .int .i64 t1238, .slice Ao14 t1239.length co14]] (by rfl) rfl rfl (by (try simp only [List.map_toArray, List.map_cons, List.map_nil]); first | done | rfl | (simp only [List.length_drop, List.length_take]; rfl)) ?_
        with_reducible refine (impl_IsMatrix.calls t1237 t1238 _ _ t1239 true _ ?side1 ?side2 A15.out).mono ?_
        (case side1 => repeat (first | exact (Kd.R_reads' HO1241.out).2.2 | (with_reducible refine Kd.C_alloc ?_ _) | (with_reducible refine Kd.C_drewN ?_ _) | (with_reducible refine Kd.C_drew ?_)))
        (case side2 => exact (Kd.R_reads' HO1241.out).2.1)
        rintro e w21 ⟨rfl, hb⟩
        refine ⟨_, rfl, ?_⟩
        have n0_ := Aside0.mk (Kd.R_below (by (with_reducible repeat (first | apply Kd.R_alloc | apply Kd.R_drewN | apply Kd.R_drew)); exact HO1235.out) hb)
        have n1_ := Aside0.mk (Kd.R_below (by (with_reducible repeat (first | apply Kd.R_alloc | apply Kd.R_drewN | apply Kd.R_drew)); exact HO1241.out) hb)
        have n2_ := Aside0.mk (blk_below (g := gb1236) (o := .cells #[.int .i64 t1231, .int .i64 t1232, .slice Ao9 t1233.length co9] 26 (0, 0)) (by (with_reducible repeat (first | refine blk_drewN ?_ _ | refine blk_drew ?_ | refine blk_alloc ?_ _)); exact BK1236.out) hb)
        have n3_ := Aside0.mk (blk_below (g := gb1242) (o := .cells #[.int .i64 t1237, .int .i64 t1238, .slice Ao14 t1239.length co14] 26 (0, 0)) (by (with_reducible repeat (first | refine blk_drewN ?_ _ | refine blk_drew ?_ | refine blk_alloc ?_ _)); exact BK1242.out) hb)
        have n4_ := Aside0.mk (below_step (by repeat (first | (with_reducible first | exact HB.out | apply below_alloc | apply pw_below_drewN | apply below_drew1 | refine below_set ?_ GE1236.out | refine below_set ?_ GE1242.out) | exact HB.out)) hb)
        clear HO1235
        clear HO1241
        clear BK1236
        clear BK1242
        clear HB
        have HO1235 := n0_
        have HO1241 := n1_
        have BK1236 := n2_
        have BK1242 := n3_
        have HB := n4_
        clear n0_ n1_ n2_ n3_ n4_
        (try clear hb)
        (try clear hb2)
        (try clear hk)
        (try clear hi)
        refine hK.out _ _ ⟨(blk_cell BK1242.out 0).trans rfl, (blk_cell BK1242.out 1).trans rfl, (blk_cell BK1242.out 2).trans rfl, (blk_cell BK1236.out 0).trans rfl, (blk_cell BK1236.out 1).trans rfl, (blk_cell BK1236.out 2).trans rfl⟩ (fun hHeld => ?_)
        clear hK K
        refine norm_ (a' := ?_) ?_ ?_
        rotate_left
        · show Act.put _ (some 14) _ = _
          simp only [Act.put, List.setIfInBounds_toArray, List.set_cons_zero, List.set_cons_succ, i64_w, i32_w]
          rfl
        refine pure_ (i := 2) (N := some 15) (v := ?_) (a' := ?_) #[true, true, true, false, false, false, false, false, false, false] rfl rfl (any_of HT_.out (by kernel_rfl)) (fun _ _ _ h => h) (Or.inl ⟨by rfl, ?_⟩) ?_ ?_
        rotate_left
        · intro w'
          go_simp
          with_reducible rfl
        rotate_left
        · simp only [Act.put, List.setIfInBounds_toArray, List.set_cons_zero, List.set_cons_succ, i64_w, i32_w]
          rfl
        refine pure_ (i := 3) (N := some 16) (v := ?_) (a' := ?_) #[true, true, true, true, false, false, false, false, false, false] rfl rfl (any_of HT_.out (by kernel_rfl)) (fun _ _ _ h => h) (Or.inl ⟨by rfl, ?_⟩) ?_ ?_
        rotate_left
        · intro w'
          go_simp
          with_reducible rfl
        rotate_left
        · simp only [Act.put, List.setIfInBounds_toArray, List.set_cons_zero, List.set_cons_succ, i64_w, i32_w]
          rfl
        refine take_ (i := 4) (N := some 17) (v := ?_) (a' := ?_) #[true, true, true, true, true, false, false, false, false, false] rfl rfl (take_ofW HT_.out HW_.out (by kernel_rfl)) (fun _ _ _ h => h) (Or.inl ⟨by rfl, ?_⟩) hHeld ?_ ?_
        rotate_left
        · rintro w' ⟨s0, s1, s2, s3, s4, s5⟩
          go_simp
          with_reducible rfl
        rotate_left
        · simp only [Act.put, List.setIfInBounds_toArray, List.set_cons_zero, List.set_cons_succ, i64_w, i32_w]
          rfl
        refine take_ (i := 6) (N := some 19) (v := ?_) (a' := ?_) #[true, true, true, true, true, false, true, false, false, false] rfl rfl (take_ofW HT_.out HW_.out (by kernel_rfl)) (fun _ _ _ h => h) (Or.inl ⟨by rfl, ?_⟩) hHeld ?_ ?_
        rotate_left
        · rintro w' ⟨s0, s1, s2, s3, s4, s5⟩
          go_simp
          with_reducible rfl
        rotate_left
        · simp only [Act.put, List.setIfInBounds_toArray, List.set_cons_zero, List.set_cons_succ, i64_w, i32_w]
          rfl
        refine one_ (i := 5) (N := some 18) #[true, true, true, true, true, true, true, false, false, false] rfl rfl (one_of HT_.out (by kernel_rfl)) (by decide) (fun K hK => ?_)
        refine goes_ Try.func73 (by kernel_rfl) rfl #[.agg #[.int .i64 t1237, .int .i64 t1238, .slice Ao14 t1239.length co14]] (by rfl) rfl rfl (by (try simp only [List.map_toArray, List.map_cons, List.map_nil]); first | done | rfl | (simp only [List.length_drop, List.length_take]; rfl)) ?_
        with_reducible refine (impl_ReverseMatrix.calls t1237 t1238 _ _ t1239 t1244 t1245 t1246 _ ?side1 ?side2 A17.out).mono ?_
        (case side1 => repeat (first | exact (Kd.R_reads' HO1241.out).2.2 | (with_reducible refine Kd.C_alloc ?_ _) | (with_reducible refine Kd.C_drewN ?_ _) | (with_reducible refine Kd.C_drew ?_)))
        (case side2 => exact (Kd.R_reads' HO1241.out).2.1)
        rintro e w22 ⟨v1247, rfl, ho0, hb⟩
        refine ⟨_, rfl, ?_⟩
        have n0_ := Aside0.mk (Kd.R_elder' (by (with_reducible repeat (first | apply Kd.R_alloc | apply Kd.R_drewN | apply Kd.R_drew)); exact HO1235.out) (Kd.R_base ho0) hb)
        have n1_ := Aside0.mk (Kd.R_elder' (by (with_reducible repeat (first | apply Kd.R_alloc | apply Kd.R_drewN | apply Kd.R_drew)); exact HO1241.out) (Kd.R_base ho0) hb)
        have n2_ := Aside0.mk (Kd.R_lower (Kd.R_new' (Kd.R_new' ho0 (Kd.R_lt (by (with_reducible repeat (first | apply Kd.R_alloc | apply Kd.R_drewN | apply Kd.R_drew)); exact HO1235.out))) (Kd.R_lt (by (with_reducible repeat (first | apply Kd.R_alloc | apply Kd.R_drewN | apply Kd.R_drew)); exact HO1241.out))) (below_size (by repeat (first | (with_reducible first | exact HB.out | apply below_alloc | apply pw_below_drewN | apply below_drew1 | refine below_set ?_ GE1236.out | refine below_set ?_ GE1242.out) | exact HB.out))))
        have n3_ := Aside0.mk (blk_below (g := gb1236) (o := .cells #[.int .i64 t1231, .int .i64 t1232, .slice Ao9 t1233.length co9] 26 (0, 0)) (by (with_reducible repeat (first | refine blk_drewN ?_ _ | refine blk_drew ?_ | refine blk_alloc ?_ _)); exact BK1236.out) hb)
        have n4_ := Aside0.mk (blk_below (g := gb1242) (o := .cells #[.int .i64 t1237, .int .i64 t1238, .slice Ao14 t1239.length co14] 26 (0, 0)) (by (with_reducible repeat (first | refine blk_drewN ?_ _ | refine blk_drew ?_ | refine blk_alloc ?_ _)); exact BK1242.out) hb)
        have n5_ := Aside0.mk (below_step (by repeat (first | (with_reducible first | exact HB.out | apply below_alloc | apply pw_below_drewN | apply below_drew1 | refine below_set ?_ GE1236.out | refine below_set ?_ GE1242.out) | exact HB.out)) hb)
        clear HO1235
        clear HO1241
        clear BK1236
        clear BK1242
        clear HB
        have HO1235 := n0_
        have HO1241 := n1_
        have HO1248 := n2_
        have BK1236 := n3_
        have BK1242 := n4_
        have HB := n5_
        clear n0_ n1_ n2_ n3_ n4_ n5_
        (try clear hb)
        (try clear hb2)
        (try clear hk)
        (try clear hi)
        (try clear ho0)
        obtain ⟨Ao23, co23, eo23⟩ := Kd.R_slice HO1248.out
        (first | subst eo23 | (injection eo23 with f1_ f2_ f3_; have f4_ := f1_.symm; have f5_ := f3_.symm; clear f1_ f2_ f3_; subst f4_; subst f5_))
        refine hK.out _ _ ⟨(blk_cell BK1242.out 0).trans rfl, (blk_cell BK1242.out 1).trans rfl, (blk_cell BK1242.out 2).trans rfl, (blk_cell BK1236.out 0).trans rfl, (blk_cell BK1236.out 1).trans rfl, (blk_cell BK1236.out 2).trans rfl⟩ (fun hHeld => ?_)
        clear hK K
        refine norm_ (a' := ?_) ?_ ?_
        rotate_left
        · show Act.put _ (some 18) _ = _
          simp only [Act.put, List.setIfInBounds_toArray, List.set_cons_zero, List.set_cons_succ, i64_w, i32_w]
          rfl
        refine one_ (i := 7) (N := some 20) #[true, true, true, true, true, true, true, true, false, false] rfl rfl (one_of HT_.out (by kernel_rfl)) (by decide) (fun K hK => ?_)
        refine goes_ Try.func32 (by kernel_rfl) rfl #[.agg #[.int .i64 t1244, .int .i64 t1245, .slice Ao23 t1246.length co23], .agg #[.int .i64 t1231, .int .i64 t1232, .slice Ao9 t1233.length co9]] (by rfl) rfl rfl (by (try simp only [List.map_toArray, List.map_cons, List.map_nil]); first | done | rfl | (simp only [List.length_drop, List.length_take]; rfl)) ?_
        with_reducible refine (laws_alike.calls k t1244 t1245 _ _ t1246 t1231 t1232 _ _ t1233 t1249 _ ?side1 ?side2 ?side3 ?side4 A18.out).mono ?_
        (case side1 => repeat (first | exact (Kd.R_reads' HO1248.out).2.2 | (with_reducible refine Kd.C_alloc ?_ _) | (with_reducible refine Kd.C_drewN ?_ _) | (with_reducible refine Kd.C_drew ?_)))
        (case side2 => exact (Kd.R_reads' HO1248.out).2.1)
        (case side3 => repeat (first | exact (Kd.R_reads' HO1235.out).2.2 | (with_reducible refine Kd.C_alloc ?_ _) | (with_reducible refine Kd.C_drewN ?_ _) | (with_reducible refine Kd.C_drew ?_)))
        (case side4 => exact (Kd.R_reads' HO1235.out).2.1)
        rintro e w24 ⟨rfl, hb⟩
        refine ⟨_, rfl, ?_⟩
        have n0_ := Aside0.mk (Kd.R_below (by (with_reducible repeat (first | apply Kd.R_alloc | apply Kd.R_drewN | apply Kd.R_drew)); exact HO1235.out) hb)
        have n1_ := Aside0.mk (Kd.R_below (by (with_reducible repeat (first | apply Kd.R_alloc | apply Kd.R_drewN | apply Kd.R_drew)); exact HO1241.out) hb)
        have n2_ := Aside0.mk (Kd.R_below (by (with_reducible repeat (first | apply Kd.R_alloc | apply Kd.R_drewN | apply Kd.R_drew)); exact HO1248.out) hb)
        have n3_ := Aside0.mk (blk_below (g := gb1236) (o := .cells #[.int .i64 t1231, .int .i64 t1232, .slice Ao9 t1233.length co9] 26 (0, 0)) (by (with_reducible repeat (first | refine blk_drewN ?_ _ | refine blk_drew ?_ | refine blk_alloc ?_ _)); exact BK1236.out) hb)
        have n4_ := Aside0.mk (blk_below (g := gb1242) (o := .cells #[.int .i64 t1237, .int .i64 t1238, .slice Ao14 t1239.length co14] 26 (0, 0)) (by (with_reducible repeat (first | refine blk_drewN ?_ _ | refine blk_drew ?_ | refine blk_alloc ?_ _)); exact BK1242.out) hb)
        have n5_ := Aside0.mk (below_step (by repeat (first | (with_reducible first | exact HB.out | apply below_alloc | apply pw_below_drewN | apply below_drew1 | refine below_set ?_ GE1236.out | refine below_set ?_ GE1242.out) | exact HB.out)) hb)
        clear HO1235
        clear HO1241
        clear HO1248
        clear BK1236
        clear BK1242
        clear HB
        have HO1235 := n0_
        have HO1241 := n1_
        have HO1248 := n2_
        have BK1236 := n3_
        have BK1242 := n4_
        have HB := n5_
        clear n0_ n1_ n2_ n3_ n4_ n5_
        (try clear hb)
        (try clear hb2)
        (try clear hk)
        (try clear hi)
        refine hK.out _ _ ⟨(blk_cell BK1242.out 0).trans rfl, (blk_cell BK1242.out 1).trans rfl, (blk_cell BK1242.out 2).trans rfl, (blk_cell BK1236.out 0).trans rfl, (blk_cell BK1236.out 1).trans rfl, (blk_cell BK1236.out 2).trans rfl⟩ (fun hHeld => ?_)
        clear hK K
        refine norm_ (a' := ?_) ?_ ?_
        rotate_left
        · show Act.put _ (some 20) _ = _
          simp only [Act.put, List.setIfInBounds_toArray, List.set_cons_zero, List.set_cons_succ, i64_w, i32_w]
          rfl
        refine pure_ (i := 8) (N := some 21) (v := ?_) (a' := ?_) #[true, true, true, true, true, true, true, true, true, false] rfl rfl (any_of HT_.out (by kernel_rfl)) (fun _ _ _ h => h) (Or.inl ⟨by rfl, ?_⟩) ?_ ?_
        rotate_left
        · intro w'
          go_simp
          with_reducible rfl
        rotate_left
        · simp only [Act.put, List.setIfInBounds_toArray, List.set_cons_zero, List.set_cons_succ, i64_w, i32_w]
          rfl
        refine pure_ (i := 9) (N := some 22) (v := ?_) (a' := ?_) #[true, true, true, true, true, true, true, true, true, true] rfl rfl (any_of HT_.out (by kernel_rfl)) (fun _ _ _ h => h) (Or.inl ⟨by rfl, ?_⟩) ?_ ?_
        rotate_left
        · intro w'
          go_simp
          with_reducible rfl
        rotate_left
        · simp only [Act.put, List.setIfInBounds_toArray, List.set_cons_zero, List.set_cons_succ, i64_w, i32_w]
          rfl
        refine done_ (done_of HT_.out (by kernel_rfl)) ?_
        try go_wp2
        go_meet
        case rel => exact ⟨_, (!t1249), (by first | rfl | (simp; done) | (simp [*]; done)), H', ⟨by first | omega | exact Nat.le_refl _⟩, ⟨by (with_reducible repeat (first | apply Kd.R_alloc | apply Kd.R_drewN | apply Kd.R_drew)); exact Kd.R_mono HO1235.out (fun _ hk => hk.1)⟩, ⟨by (with_reducible repeat (first | apply Kd.R_alloc | apply Kd.R_drewN | apply Kd.R_drew)); exact Kd.R_mono HO1241.out (fun _ hk => hk.1)⟩, ⟨by (with_reducible repeat (first | refine blk_drewN ?_ _ | refine blk_drew ?_ | refine blk_alloc ?_ _)); exact BK1236.out⟩, ⟨by (with_reducible repeat (first | refine blk_drewN ?_ _ | refine blk_drew ?_ | refine blk_alloc ?_ _)); exact BK1242.out⟩, ⟨by repeat (first | (with_reducible first | exact HB.out | apply below_alloc | apply pw_below_drewN | apply below_drew1 | refine below_set ?_ GE1236.out | refine below_set ?_ GE1242.out) | exact HB.out)⟩⟩
      · replace c16 := Bool.eq_false_iff.mpr c16
        subst c16
        have H1 : (laws_FnReversed.j0 k l0 true t1231 t1232 t1233 t1237 t1238 t1239) = some r := by rw [if_neg (show ¬ (false = true) by decide)] at H; exact H
        clear H
        have H := H1
        clear H1
        have H' := Aside0.mk H
        clear H
        try go_wp2
        have n0_ : Aside0 (Kd.R (Kd.int .i64) 3 (((w11.setCell ⟨gb1242, 0, none⟩ (.int .i64 t1237)).setCell ⟨gb1242, 1, none⟩ (.int .i64 t1238)).setCell ⟨gb1242, 2, none⟩ (.slice Ao14 t1239.length co14)) w.heap.size (fun k_ => some k_ ≠ (.slice Ao14 t1239.length co14 : Value).ownBlock) (.slice Ao9 t1233.length co9) t1233) := ⟨by (with_reducible repeat (first | apply Kd.R_alloc | apply Kd.R_drewN | apply Kd.R_drew)); exact Kd.R_mono (Kd.R_far (p := ⟨gb1242, 2, none⟩) (Kd.R_far (p := ⟨gb1242, 1, none⟩) (Kd.R_far (p := ⟨gb1242, 0, none⟩) (Kd.R_types HO1235.out BK1242.out (by decide)) (fun _ hk => hk.2) (.int .i64 t1237)) (fun _ hk => hk.2) (.int .i64 t1238)) (fun _ hk => hk.2) (.slice Ao14 t1239.length co14)) (fun _ hk => hk.1.2)⟩
        have n1_ : Aside0 (Kd.R (Kd.int .i64) 3 (((w11.setCell ⟨gb1242, 0, none⟩ (.int .i64 t1237)).setCell ⟨gb1242, 1, none⟩ (.int .i64 t1238)).setCell ⟨gb1242, 2, none⟩ (.slice Ao14 t1239.length co14)) w.heap.size (fun k_ => some k_ ≠ (.slice Ao9 t1233.length co9 : Value).ownBlock) (.slice Ao14 t1239.length co14) t1239) := ⟨by (with_reducible repeat (first | apply Kd.R_alloc | apply Kd.R_drewN | apply Kd.R_drew)); exact Kd.R_mono (Kd.R_far (p := ⟨gb1242, 2, none⟩) (Kd.R_far (p := ⟨gb1242, 1, none⟩) (Kd.R_far (p := ⟨gb1242, 0, none⟩) (Kd.R_types HO1241.out BK1242.out (by decide)) (fun _ hk => hk.2) (.int .i64 t1237)) (fun _ hk => hk.2) (.int .i64 t1238)) (fun _ hk => hk.2) (.slice Ao14 t1239.length co14)) (fun _ hk => hk.1.2)⟩
        have n2_ : Aside0 ((((w11.setCell ⟨gb1242, 0, none⟩ (.int .i64 t1237)).setCell ⟨gb1242, 1, none⟩ (.int .i64 t1238)).setCell ⟨gb1242, 2, none⟩ (.slice Ao14 t1239.length co14)).heap[gb1236]? = some (.cells #[.int .i64 t1231, .int .i64 t1232, .slice Ao9 t1233.length co9] 26 (0, 0))) := ⟨by (with_reducible repeat (first | refine blk_drewN ?_ _ | refine blk_drew ?_ | refine blk_alloc ?_ _)); refine blk_far ?_ NB1236_1242.out _; (with_reducible repeat (first | refine blk_drewN ?_ _ | refine blk_drew ?_ | refine blk_alloc ?_ _)); refine blk_far ?_ NB1236_1242.out _; (with_reducible repeat (first | refine blk_drewN ?_ _ | refine blk_drew ?_ | refine blk_alloc ?_ _)); refine blk_far ?_ NB1236_1242.out _; (with_reducible repeat (first | refine blk_drewN ?_ _ | refine blk_drew ?_ | refine blk_alloc ?_ _)); exact BK1236.out⟩
        have n3_ : Aside0 ((((w11.setCell ⟨gb1242, 0, none⟩ (.int .i64 t1237)).setCell ⟨gb1242, 1, none⟩ (.int .i64 t1238)).setCell ⟨gb1242, 2, none⟩ (.slice Ao14 t1239.length co14)).heap[gb1242]? = some (.cells #[.int .i64 t1237, .int .i64 t1238, .slice Ao14 t1239.length co14] 26 (0, 0))) := ⟨by (with_reducible repeat (first | refine blk_drewN ?_ _ | refine blk_drew ?_ | refine blk_alloc ?_ _)); refine blk_put (cs := #[.int .i64 t1237, .int .i64 t1238, .slice none 0 0]) ?_ 2 _ rfl; (with_reducible repeat (first | refine blk_drewN ?_ _ | refine blk_drew ?_ | refine blk_alloc ?_ _)); refine blk_put (cs := #[.int .i64 t1237, .int .i64 0, .slice none 0 0]) ?_ 1 _ rfl; (with_reducible repeat (first | refine blk_drewN ?_ _ | refine blk_drew ?_ | refine blk_alloc ?_ _)); refine blk_put (cs := #[.int .i64 0, .int .i64 0, .slice none 0 0]) ?_ 0 _ rfl; (with_reducible repeat (first | refine blk_drewN ?_ _ | refine blk_drew ?_ | refine blk_alloc ?_ _)); exact BK1242.out⟩
        have n4_ : Aside0 (Below w.heap.size w (((w11.setCell ⟨gb1242, 0, none⟩ (.int .i64 t1237)).setCell ⟨gb1242, 1, none⟩ (.int .i64 t1238)).setCell ⟨gb1242, 2, none⟩ (.slice Ao14 t1239.length co14))) := ⟨by repeat (first | (with_reducible first | exact HB.out | apply below_alloc | apply pw_below_drewN | apply below_drew1 | refine below_set ?_ GE1236.out | refine below_set ?_ GE1242.out) | exact HB.out)⟩
        (try clear HO1235)
        (try clear HO1241)
        (try clear BK1236)
        (try clear BK1242)
        (try clear HB)
        generalize (((w11.setCell ⟨gb1242, 0, none⟩ (.int .i64 t1237)).setCell ⟨gb1242, 1, none⟩ (.int .i64 t1238)).setCell ⟨gb1242, 2, none⟩ (.slice Ao14 t1239.length co14)) = w25 at n0_ n1_ n2_ n3_ n4_ ⊢
        have HO1235 := n0_
        have HO1241 := n1_
        have BK1236 := n2_
        have BK1242 := n3_
        have HB := n4_
        clear n0_ n1_ n2_ n3_ n4_
        have n0_ := Aside0.mk (Kd.R_drew HO1235.out)
        have n1_ := Aside0.mk (Kd.R_drew HO1241.out)
        have n2_ := Aside0.mk (blk_drew BK1236.out)
        have n3_ := Aside0.mk (blk_drew BK1242.out)
        have n4_ := Aside0.mk (below_drew1 HB.out)
        clear HO1235
        clear HO1241
        clear BK1236
        clear BK1242
        clear HB
        have HO1235 := n0_
        have HO1241 := n1_
        have BK1236 := n2_
        have BK1242 := n3_
        have HB := n4_
        clear n0_ n1_ n2_ n3_ n4_
        refine start_ (n := 10) (S := fun w' => w'.cell? ⟨gb1242, 0, none⟩ = some (.int .i64 t1237) ∧ w'.cell? ⟨gb1242, 1, none⟩ = some (.int .i64 t1238) ∧ w'.cell? ⟨gb1242, 2, none⟩ = some (.slice Ao14 t1239.length co14)) (ds := []) #[false, false, false, false, false, false, false, false, false, false] (by kernel_rfl) rfl rfl ⟨(blk_cell BK1242.out 0).trans rfl, (blk_cell BK1242.out 1).trans rfl, (blk_cell BK1242.out 2).trans rfl⟩ (fun hHeld => ?_); refine with_tabW laws_FnReversed.tab5 laws_FnReversed.bits5 (fun HT_ HW_ => ?_)
        generalize w25.drew = w26 at HO1235 HO1241 BK1236 BK1242 HB hHeld ⊢
        refine take_ (i := 0) (N := some 13) (v := ?_) (a' := ?_) #[true, false, false, false, false, false, false, false, false, false] rfl rfl (take_ofW HT_.out HW_.out (by kernel_rfl)) (fun _ _ _ h => h) (Or.inl ⟨by rfl, ?_⟩) hHeld ?_ ?_
        rotate_left
        · rintro w' ⟨s0, s1, s2⟩
          go_simp
          with_reducible rfl
        rotate_left
        · simp only [Act.put, List.setIfInBounds_toArray, List.set_cons_zero, List.set_cons_succ, i64_w, i32_w]
          rfl
        refine one_ (i := 1) (N := some 14) #[true, true, false, false, false, false, false, false, false, false] rfl rfl (one_of HT_.out (by kernel_rfl)) (by decide) (fun K hK => ?_)
        refine goes_ Try.func28 (by kernel_rfl) rfl #[.agg #[.int .i64 t1237, .int .i64 t1238, .slice Ao14 t1239.length co14]] (by rfl) rfl rfl (by (try simp only [List.map_toArray, List.map_cons, List.map_nil]); first | done | rfl | (simp only [List.length_drop, List.length_take]; rfl)) ?_
        with_reducible refine (impl_IsMatrix.calls t1237 t1238 _ _ t1239 false _ ?side1 ?side2 A15.out).mono ?_
        (case side1 => repeat (first | exact (Kd.R_reads' HO1241.out).2.2 | (with_reducible refine Kd.C_alloc ?_ _) | (with_reducible refine Kd.C_drewN ?_ _) | (with_reducible refine Kd.C_drew ?_)))
        (case side2 => exact (Kd.R_reads' HO1241.out).2.1)
        rintro e w27 ⟨rfl, hb⟩
        refine ⟨_, rfl, ?_⟩
        have n0_ := Aside0.mk (Kd.R_below (by (with_reducible repeat (first | apply Kd.R_alloc | apply Kd.R_drewN | apply Kd.R_drew)); exact HO1235.out) hb)
        have n1_ := Aside0.mk (Kd.R_below (by (with_reducible repeat (first | apply Kd.R_alloc | apply Kd.R_drewN | apply Kd.R_drew)); exact HO1241.out) hb)
        have n2_ := Aside0.mk (blk_below (g := gb1236) (o := .cells #[.int .i64 t1231, .int .i64 t1232, .slice Ao9 t1233.length co9] 26 (0, 0)) (by (with_reducible repeat (first | refine blk_drewN ?_ _ | refine blk_drew ?_ | refine blk_alloc ?_ _)); exact BK1236.out) hb)
        have n3_ := Aside0.mk (blk_below (g := gb1242) (o := .cells #[.int .i64 t1237, .int .i64 t1238, .slice Ao14 t1239.length co14] 26 (0, 0)) (by (with_reducible repeat (first | refine blk_drewN ?_ _ | refine blk_drew ?_ | refine blk_alloc ?_ _)); exact BK1242.out) hb)
        have n4_ := Aside0.mk (below_step (by repeat (first | (with_reducible first | exact HB.out | apply below_alloc | apply pw_below_drewN | apply below_drew1 | refine below_set ?_ GE1236.out | refine below_set ?_ GE1242.out) | exact HB.out)) hb)
        clear HO1235
        clear HO1241
        clear BK1236
        clear BK1242
        clear HB
        have HO1235 := n0_
        have HO1241 := n1_
        have BK1236 := n2_
        have BK1242 := n3_
        have HB := n4_
        clear n0_ n1_ n2_ n3_ n4_
        (try clear hb)
        (try clear hb2)
        (try clear hk)
        (try clear hi)
        refine hK.out _ _ ⟨(blk_cell BK1242.out 0).trans rfl, (blk_cell BK1242.out 1).trans rfl, (blk_cell BK1242.out 2).trans rfl⟩ (fun hHeld => ?_)
        clear hK K
        refine norm_ (a' := ?_) ?_ ?_
        rotate_left
        · show Act.put _ (some 14) _ = _
          simp only [Act.put, List.setIfInBounds_toArray, List.set_cons_zero, List.set_cons_succ, i64_w, i32_w]
          rfl
        refine pure_ (i := 2) (N := some 15) (v := ?_) (a' := ?_) #[true, true, true, false, false, false, false, false, false, false] rfl rfl (any_of HT_.out (by kernel_rfl)) (fun _ _ _ h => h) (Or.inl ⟨by rfl, ?_⟩) ?_ ?_
        rotate_left
        · intro w'
          go_simp
          with_reducible rfl
        rotate_left
        · simp only [Act.put, List.setIfInBounds_toArray, List.set_cons_zero, List.set_cons_succ, i64_w, i32_w]
          rfl
        refine pure_ (i := 3) (N := some 16) (v := ?_) (a' := ?_) #[true, true, true, true, false, false, false, false, false, false] rfl rfl (any_of HT_.out (by kernel_rfl)) (fun _ _ _ h => h) (Or.inl ⟨by rfl, ?_⟩) ?_ ?_
        rotate_left
        · intro w'
          go_simp
          with_reducible rfl
        rotate_left
        · simp only [Act.put, List.setIfInBounds_toArray, List.set_cons_zero, List.set_cons_succ, i64_w, i32_w]
          rfl
        refine pure_ (i := 4) (N := some 17) (v := undef) (a' := ?_) #[true, true, true, true, true, false, false, false, false, false] rfl rfl (any_of HT_.out (by kernel_rfl)) (fun _ _ _ h => h) (Or.inr ⟨by rfl, rfl⟩) ?_ ?_
        rotate_left
        · simp only [Act.put, List.setIfInBounds_toArray, List.set_cons_zero, List.set_cons_succ, i64_w, i32_w]
          rfl
        refine pure_ (i := 5) (N := some 18) (v := undef) (a' := ?_) #[true, true, true, true, true, true, false, false, false, false] rfl rfl (any_of HT_.out (by kernel_rfl)) (fun _ _ _ h => h) (Or.inr ⟨by rfl, rfl⟩) ?_ ?_
        rotate_left
        · simp only [Act.put, List.setIfInBounds_toArray, List.set_cons_zero, List.set_cons_succ, i64_w, i32_w]
          rfl
        refine pure_ (i := 6) (N := some 19) (v := undef) (a' := ?_) #[true, true, true, true, true, true, true, false, false, false] rfl rfl (any_of HT_.out (by kernel_rfl)) (fun _ _ _ h => h) (Or.inr ⟨by rfl, rfl⟩) ?_ ?_
        rotate_left
        · simp only [Act.put, List.setIfInBounds_toArray, List.set_cons_zero, List.set_cons_succ, i64_w, i32_w]
          rfl
        refine pure_ (i := 7) (N := some 20) (v := undef) (a' := ?_) #[true, true, true, true, true, true, true, true, false, false] rfl rfl (any_of HT_.out (by kernel_rfl)) (fun _ _ _ h => h) (Or.inr ⟨by rfl, rfl⟩) ?_ ?_
        rotate_left
        · simp only [Act.put, List.setIfInBounds_toArray, List.set_cons_zero, List.set_cons_succ, i64_w, i32_w]
          rfl
        refine pure_ (i := 8) (N := some 21) (v := undef) (a' := ?_) #[true, true, true, true, true, true, true, true, true, false] rfl rfl (any_of HT_.out (by kernel_rfl)) (fun _ _ _ h => h) (Or.inr ⟨by rfl, rfl⟩) ?_ ?_
        rotate_left
        · simp only [Act.put, List.setIfInBounds_toArray, List.set_cons_zero, List.set_cons_succ, i64_w, i32_w]
          rfl
        refine pure_ (i := 9) (N := some 22) (v := ?_) (a' := ?_) #[true, true, true, true, true, true, true, true, true, true] rfl rfl (any_of HT_.out (by kernel_rfl)) (fun _ _ _ h => h) (Or.inl ⟨by rfl, ?_⟩) ?_ ?_
        rotate_left
        · intro w'
          go_simp
          with_reducible rfl
        rotate_left
        · simp only [Act.put, List.setIfInBounds_toArray, List.set_cons_zero, List.set_cons_succ, i64_w, i32_w]
          rfl
        refine done_ (done_of HT_.out (by kernel_rfl)) ?_
        try go_wp2
        go_meet
        case rel => exact ⟨_, (true), (by first | rfl | (simp; done) | (simp [*]; done)), H', ⟨by first | omega | exact Nat.le_refl _⟩, ⟨by (with_reducible repeat (first | apply Kd.R_alloc | apply Kd.R_drewN | apply Kd.R_drew)); exact HO1235.out⟩, ⟨by (with_reducible repeat (first | apply Kd.R_alloc | apply Kd.R_drewN | apply Kd.R_drew)); exact HO1241.out⟩, ⟨by (with_reducible repeat (first | refine blk_drewN ?_ _ | refine blk_drew ?_ | refine blk_alloc ?_ _)); exact BK1236.out⟩, ⟨by (with_reducible repeat (first | refine blk_drewN ?_ _ | refine blk_drew ?_ | refine blk_alloc ?_ _)); exact BK1242.out⟩, ⟨by repeat (first | (with_reducible first | exact HB.out | apply below_alloc | apply pw_below_drewN | apply below_drew1 | refine below_set ?_ GE1236.out | refine below_set ?_ GE1242.out) | exact HB.out)⟩⟩
    case rest =>
      clear HC5
      try clear c1
      try clear c2
      try clear c2b0
      try clear c2b1
      try clear p2
      try clear c3
      try clear c7
      try clear c12
      try clear c16
      try clear c20
      try clear hcz13_0
      try clear hcz13_1
      try clear hcz13_2
      try clear hcz8_0
      try clear hcz8_1
      try clear hcz8_2
      try clear hfz13_0
      try clear hfz13_1
      try clear hfz13_2
      try clear hfz8_0
      try clear hfz8_1
      try clear hfz8_2
      obtain ⟨kq, x22_4, rfl, HA, HJ4, HO_1237002, HO_1243002, BK1236, BK1242, HB⟩ := hcut
      cases kq with
      | zero => exact absurd HA.out (by simp [laws_FnReversed.j0])
      | succ kj4 =>
        have H := HA.out
        clear HA
        simp only [laws_FnReversed.j0] at H
        by_cases c28 : x22_4 = true
        · subst c28
          have H1 : (some false) = some r := by rw [if_pos rfl] at H; exact H
          clear H
          have H := H1
          clear H1
          exact absurd ((Option.some.inj H).trans hT.out) (by decide)
        · replace c28 := Bool.eq_false_iff.mpr c28
          subst c28
          have H1 : ((laws_at.f l0 1).bind fun t1250 => (if (wrap64 ((t1233.length : Int) + 1)) = 0 then (none) else ((impl_CellsBelow.f t1237 t1238 t1239 (Int.tmod t1250 (wrap64 ((t1233.length : Int) + 1)))).bind fun bt1251 => ((laws_below.f kj4 t1231 t1232 t1233 (wrap64 ((t1233.length : Int) - (Int.tmod t1250 (wrap64 ((t1233.length : Int) + 1)))))).bind fun bt1256 => ((spec_NegativePicture.f kj4 bt1256.1 bt1256.2.1 bt1256.2.2).bind fun bt1261 => ((laws_same.f kj4 bt1251.1 bt1251.2.1 bt1251.2.2 bt1261.1 bt1261.2.1 bt1261.2.2).bind fun t1266 => (some t1266))))))) = some r := by rw [if_neg (show ¬ (false = true) by decide)] at H; exact H
          clear H
          have H := H1
          clear H1
          replace H := Option.bind_eq_some_iff.mp H
          obtain ⟨t1250, A290, H⟩ := H
          replace H : (if (wrap64 ((t1233.length : Int) + 1)) = 0 then (none) else ((impl_CellsBelow.f t1237 t1238 t1239 (Int.tmod t1250 (wrap64 ((t1233.length : Int) + 1)))).bind fun bt1251 => ((laws_below.f kj4 t1231 t1232 t1233 (wrap64 ((t1233.length : Int) - (Int.tmod t1250 (wrap64 ((t1233.length : Int) + 1)))))).bind fun bt1256 => ((spec_NegativePicture.f kj4 bt1256.1 bt1256.2.1 bt1256.2.2).bind fun bt1261 => ((laws_same.f kj4 bt1251.1 bt1251.2.1 bt1251.2.2 bt1261.1 bt1261.2.1 bt1261.2.2).bind fun t1266 => (some t1266)))))) = some r := H
          have A29 := Aside0.mk A290
          clear A290
          by_cases c30 : (wrap64 ((t1233.length : Int) + 1)) = 0
          · rw [if_pos c30] at H
            exact absurd H (by simp)
          · rw [if_neg c30] at H
            have c30b0 : ((wrap64 ((t1233.length : Int) + 1)) == 0) = false := beq_eq_false_iff_ne.mpr c30
            have c30b1 : ((wrap64 ((t1233.length : Int) + 1)) != 0) = true := bne_iff_ne.mpr c30
            replace H := Option.bind_eq_some_iff.mp H
            obtain ⟨⟨t1251, t1252, t1253⟩, A310, H⟩ := H
            replace H : ((laws_below.f kj4 t1231 t1232 t1233 (wrap64 ((t1233.length : Int) - (Int.tmod t1250 (wrap64 ((t1233.length : Int) + 1)))))).bind fun bt1256 => ((spec_NegativePicture.f kj4 bt1256.1 bt1256.2.1 bt1256.2.2).bind fun bt1261 => ((laws_same.f kj4 t1251 t1252 t1253 bt1261.1 bt1261.2.1 bt1261.2.2).bind fun t1266 => (some t1266)))) = some r := H
            have A31 := Aside0.mk A310
            clear A310
            replace H := Option.bind_eq_some_iff.mp H
            obtain ⟨⟨t1256, t1257, t1258⟩, A320, H⟩ := H
            replace H : ((spec_NegativePicture.f kj4 t1256 t1257 t1258).bind fun bt1261 => ((laws_same.f kj4 t1251 t1252 t1253 bt1261.1 bt1261.2.1 bt1261.2.2).bind fun t1266 => (some t1266))) = some r := H
            have A32 := Aside0.mk A320
            clear A320
            replace H := Option.bind_eq_some_iff.mp H
            obtain ⟨⟨t1261, t1262, t1263⟩, A330, H⟩ := H
            replace H : ((laws_same.f kj4 t1251 t1252 t1253 t1261 t1262 t1263).bind fun t1266 => (some t1266)) = some r := H
            have A33 := Aside0.mk A330
            clear A330
            replace H := Option.bind_eq_some_iff.mp H
            obtain ⟨t1266, A340, H⟩ := H
            replace H : (some t1266) = some r := H
            have A34 := Aside0.mk A340
            clear A340
            obtain rfl := Option.some.inj H
            try go_wp2
            have n0_ := Aside0.mk (Kd.R_drew HO_1237002.out)
            have n1_ := Aside0.mk (Kd.R_drew HO_1243002.out)
            have n2_ := Aside0.mk (blk_drew BK1236.out)
            have n3_ := Aside0.mk (blk_drew BK1242.out)
            have n4_ := Aside0.mk (below_drew1 HB.out)
            clear HO_1237002
            clear HO_1243002
            clear BK1236
            clear BK1242
            clear HB
            have HO_1237002 := n0_
            have HO_1243002 := n1_
            have BK1236 := n2_
            have BK1242 := n3_
            have HB := n4_
            clear n0_ n1_ n2_ n3_ n4_
            refine start_ (n := 8) (S := fun w' => w'.cell? ⟨gb1236, 0, none⟩ = some (.int .i64 t1231) ∧ w'.cell? ⟨gb1236, 1, none⟩ = some (.int .i64 t1232) ∧ w'.cell? ⟨gb1236, 2, none⟩ = some (.slice Ao9 t1233.length co9)) (ds := []) #[false, false, false, false, false, false, false, false] (by kernel_rfl) rfl rfl ⟨(blk_cell BK1236.out 0).trans rfl, (blk_cell BK1236.out 1).trans rfl, (blk_cell BK1236.out 2).trans rfl⟩ (fun hHeld => ?_); refine with_tabW laws_FnReversed.tab7 laws_FnReversed.bits7 (fun HT_ HW_ => ?_)
            generalize wc.drew = w35 at HO_1237002 HO_1243002 BK1236 BK1242 HB hHeld ⊢
            refine pure_ (i := 0) (N := some 23) (v := ?_) (a' := ?_) #[true, false, false, false, false, false, false, false] rfl rfl (any_of HT_.out (by kernel_rfl)) (fun _ _ _ h => h) (Or.inl ⟨by rfl, ?_⟩) ?_ ?_
            rotate_left
            · intro w'
              go_simp
              with_reducible rfl
            rotate_left
            · simp only [Act.put, List.setIfInBounds_toArray, List.set_cons_zero, List.set_cons_succ, i64_w, i32_w]
              rfl
            refine pure_ (i := 2) (N := some 25) (v := ?_) (a' := ?_) #[true, false, true, false, false, false, false, false] rfl rfl (any_of HT_.out (by kernel_rfl)) (fun _ _ _ h => h) (Or.inl ⟨by rfl, ?_⟩) ?_ ?_
            rotate_left
            · intro w'
              go_simp
              with_reducible rfl
            rotate_left
            · simp only [Act.put, List.setIfInBounds_toArray, List.set_cons_zero, List.set_cons_succ, i64_w, i32_w]
              rfl
            refine take_ (i := 3) (N := some 26) (v := ?_) (a' := ?_) #[true, false, true, true, false, false, false, false] rfl rfl (take_ofW HT_.out HW_.out (by kernel_rfl)) (fun _ _ _ h => h) (Or.inl ⟨by rfl, ?_⟩) hHeld ?_ ?_
            rotate_left
            · rintro w' ⟨s0, s1, s2⟩
              go_simp
              with_reducible rfl
            rotate_left
            · simp only [Act.put, List.setIfInBounds_toArray, List.set_cons_zero, List.set_cons_succ, i64_w, i32_w]
              rfl
            refine pure_ (i := 4) (N := some 27) (v := ?_) (a' := ?_) #[true, false, true, true, true, false, false, false] rfl rfl (any_of HT_.out (by kernel_rfl)) (fun _ _ _ h => h) (Or.inl ⟨by rfl, ?_⟩) ?_ ?_
            rotate_left
            · intro w'
              go_simp
              with_reducible rfl
            rotate_left
            · simp only [Act.put, List.setIfInBounds_toArray, List.set_cons_zero, List.set_cons_succ, i64_w, i32_w]
              rfl
            refine pure_ (i := 5) (N := some 28) (v := ?_) (a' := ?_) #[true, false, true, true, true, true, false, false] rfl rfl (any_of HT_.out (by kernel_rfl)) (fun _ _ _ h => h) (Or.inl ⟨by rfl, ?_⟩) ?_ ?_
            rotate_left
            · intro w'
              go_simp
              with_reducible rfl
            rotate_left
            · simp only [Act.put, List.setIfInBounds_toArray, List.set_cons_zero, List.set_cons_succ, i64_w, i32_w]
              rfl
            refine one_ (i := 1) (N := some 24) #[true, true, true, true, true, true, false, false] rfl rfl (one_of HT_.out (by kernel_rfl)) (by decide) (fun K hK => ?_)
            refine goes_ Try.func23 (by kernel_rfl) rfl #[.slice A0 l0.length c0, .int .i64 1] (by rfl) rfl rfl (by (try simp only [List.map_toArray, List.map_cons, List.map_nil]); first | done | rfl | (simp only [List.length_drop, List.length_take]; rfl)) ?_
            with_reducible refine (laws_at.calls _ _ l0 1 t1250 _ ?side1 ?side2 A29.out).mono ?_
            (case side1 => repeat (first | exact (Kd.C_below HR0.out HB.out) | (with_reducible refine Kd.C_alloc ?_ _) | (with_reducible refine Kd.C_drewN ?_ _) | (with_reducible refine Kd.C_drew ?_)))
            (case side2 => exact HC0.out)
            rintro e w' ⟨rfl, ⟨nd, rfl⟩⟩
            refine ⟨_, rfl, ?_⟩
            refine hK.out _ _ ⟨(blk_cell BK1236.out 0).trans rfl, (blk_cell BK1236.out 1).trans rfl, (blk_cell BK1236.out 2).trans rfl⟩ (fun hHeld => ?_)
            clear hK K
            refine norm_ (a' := ?_) ?_ ?_
            rotate_left
            · show Act.put _ (some 24) _ = _
              simp only [Act.put, List.setIfInBounds_toArray, List.set_cons_zero, List.set_cons_succ, i64_w, i32_w]
              rfl
            refine pure_ (i := 6) (N := some 29) (v := ?_) (a' := ?_) #[true, true, true, true, true, true, true, false] rfl rfl (any_of HT_.out (by kernel_rfl)) (fun _ _ _ h => h) (Or.inl ⟨by rfl, ?_⟩) ?_ ?_
            rotate_left
            · intro w'
              go_simp
              with_reducible rfl
            rotate_left
            · simp only [Act.put, List.setIfInBounds_toArray, List.set_cons_zero, List.set_cons_succ, i64_w, i32_w]
              rfl
            refine pure_ (i := 7) (N := some 5) (v := ?_) (a' := ?_) #[true, true, true, true, true, true, true, true] rfl rfl (any_of HT_.out (by kernel_rfl)) (fun _ _ _ h => h) (Or.inl ⟨by rfl, ?_⟩) ?_ ?_
            rotate_left
            · intro w'
              go_simp
              with_reducible rfl
            rotate_left
            · simp only [Act.put, List.setIfInBounds_toArray, List.set_cons_zero, List.set_cons_succ, i64_w, i32_w]
              rfl
            refine done_ (done_of HT_.out (by kernel_rfl)) ?_
            try go_wp2
            (try (rw [drewN_self w35]; generalize hq_ : World.drewN w35 _ = w35; have n0_ : Aside0 (Kd.R (Kd.int .i64) 3 w35 w.heap.size (fun k_ => some k_ ≠ (.slice Ao14 t1239.length co14 : Value).ownBlock) (.slice Ao9 t1233.length co9) t1233) := ⟨by rw [← hq_]; exact (by (with_reducible repeat (first | apply Kd.R_alloc | apply Kd.R_drewN | apply Kd.R_drew)); exact HO_1237002.out)⟩; have n1_ : Aside0 (Kd.R (Kd.int .i64) 3 w35 w.heap.size (fun k_ => some k_ ≠ (.slice Ao9 t1233.length co9 : Value).ownBlock) (.slice Ao14 t1239.length co14) t1239) := ⟨by rw [← hq_]; exact (by (with_reducible repeat (first | apply Kd.R_alloc | apply Kd.R_drewN | apply Kd.R_drew)); exact HO_1243002.out)⟩; have n2_ : Aside0 (w35.heap[gb1236]? = some (.cells #[.int .i64 t1231, .int .i64 t1232, .slice Ao9 t1233.length co9] 26 (0, 0))) := ⟨by rw [← hq_]; exact (by (with_reducible repeat (first | refine blk_drewN ?_ _ | refine blk_drew ?_ | refine blk_alloc ?_ _)); exact BK1236.out)⟩; have n3_ : Aside0 (w35.heap[gb1242]? = some (.cells #[.int .i64 t1237, .int .i64 t1238, .slice Ao14 t1239.length co14] 26 (0, 0))) := ⟨by rw [← hq_]; exact (by (with_reducible repeat (first | refine blk_drewN ?_ _ | refine blk_drew ?_ | refine blk_alloc ?_ _)); exact BK1242.out)⟩; have n4_ : Aside0 (Below w.heap.size w w35) := ⟨by rw [← hq_]; exact (by repeat (first | (with_reducible first | exact HB.out | apply below_alloc | apply pw_below_drewN | apply below_drew1 | refine below_set ?_ GE1236.out | refine below_set ?_ GE1242.out) | exact HB.out))⟩; clear HO_1237002 HO_1243002 BK1236 BK1242 HB hq_; have HO_1237002 := n0_; have HO_1243002 := n1_; have BK1236 := n2_; have BK1242 := n3_; have HB := n4_; clear n0_ n1_ n2_ n3_ n4_))
            have n0_ := Aside0.mk (Kd.R_drew HO_1237002.out)
            have n1_ := Aside0.mk (Kd.R_drew HO_1243002.out)
            have n2_ := Aside0.mk (blk_drew BK1236.out)
            have n3_ := Aside0.mk (blk_drew BK1242.out)
            have n4_ := Aside0.mk (below_drew1 HB.out)
            clear HO_1237002
            clear HO_1243002
            clear BK1236
            clear BK1242
            clear HB
            have HO_1237002 := n0_
            have HO_1243002 := n1_
            have BK1236 := n2_
            have BK1242 := n3_
            have HB := n4_
            clear n0_ n1_ n2_ n3_ n4_
            refine start_ (n := 13) (S := fun w' => w'.cell? ⟨gb1242, 0, none⟩ = some (.int .i64 t1237) ∧ w'.cell? ⟨gb1242, 1, none⟩ = some (.int .i64 t1238) ∧ w'.cell? ⟨gb1242, 2, none⟩ = some (.slice Ao14 t1239.length co14) ∧ w'.cell? ⟨gb1236, 0, none⟩ = some (.int .i64 t1231) ∧ w'.cell? ⟨gb1236, 1, none⟩ = some (.int .i64 t1232) ∧ w'.cell? ⟨gb1236, 2, none⟩ = some (.slice Ao9 t1233.length co9)) (ds := []) #[false, false, false, false, false, false, false, false, false, false, false, false, false] (by kernel_rfl) rfl rfl ⟨(blk_cell BK1242.out 0).trans rfl, (blk_cell BK1242.out 1).trans rfl, (blk_cell BK1242.out 2).trans rfl, (blk_cell BK1236.out 0).trans rfl, (blk_cell BK1236.out 1).trans rfl, (blk_cell BK1236.out 2).trans rfl⟩ (fun hHeld => ?_); refine with_tabW laws_FnReversed.tab8 laws_FnReversed.bits8 (fun HT_ HW_ => ?_)
            generalize w35.drew = w36 at HO_1237002 HO_1243002 BK1236 BK1242 HB hHeld ⊢
            refine pure_ (i := 1) (N := some 31) (v := ?_) (a' := ?_) #[false, true, false, false, false, false, false, false, false, false, false, false, false] rfl rfl (any_of HT_.out (by kernel_rfl)) (fun _ _ _ h => h) (Or.inl ⟨by rfl, ?_⟩) ?_ ?_
            rotate_left
            · intro w'
              go_simp
              with_reducible rfl
            rotate_left
            · simp only [Act.put, List.setIfInBounds_toArray, List.set_cons_zero, List.set_cons_succ, i64_w, i32_w]
              rfl
            refine pure_ (i := 4) (N := some 34) (v := ?_) (a' := ?_) #[false, true, false, false, true, false, false, false, false, false, false, false, false] rfl rfl (any_of HT_.out (by kernel_rfl)) (fun _ _ _ h => h) (Or.inl ⟨by rfl, ?_⟩) ?_ ?_
            rotate_left
            · intro w'
              go_simp
              with_reducible rfl
            rotate_left
            · simp only [Act.put, List.setIfInBounds_toArray, List.set_cons_zero, List.set_cons_succ, i64_w, i32_w]
              rfl
            refine pure_ (i := 7) (N := some 37) (v := ?_) (a' := ?_) #[false, true, false, false, true, false, false, true, false, false, false, false, false] rfl rfl (any_of HT_.out (by kernel_rfl)) (fun _ _ _ h => h) (Or.inl ⟨by rfl, ?_⟩) ?_ ?_
            rotate_left
            · intro w'
              go_simp
              with_reducible rfl
            rotate_left
            · simp only [Act.put, List.setIfInBounds_toArray, List.set_cons_zero, List.set_cons_succ, i64_w, i32_w]
              rfl
            refine take_ (i := 0) (N := some 30) (v := ?_) (a' := ?_) #[true, true, false, false, true, false, false, true, false, false, false, false, false] rfl rfl (take_ofW HT_.out HW_.out (by kernel_rfl)) (fun _ _ _ h => h) (Or.inl ⟨by rfl, ?_⟩) hHeld ?_ ?_
            rotate_left
            · rintro w' ⟨s0, s1, s2, s3, s4, s5⟩
              go_simp
              with_reducible rfl
            rotate_left
            · simp only [Act.put, List.setIfInBounds_toArray, List.set_cons_zero, List.set_cons_succ, i64_w, i32_w]
              rfl
            refine take_ (i := 3) (N := some 33) (v := ?_) (a' := ?_) #[true, true, false, true, true, false, false, true, false, false, false, false, false] rfl rfl (take_ofW HT_.out HW_.out (by kernel_rfl)) (fun _ _ _ h => h) (Or.inl ⟨by rfl, ?_⟩) hHeld ?_ ?_
            rotate_left
            · rintro w' ⟨s0, s1, s2, s3, s4, s5⟩
              go_simp
              with_reducible rfl
            rotate_left
            · simp only [Act.put, List.setIfInBounds_toArray, List.set_cons_zero, List.set_cons_succ, i64_w, i32_w]
              rfl
            refine take_ (i := 5) (N := some 35) (v := ?_) (a' := ?_) #[true, true, false, true, true, true, false, true, false, false, false, false, false] rfl rfl (take_ofW HT_.out HW_.out (by kernel_rfl)) (fun _ _ _ h => h) (Or.inl ⟨by rfl, ?_⟩) hHeld ?_ ?_
            rotate_left
            · rintro w' ⟨s0, s1, s2, s3, s4, s5⟩
              go_simp
              with_reducible rfl
            rotate_left
            · simp only [Act.put, List.setIfInBounds_toArray, List.set_cons_zero, List.set_cons_succ, i64_w, i32_w]
              rfl
            refine pure_ (i := 6) (N := some 36) (v := ?_) (a' := ?_) #[true, true, false, true, true, true, true, true, false, false, false, false, false] rfl rfl (any_of HT_.out (by kernel_rfl)) (fun _ _ _ h => h) (Or.inl ⟨by rfl, ?_⟩) ?_ ?_
            rotate_left
            · intro w'
              go_simp
              with_reducible rfl
            rotate_left
            · simp only [Act.put, List.setIfInBounds_toArray, List.set_cons_zero, List.set_cons_succ, i64_w, i32_w]
              rfl
            refine pure_ (i := 8) (N := some 38) (v := ?_) (a' := ?_) #[true, true, false, true, true, true, true, true, true, false, false, false, false] rfl rfl (any_of HT_.out (by kernel_rfl)) (fun _ _ _ h => h) (Or.inl ⟨by rfl, ?_⟩) ?_ ?_
            rotate_left
            · intro w'
              go_simp
              with_reducible rfl
            rotate_left
            · simp only [Act.put, List.setIfInBounds_toArray, List.set_cons_zero, List.set_cons_succ, i64_w, i32_w]
              rfl
            refine one_ (i := 2) (N := some 32) #[true, true, true, true, true, true, true, true, true, false, false, false, false] rfl rfl (one_of HT_.out (by kernel_rfl)) (by decide) (fun K hK => ?_)
            refine goes_ Try.func67 (by kernel_rfl) rfl #[.agg #[.int .i64 t1237, .int .i64 t1238, .slice Ao14 t1239.length co14], .int .i64 (Int.tmod t1250 (wrap64 ((t1233.length : Int) + 1)))] (by rfl) rfl rfl (by (try simp only [List.map_toArray, List.map_cons, List.map_nil]); first | done | rfl | (simp only [List.length_drop, List.length_take]; rfl)) ?_
            with_reducible refine (impl_CellsBelow.calls t1237 t1238 _ _ t1239 (Int.tmod t1250 (wrap64 ((t1233.length : Int) + 1))) t1251 t1252 t1253 _ ?side1 ?side2 A31.out).mono ?_
            (case side1 => repeat (first | exact (Kd.R_reads' HO_1243002.out).2.2 | (with_reducible refine Kd.C_alloc ?_ _) | (with_reducible refine Kd.C_drewN ?_ _) | (with_reducible refine Kd.C_drew ?_)))
            (case side2 => exact (Kd.R_reads' HO_1243002.out).2.1)
            rintro e w37 ⟨v1254, rfl, ho0, hb⟩
            refine ⟨_, rfl, ?_⟩
            have n0_ := Aside0.mk (Kd.R_elder' (by (with_reducible repeat (first | apply Kd.R_alloc | apply Kd.R_drewN | apply Kd.R_drew)); exact HO_1237002.out) (Kd.R_base ho0) hb)
            have n1_ := Aside0.mk (Kd.R_elder' (by (with_reducible repeat (first | apply Kd.R_alloc | apply Kd.R_drewN | apply Kd.R_drew)); exact HO_1243002.out) (Kd.R_base ho0) hb)
            have n2_ := Aside0.mk (Kd.R_lower (Kd.R_new' (Kd.R_new' ho0 (Kd.R_lt (by (with_reducible repeat (first | apply Kd.R_alloc | apply Kd.R_drewN | apply Kd.R_drew)); exact HO_1237002.out))) (Kd.R_lt (by (with_reducible repeat (first | apply Kd.R_alloc | apply Kd.R_drewN | apply Kd.R_drew)); exact HO_1243002.out))) (below_size (by repeat (first | (with_reducible first | exact HB.out | apply below_alloc | apply pw_below_drewN | apply below_drew1 | refine below_set ?_ GE1236.out | refine below_set ?_ GE1242.out) | exact HB.out))))
            have n3_ := Aside0.mk (blk_below (g := gb1236) (o := .cells #[.int .i64 t1231, .int .i64 t1232, .slice Ao9 t1233.length co9] 26 (0, 0)) (by (with_reducible repeat (first | refine blk_drewN ?_ _ | refine blk_drew ?_ | refine blk_alloc ?_ _)); exact BK1236.out) hb)
            have n4_ := Aside0.mk (blk_below (g := gb1242) (o := .cells #[.int .i64 t1237, .int .i64 t1238, .slice Ao14 t1239.length co14] 26 (0, 0)) (by (with_reducible repeat (first | refine blk_drewN ?_ _ | refine blk_drew ?_ | refine blk_alloc ?_ _)); exact BK1242.out) hb)
            have n5_ := Aside0.mk (below_step (by repeat (first | (with_reducible first | exact HB.out | apply below_alloc | apply pw_below_drewN | apply below_drew1 | refine below_set ?_ GE1236.out | refine below_set ?_ GE1242.out) | exact HB.out)) hb)
            clear HO_1237002
            clear HO_1243002
            clear BK1236
            clear BK1242
            clear HB
            have HO_1237002 := n0_
            have HO_1243002 := n1_
            have HO1255 := n2_
            have BK1236 := n3_
            have BK1242 := n4_
            have HB := n5_
            clear n0_ n1_ n2_ n3_ n4_ n5_
            (try clear hb)
            (try clear hb2)
            (try clear hk)
            (try clear hi)
            (try clear ho0)
            refine hK.out _ _ ⟨(blk_cell BK1242.out 0).trans rfl, (blk_cell BK1242.out 1).trans rfl, (blk_cell BK1242.out 2).trans rfl, (blk_cell BK1236.out 0).trans rfl, (blk_cell BK1236.out 1).trans rfl, (blk_cell BK1236.out 2).trans rfl⟩ (fun hHeld => ?_)
            clear hK K
            refine norm_ (a' := ?_) ?_ ?_
            rotate_left
            · show Act.put _ (some 32) _ = _
              simp only [Act.put, List.setIfInBounds_toArray, List.set_cons_zero, List.set_cons_succ, i64_w, i32_w]
              rfl
            refine one_ (i := 9) (N := some 39) #[true, true, true, true, true, true, true, true, true, true, false, false, false] rfl rfl (one_of HT_.out (by kernel_rfl)) (by decide) (fun K hK => ?_)
            refine goes_ Try.func76 (by kernel_rfl) rfl #[.agg #[.int .i64 t1231, .int .i64 t1232, .slice Ao9 t1233.length co9], .int .i64 (wrap64 ((t1233.length : Int) - (Int.tmod t1250 (wrap64 ((t1233.length : Int) + 1)))))] (by rfl) rfl rfl (by (try simp only [List.map_toArray, List.map_cons, List.map_nil]); first | done | rfl | (simp only [List.length_drop, List.length_take]; rfl)) ?_
            with_reducible refine (laws_below.calls kj4 t1231 t1232 _ _ t1233 (wrap64 ((t1233.length : Int) - (Int.tmod t1250 (wrap64 ((t1233.length : Int) + 1))))) t1256 t1257 t1258 _ ?side1 ?side2 A32.out).mono ?_
            (case side1 => repeat (first | exact (Kd.R_reads' HO_1237002.out).2.2 | (with_reducible refine Kd.C_alloc ?_ _) | (with_reducible refine Kd.C_drewN ?_ _) | (with_reducible refine Kd.C_drew ?_)))
            (case side2 => exact (Kd.R_reads' HO_1237002.out).2.1)
            rintro e w38 ⟨v1259, rfl, ho0, hb⟩
            refine ⟨_, rfl, ?_⟩
            have n0_ := Aside0.mk (Kd.R_elder' (by (with_reducible repeat (first | apply Kd.R_alloc | apply Kd.R_drewN | apply Kd.R_drew)); exact HO_1237002.out) (Kd.R_base ho0) hb)
            have n1_ := Aside0.mk (Kd.R_elder' (by (with_reducible repeat (first | apply Kd.R_alloc | apply Kd.R_drewN | apply Kd.R_drew)); exact HO_1243002.out) (Kd.R_base ho0) hb)
            have n2_ := Aside0.mk (Kd.R_elder' (by (with_reducible repeat (first | apply Kd.R_alloc | apply Kd.R_drewN | apply Kd.R_drew)); exact HO1255.out) (Kd.R_base ho0) hb)
            have n3_ := Aside0.mk (Kd.R_lower (Kd.R_new' (Kd.R_new' (Kd.R_new' ho0 (Kd.R_lt (by (with_reducible repeat (first | apply Kd.R_alloc | apply Kd.R_drewN | apply Kd.R_drew)); exact HO_1237002.out))) (Kd.R_lt (by (with_reducible repeat (first | apply Kd.R_alloc | apply Kd.R_drewN | apply Kd.R_drew)); exact HO_1243002.out))) (Kd.R_lt (by (with_reducible repeat (first | apply Kd.R_alloc | apply Kd.R_drewN | apply Kd.R_drew)); exact HO1255.out))) (below_size (by repeat (first | (with_reducible first | exact HB.out | apply below_alloc | apply pw_below_drewN | apply below_drew1 | refine below_set ?_ GE1236.out | refine below_set ?_ GE1242.out) | exact HB.out))))
            have n4_ := Aside0.mk (blk_below (g := gb1236) (o := .cells #[.int .i64 t1231, .int .i64 t1232, .slice Ao9 t1233.length co9] 26 (0, 0)) (by (with_reducible repeat (first | refine blk_drewN ?_ _ | refine blk_drew ?_ | refine blk_alloc ?_ _)); exact BK1236.out) hb)
            have n5_ := Aside0.mk (blk_below (g := gb1242) (o := .cells #[.int .i64 t1237, .int .i64 t1238, .slice Ao14 t1239.length co14] 26 (0, 0)) (by (with_reducible repeat (first | refine blk_drewN ?_ _ | refine blk_drew ?_ | refine blk_alloc ?_ _)); exact BK1242.out) hb)
            have n6_ := Aside0.mk (below_step (by repeat (first | (with_reducible first | exact HB.out | apply below_alloc | apply pw_below_drewN | apply below_drew1 | refine below_set ?_ GE1236.out | refine below_set ?_ GE1242.out) | exact HB.out)) hb)
            clear HO_1237002
            clear HO_1243002
            clear HO1255
            clear BK1236
            clear BK1242
            clear HB
            have HO_1237002 := n0_
            have HO_1243002 := n1_
            have HO1255 := n2_
            have HO1260 := n3_
            have BK1236 := n4_
            have BK1242 := n5_
            have HB := n6_
            clear n0_ n1_ n2_ n3_ n4_ n5_ n6_
            (try clear hb)
            (try clear hb2)
            (try clear hk)
            (try clear hi)
            (try clear ho0)
            obtain ⟨Ao39, co39, eo39⟩ := Kd.R_slice HO1260.out
            (first | subst eo39 | (injection eo39 with f1_ f2_ f3_; have f4_ := f1_.symm; have f5_ := f3_.symm; clear f1_ f2_ f3_; subst f4_; subst f5_))
            refine hK.out _ _ ⟨(blk_cell BK1242.out 0).trans rfl, (blk_cell BK1242.out 1).trans rfl, (blk_cell BK1242.out 2).trans rfl, (blk_cell BK1236.out 0).trans rfl, (blk_cell BK1236.out 1).trans rfl, (blk_cell BK1236.out 2).trans rfl⟩ (fun hHeld => ?_)
            clear hK K
            refine norm_ (a' := ?_) ?_ ?_
            rotate_left
            · show Act.put _ (some 39) _ = _
              simp only [Act.put, List.setIfInBounds_toArray, List.set_cons_zero, List.set_cons_succ, i64_w, i32_w]
              rfl
            refine one_ (i := 10) (N := some 40) #[true, true, true, true, true, true, true, true, true, true, true, false, false] rfl rfl (one_of HT_.out (by kernel_rfl)) (by decide) (fun K hK => ?_)
            refine goes_ Try.func75 (by kernel_rfl) rfl #[.agg #[.int .i64 t1256, .int .i64 t1257, .slice Ao39 t1258.length co39]] (by rfl) rfl rfl (by (try simp only [List.map_toArray, List.map_cons, List.map_nil]); first | done | rfl | (simp only [List.length_drop, List.length_take]; rfl)) ?_
            with_reducible refine (spec_NegativePicture.calls kj4 t1256 t1257 _ _ t1258 t1261 t1262 t1263 _ ?side1 ?side2 A33.out).mono ?_
            (case side1 => repeat (first | exact (Kd.R_reads' HO1260.out).2.2 | (with_reducible refine Kd.C_alloc ?_ _) | (with_reducible refine Kd.C_drewN ?_ _) | (with_reducible refine Kd.C_drew ?_)))
            (case side2 => exact (Kd.R_reads' HO1260.out).2.1)
            rintro e w40 ⟨v1264, rfl, ho0, hb⟩
            refine ⟨_, rfl, ?_⟩
            have n0_ := Aside0.mk (Kd.R_elder' (by (with_reducible repeat (first | apply Kd.R_alloc | apply Kd.R_drewN | apply Kd.R_drew)); exact HO_1237002.out) (Kd.R_base ho0) hb)
            have n1_ := Aside0.mk (Kd.R_elder' (by (with_reducible repeat (first | apply Kd.R_alloc | apply Kd.R_drewN | apply Kd.R_drew)); exact HO_1243002.out) (Kd.R_base ho0) hb)
            have n2_ := Aside0.mk (Kd.R_elder' (by (with_reducible repeat (first | apply Kd.R_alloc | apply Kd.R_drewN | apply Kd.R_drew)); exact HO1255.out) (Kd.R_base ho0) hb)
            have n3_ := Aside0.mk (Kd.R_elder' (by (with_reducible repeat (first | apply Kd.R_alloc | apply Kd.R_drewN | apply Kd.R_drew)); exact HO1260.out) (Kd.R_base ho0) hb)
            have n4_ := Aside0.mk (Kd.R_lower (Kd.R_new' (Kd.R_new' (Kd.R_new' (Kd.R_new' ho0 (Kd.R_lt (by (with_reducible repeat (first | apply Kd.R_alloc | apply Kd.R_drewN | apply Kd.R_drew)); exact HO_1237002.out))) (Kd.R_lt (by (with_reducible repeat (first | apply Kd.R_alloc | apply Kd.R_drewN | apply Kd.R_drew)); exact HO_1243002.out))) (Kd.R_lt (by (with_reducible repeat (first | apply Kd.R_alloc | apply Kd.R_drewN | apply Kd.R_drew)); exact HO1255.out))) (Kd.R_lt (by (with_reducible repeat (first | apply Kd.R_alloc | apply Kd.R_drewN | apply Kd.R_drew)); exact HO1260.out))) (below_size (by repeat (first | (with_reducible first | exact HB.out | apply below_alloc | apply pw_below_drewN | apply below_drew1 | refine below_set ?_ GE1236.out | refine below_set ?_ GE1242.out) | exact HB.out))))
            have n5_ := Aside0.mk (blk_below (g := gb1236) (o := .cells #[.int .i64 t1231, .int .i64 t1232, .slice Ao9 t1233.length co9] 26 (0, 0)) (by (with_reducible repeat (first | refine blk_drewN ?_ _ | refine blk_drew ?_ | refine blk_alloc ?_ _)); exact BK1236.out) hb)
            have n6_ := Aside0.mk (blk_below (g := gb1242) (o := .cells #[.int .i64 t1237, .int .i64 t1238, .slice Ao14 t1239.length co14] 26 (0, 0)) (by (with_reducible repeat (first | refine blk_drewN ?_ _ | refine blk_drew ?_ | refine blk_alloc ?_ _)); exact BK1242.out) hb)
            have n7_ := Aside0.mk (below_step (by repeat (first | (with_reducible first | exact HB.out | apply below_alloc | apply pw_below_drewN | apply below_drew1 | refine below_set ?_ GE1236.out | refine below_set ?_ GE1242.out) | exact HB.out)) hb)
            clear HO_1237002
            clear HO_1243002
            clear HO1255
            clear HO1260
            clear BK1236
            clear BK1242
            clear HB
            have HO_1237002 := n0_
            have HO_1243002 := n1_
            have HO1255 := n2_
            have HO1260 := n3_
            have HO1265 := n4_
            have BK1236 := n5_
            have BK1242 := n6_
            have HB := n7_
            clear n0_ n1_ n2_ n3_ n4_ n5_ n6_ n7_
            (try clear hb)
            (try clear hb2)
            (try clear hk)
            (try clear hi)
            (try clear ho0)
            obtain ⟨Ao41, co41, eo41⟩ := Kd.R_slice HO1255.out
            (first | subst eo41 | (injection eo41 with f1_ f2_ f3_; have f4_ := f1_.symm; have f5_ := f3_.symm; clear f1_ f2_ f3_; subst f4_; subst f5_))
            obtain ⟨Ao42, co42, eo42⟩ := Kd.R_slice HO1265.out
            (first | subst eo42 | (injection eo42 with f1_ f2_ f3_; have f4_ := f1_.symm; have f5_ := f3_.symm; clear f1_ f2_ f3_; subst f4_; subst f5_))
            refine hK.out _ _ ⟨(blk_cell BK1242.out 0).trans rfl, (blk_cell BK1242.out 1).trans rfl, (blk_cell BK1242.out 2).trans rfl, (blk_cell BK1236.out 0).trans rfl, (blk_cell BK1236.out 1).trans rfl, (blk_cell BK1236.out 2).trans rfl⟩ (fun hHeld => ?_)
            clear hK K
            refine norm_ (a' := ?_) ?_ ?_
            rotate_left
            · show Act.put _ (some 40) _ = _
              simp only [Act.put, List.setIfInBounds_toArray, List.set_cons_zero, List.set_cons_succ, i64_w, i32_w]
              rfl
            refine one_ (i := 11) (N := some 41) #[true, true, true, true, true, true, true, true, true, true, true, true, false] rfl rfl (one_of HT_.out (by kernel_rfl)) (by decide) (fun K hK => ?_)
            refine goes_ Try.func74 (by kernel_rfl) rfl #[.agg #[.int .i64 t1251, .int .i64 t1252, .slice Ao41 t1253.length co41], .agg #[.int .i64 t1261, .int .i64 t1262, .slice Ao42 t1263.length co42]] (by rfl) rfl rfl (by (try simp only [List.map_toArray, List.map_cons, List.map_nil]); first | done | rfl | (simp only [List.length_drop, List.length_take]; rfl)) ?_
            with_reducible refine (laws_same.calls kj4 t1251 t1252 _ _ t1253 t1261 t1262 _ _ t1263 t1266 _ ?side1 ?side2 ?side3 ?side4 A34.out).mono ?_
            (case side1 => repeat (first | exact (Kd.R_reads' HO1255.out).2.2 | (with_reducible refine Kd.C_alloc ?_ _) | (with_reducible refine Kd.C_drewN ?_ _) | (with_reducible refine Kd.C_drew ?_)))
            (case side2 => exact (Kd.R_reads' HO1255.out).2.1)
            (case side3 => repeat (first | exact (Kd.R_reads' HO1265.out).2.2 | (with_reducible refine Kd.C_alloc ?_ _) | (with_reducible refine Kd.C_drewN ?_ _) | (with_reducible refine Kd.C_drew ?_)))
            (case side4 => exact (Kd.R_reads' HO1265.out).2.1)
            rintro e w43 ⟨rfl, hb⟩
            refine ⟨_, rfl, ?_⟩
            have n0_ := Aside0.mk (Kd.R_below (by (with_reducible repeat (first | apply Kd.R_alloc | apply Kd.R_drewN | apply Kd.R_drew)); exact HO_1237002.out) hb)
            have n1_ := Aside0.mk (Kd.R_below (by (with_reducible repeat (first | apply Kd.R_alloc | apply Kd.R_drewN | apply Kd.R_drew)); exact HO_1243002.out) hb)
            have n2_ := Aside0.mk (Kd.R_below (by (with_reducible repeat (first | apply Kd.R_alloc | apply Kd.R_drewN | apply Kd.R_drew)); exact HO1255.out) hb)
            have n3_ := Aside0.mk (Kd.R_below (by (with_reducible repeat (first | apply Kd.R_alloc | apply Kd.R_drewN | apply Kd.R_drew)); exact HO1260.out) hb)
            have n4_ := Aside0.mk (Kd.R_below (by (with_reducible repeat (first | apply Kd.R_alloc | apply Kd.R_drewN | apply Kd.R_drew)); exact HO1265.out) hb)
            have n5_ := Aside0.mk (blk_below (g := gb1236) (o := .cells #[.int .i64 t1231, .int .i64 t1232, .slice Ao9 t1233.length co9] 26 (0, 0)) (by (with_reducible repeat (first | refine blk_drewN ?_ _ | refine blk_drew ?_ | refine blk_alloc ?_ _)); exact BK1236.out) hb)
            have n6_ := Aside0.mk (blk_below (g := gb1242) (o := .cells #[.int .i64 t1237, .int .i64 t1238, .slice Ao14 t1239.length co14] 26 (0, 0)) (by (with_reducible repeat (first | refine blk_drewN ?_ _ | refine blk_drew ?_ | refine blk_alloc ?_ _)); exact BK1242.out) hb)
            have n7_ := Aside0.mk (below_step (by repeat (first | (with_reducible first | exact HB.out | apply below_alloc | apply pw_below_drewN | apply below_drew1 | refine below_set ?_ GE1236.out | refine below_set ?_ GE1242.out) | exact HB.out)) hb)
            clear HO_1237002
            clear HO_1243002
            clear HO1255
            clear HO1260
            clear HO1265
            clear BK1236
            clear BK1242
            clear HB
            have HO_1237002 := n0_
            have HO_1243002 := n1_
            have HO1255 := n2_
            have HO1260 := n3_
            have HO1265 := n4_
            have BK1236 := n5_
            have BK1242 := n6_
            have HB := n7_
            clear n0_ n1_ n2_ n3_ n4_ n5_ n6_ n7_
            (try clear hb)
            (try clear hb2)
            (try clear hk)
            (try clear hi)
            refine hK.out _ _ ⟨(blk_cell BK1242.out 0).trans rfl, (blk_cell BK1242.out 1).trans rfl, (blk_cell BK1242.out 2).trans rfl, (blk_cell BK1236.out 0).trans rfl, (blk_cell BK1236.out 1).trans rfl, (blk_cell BK1236.out 2).trans rfl⟩ (fun hHeld => ?_)
            clear hK K
            refine norm_ (a' := ?_) ?_ ?_
            rotate_left
            · show Act.put _ (some 41) _ = _
              simp only [Act.put, List.setIfInBounds_toArray, List.set_cons_zero, List.set_cons_succ, i64_w, i32_w]
              rfl
            refine pure_ (i := 12) (N := some 2) (v := ?_) (a' := ?_) #[true, true, true, true, true, true, true, true, true, true, true, true, true] rfl rfl (any_of HT_.out (by kernel_rfl)) (fun _ _ _ h => h) (Or.inl ⟨by rfl, ?_⟩) ?_ ?_
            rotate_left
            · intro w'
              go_simp
              with_reducible rfl
            rotate_left
            · simp only [Act.put, List.setIfInBounds_toArray, List.set_cons_zero, List.set_cons_succ, i64_w, i32_w]
              rfl
            refine done_ (done_of HT_.out (by kernel_rfl)) ?_
            try go_wp2
            go_ret
            exact ⟨by first | rfl | (simp [errW_none, errW_some] <;> rfl) | (simp [*, errW_none, errW_some] <;> rfl), by repeat (first | (with_reducible first | exact HB.out | apply below_alloc | apply pw_below_drewN | apply below_drew1 | refine below_set ?_ GE1236.out | refine below_set ?_ GE1242.out) | exact HB.out)⟩

end Go.Proofs.Ytdlehfnlibddcaa.P
