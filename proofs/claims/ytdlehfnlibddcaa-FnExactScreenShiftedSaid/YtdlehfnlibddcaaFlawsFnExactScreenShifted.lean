-- Written by tools/seatprint.py (over the kit's print, changed in memory). Not trusted: Lean checks it.
import Derived.Test.YtdlehfnlibddcaaP0
import Derived.Test.YtdlehfnlibddcaaFlawseqMatrix
import Derived.Test.YtdlehfnlibddcaaFlawsmarkMatrix
import Derived.Test.YtdlehfnlibddcaaFlawsszPicture
import Derived.Test.YtdlehfnlibddcaaFlawstoPicture
import Derived.Test.YtdlehfnlibddcaaFlawseqPicture
import Derived.Test.YtdlehfnlibddcaaFlawsmarkPicture
import Derived.Test.YtdlehfnlibddcaaFlawsheldPicture
import Derived.Test.YtdlehfnlibddcaaFlawsszMatrix
import Derived.Test.YtdlehfnlibddcaaFlawstoMatrix
import Derived.Test.YtdlehfnlibddcaaFspecScreenShifted
import Derived.Test.YtdlehfnlibddcaaFimplScreenShifted
namespace Go.Proofs.Ytdlehfnlibddcaa.P
open Go.RowKit Go.Proofs.YtdlehfnlibddcaaW.PrintWords Go.Proofs.YtdlehfnlibddcaaW.PrintLast Go.Proofs.YtdlehfnlibddcaaW.PrintMore
attribute [local go_sem] max2_int min2_int max_two min_two max_three min_three max_four min_four   -- for this text's walks alone
set_option linter.unusedVariables false
set_option linter.unusedSimpArgs false

/-! ### laws_FnExactScreenShifted: function 21 -/
def laws_FnExactScreenShifted.j0 : Nat → Int → Int → Bool → Int → Int → List Int → Int → Int → List Int → Int → Int → List Int → Int → Int → List Int → Option (Bool)
  | 0, _, _, _, _, _, _, _, _, _, _, _, _, _, _, _ => none
  | k + 1, x2, x3, x71, x1294000, x1294001, x1294002, x1295000, x1295001, x1295002, x1313000, x1313001, x1313002, x1331000, x1331001, x1331002 => if x71 = true then (some false) else ((laws_markPicture.f k x1331000 x1331001 x1331002 1).bind fun bt1349 => ((laws_heldPicture.f k x1331000 x1331001 bt1349.2 1).bind fun t1351 => (if t1351 < 0 then (some false) else (if t1351 = bt1349.1 then ((laws_toMatrix.f k x1294000 x1294001 x1294002).bind fun bt1352 => ((laws_toPicture.f k x1295000 x1295001 x1295002).bind fun bt1357 => ((impl_ScreenShifted.f bt1352.1 bt1352.2.1 bt1352.2.2 bt1357.1 bt1357.2.1 bt1357.2.2 x2 x3).bind fun bt1362 => ((laws_eqPicture.f k bt1362.1 bt1362.2.1 bt1362.2.2 x1313000 x1313001 x1313002).bind fun t1368 => (if t1368 = true then ((laws_heldPicture.f k x1331000 x1331001 bt1349.2 1).bind fun t1369 => (if t1369 < 0 then (some false) else (if t1369 = bt1349.1 then (some true) else (some false)))) else (some false)))))) else (some false)))))
def laws_FnExactScreenShifted.f (k : Nat) (a0_0 : Int) (a0_1 : Int) (l0_2 : List Int) (a1_0 : Int) (a1_1 : Int) (l1_2 : List Int) (a2 : Int) (a3 : Int) : Option (Bool) := (laws_szMatrix.f a0_0 a0_1 l0_2 1048576).bind fun t1295 => (if t1295 < 0 then (some true) else ((laws_szPicture.f a1_0 a1_1 l1_2 t1295).bind fun t1296 => (if t1296 < 0 then (some true) else ((laws_toMatrix.f k a0_0 a0_1 l0_2).bind fun bt1297 => ((laws_toPicture.f k a1_0 a1_1 l1_2).bind fun bt1302 => ((spec_ScreenShifted.f k bt1297.1 bt1297.2.1 bt1297.2.2 bt1302.1 bt1302.2.1 bt1302.2.2 a2 a3).bind fun bt1307 => ((laws_toMatrix.f k a0_0 a0_1 l0_2).bind fun bt1313 => ((laws_toPicture.f k a1_0 a1_1 l1_2).bind fun bt1319 => ((impl_ScreenShifted.f bt1313.1 bt1313.2.1 bt1313.2.2 bt1319.1 bt1319.2.1 bt1319.2.2 a2 a3).bind fun bt1325 => ((laws_eqPicture.f k bt1325.1 bt1325.2.1 bt1325.2.2 bt1307.1 bt1307.2.1 bt1307.2.2).bind fun t1331 => (if t1331 = true then ((laws_toMatrix.f k a0_0 a0_1 l0_2).bind fun bt1332 => ((laws_eqMatrix.f k bt1313.1 bt1313.2.1 bt1313.2.2 bt1332.1 bt1332.2.1 bt1332.2.2).bind fun t1337 => (if t1337 = true then ((laws_toPicture.f k a1_0 a1_1 l1_2).bind fun bt1338 => ((laws_eqPicture.f k bt1319.1 bt1319.2.1 bt1319.2.2 bt1338.1 bt1338.2.1 bt1338.2.2).bind fun t1343 => (if t1343 = true then ((laws_markMatrix.f k bt1313.1 bt1313.2.1 bt1313.2.2 1).bind fun bt1344 => ((laws_markPicture.f k bt1319.1 bt1319.2.1 bt1319.2.2 bt1344.1).bind fun bt1346 => (if bt1346.1 < 0 then (laws_FnExactScreenShifted.j0 k a2 a3 true a0_0 a0_1 l0_2 a1_0 a1_1 l1_2 bt1307.1 bt1307.2.1 bt1307.2.2 bt1325.1 bt1325.2.1 bt1325.2.2) else ((laws_eqPicture.f k bt1325.1 bt1325.2.1 bt1325.2.2 bt1307.1 bt1307.2.1 bt1307.2.2).bind fun t1348 => (laws_FnExactScreenShifted.j0 k a2 a3 (!t1348) a0_0 a0_1 l0_2 a1_0 a1_1 l1_2 bt1307.1 bt1307.2.1 bt1307.2.2 bt1325.1 bt1325.2.1 bt1325.2.2))))) else (some false)))) else (some false)))) else (some false))))))))))))
theorem laws_FnExactScreenShifted.mono_l : ∀ k, (∀ y0 y1 y2 y3 y4 y5 y6 y7 y8 y9 y10 y11 y12 y13 y14, LeO (laws_FnExactScreenShifted.j0 k y0 y1 y2 y3 y4 y5 y6 y7 y8 y9 y10 y11 y12 y13 y14) (laws_FnExactScreenShifted.j0 (k + 1) y0 y1 y2 y3 y4 y5 y6 y7 y8 y9 y10 y11 y12 y13 y14))
  | 0 => fun _ _ _ _ _ _ _ _ _ _ _ _ _ _ _ r h => by simp [laws_FnExactScreenShifted.j0] at h
  | k + 1 => by
    have ih0 := laws_FnExactScreenShifted.mono_l k
    · intro y0 y1 y2 y3 y4 y5 y6 y7 y8 y9 y10 y11 y12 y13 y14
      unfold laws_FnExactScreenShifted.j0
      repeat' first
      | (with_reducible exact ih0 _ _ _ _ _ _ _ _ _ _ _ _ _ _ _)
      | (with_reducible exact laws_eqMatrix.mono _ _ _ _ _ _ _)
      | (with_reducible exact laws_eqPicture.mono _ _ _ _ _ _ _)
      | (with_reducible exact laws_heldPicture.mono _ _ _ _ _)
      | (with_reducible exact laws_markMatrix.mono _ _ _ _ _)
      | (with_reducible exact laws_markPicture.mono _ _ _ _ _)
      | (with_reducible exact laws_toMatrix.mono _ _ _ _)
      | (with_reducible exact laws_toPicture.mono _ _ _ _)
      | (with_reducible exact spec_ScreenShifted.mono _ _ _ _ _ _ _ _ _)
      | (with_reducible exact LeO.refl _)
      | (with_reducible exact LeO.none _)
      | (with_reducible refine LeO.ite ?_ ?_)
      | (with_reducible refine LeO.bind ?_ (fun _ => ?_))
      | exact ih0 _ _ _ _ _ _ _ _ _ _ _ _ _ _ _
      | exact laws_eqMatrix.mono _ _ _ _ _ _ _
      | exact laws_eqPicture.mono _ _ _ _ _ _ _
      | exact laws_heldPicture.mono _ _ _ _ _
      | exact laws_markMatrix.mono _ _ _ _ _
      | exact laws_markPicture.mono _ _ _ _ _
      | exact laws_toMatrix.mono _ _ _ _
      | exact laws_toPicture.mono _ _ _ _
      | exact spec_ScreenShifted.mono _ _ _ _ _ _ _ _ _
      | exact LeO.none _
      | refine LeO.ite ?_ ?_
      | refine LeO.bind ?_ (fun _ => ?_)
theorem laws_FnExactScreenShifted.mono : ∀ a0 a1 a2 a3 a4 a5 a6 a7 k, LeO (laws_FnExactScreenShifted.f k a0 a1 a2 a3 a4 a5 a6 a7) (laws_FnExactScreenShifted.f (k + 1) a0 a1 a2 a3 a4 a5 a6 a7) := by
  intro a0 a1 a2 a3 a4 a5 a6 a7 k
  have ih0 := laws_FnExactScreenShifted.mono_l k
  unfold laws_FnExactScreenShifted.f
  repeat' first
      | (with_reducible exact ih0 _ _ _ _ _ _ _ _ _ _ _ _ _ _ _)
      | (with_reducible exact laws_eqMatrix.mono _ _ _ _ _ _ _)
      | (with_reducible exact laws_eqPicture.mono _ _ _ _ _ _ _)
      | (with_reducible exact laws_heldPicture.mono _ _ _ _ _)
      | (with_reducible exact laws_markMatrix.mono _ _ _ _ _)
      | (with_reducible exact laws_markPicture.mono _ _ _ _ _)
      | (with_reducible exact laws_toMatrix.mono _ _ _ _)
      | (with_reducible exact laws_toPicture.mono _ _ _ _)
      | (with_reducible exact spec_ScreenShifted.mono _ _ _ _ _ _ _ _ _)
      | (with_reducible exact LeO.refl _)
      | (with_reducible exact LeO.none _)
      | (with_reducible refine LeO.ite ?_ ?_)
      | (with_reducible refine LeO.bind ?_ (fun _ => ?_))
      | exact ih0 _ _ _ _ _ _ _ _ _ _ _ _ _ _ _
      | exact laws_eqMatrix.mono _ _ _ _ _ _ _
      | exact laws_eqPicture.mono _ _ _ _ _ _ _
      | exact laws_heldPicture.mono _ _ _ _ _
      | exact laws_markMatrix.mono _ _ _ _ _
      | exact laws_markPicture.mono _ _ _ _ _
      | exact laws_toMatrix.mono _ _ _ _
      | exact laws_toPicture.mono _ _ _ _
      | exact spec_ScreenShifted.mono _ _ _ _ _ _ _ _ _
      | exact LeO.none _
      | refine LeO.ite ?_ ?_
      | refine LeO.bind ?_ (fun _ => ?_)
def laws_FnExactScreenShifted.T8 : Bool × List (List Nat × List Nat) := (true, [([], []), ([0], [0]), ([], []), ([2, 1], [2]), ([], []), ([], []), ([1, 3, 4, 5, 3], [1, 3, 4, 5]), ([], []), ([7, 6, 6, 0, 1, 2, 3, 4, 5, 6, 7], [6, 7])])
def laws_FnExactScreenShifted.B8 : List Nat := [0, 1, 0, 7, 0, 0, 63, 0, 255]
theorem laws_FnExactScreenShifted.tab8 : rtab .any (opsOf Try.f21 8) = laws_FnExactScreenShifted.T8 := by kernel_rfl
theorem laws_FnExactScreenShifted.bits8 : waitsOk laws_FnExactScreenShifted.T8.2 laws_FnExactScreenShifted.B8 = true := by kernel_rfl
def laws_FnExactScreenShifted.T31 : Bool × List (List Nat × List Nat) := (true, [([], []), ([0], [0]), ([], []), ([2, 1], [2]), ([], []), ([], []), ([1, 3, 4, 5, 3], [1, 3, 4, 5]), ([], []), ([7, 6, 6, 0, 1, 2, 3, 4, 5, 6, 7], [6, 7])])
def laws_FnExactScreenShifted.B31 : List Nat := [0, 1, 0, 7, 0, 0, 63, 0, 255]
theorem laws_FnExactScreenShifted.tab31 : rtab .any (opsOf Try.f21 31) = laws_FnExactScreenShifted.T31 := by kernel_rfl
theorem laws_FnExactScreenShifted.bits31 : waitsOk laws_FnExactScreenShifted.T31.2 laws_FnExactScreenShifted.B31 = true := by kernel_rfl
theorem sB_ {p q : Prop} (h : q) (f : q → p := by (intro h_; (with_reducible repeat (first | refine blk_drewN ?_ _ | refine blk_drew ?_ | refine blk_alloc ?_ _)); exact h_)) : p := f h
theorem sR_ {p q : Prop} (h : q) (f : q → p := by (intro h_; (with_reducible repeat (first | apply Kd.R_alloc | apply Kd.R_drewN | apply Kd.R_drew)); exact h_)) : p := f h
theorem sW_ {p q : Prop} (h : q) (f : q → p := by (intro h_; repeat (first | (with_reducible first | exact h_ | apply below_alloc | apply pw_below_drewN | apply below_drew1 | refine below_set ?_ (Aside0.out (by assumption))) | exact h_))) : p := f h
theorem sL_ {p : Prop} (f : p := by (try simp only [List.map_toArray, List.map_cons, List.map_nil]); first | done | rfl | (simp only [List.length_drop, List.length_take]; rfl)) : p := f
theorem sP_ {p : Prop} (f : p := by (simp only [putAll, Act.put, List.setIfInBounds_toArray, List.set_cons_zero, List.set_cons_succ])) : p := f
set_option maxHeartbeats 8000000 in
set_option maxRecDepth 100000 in
theorem laws_FnExactScreenShifted.calls (k : Nat) (a0_0 : Int) (a0_1 : Int) (A0_2 : Option Addr) (c0_2 : Nat) (l0_2 : List Int) (a1_0 : Int) (a1_1 : Int) (A1_2 : Option Addr) (c1_2 : Nat) (l1_2 : List Int) (a2 : Int) (a3 : Int) (r : Bool) (w : World) (hr0_2 : Kd.C (Kd.int .i64) w A0_2 l0_2.length l0_2) (hc0_2 : l0_2.length ≤ c0_2) (hr1_2 : Kd.C (Kd.int .i64) w A1_2 l1_2.length l1_2) (hc1_2 : l1_2.length ≤ c1_2) (hT : Aside0 (r = true)) (h : laws_FnExactScreenShifted.f k a0_0 a0_1 l0_2 a1_0 a1_1 l1_2 a2 a3 = some r) :
  Calls Try.prog 21 #[.agg #[.int .i64 a0_0, .int .i64 a0_1, .slice A0_2 l0_2.length c0_2], .agg #[.int .i64 a1_0, .int .i64 a1_1, .slice A1_2 l1_2.length c1_2], .int .i64 a2, .int .i64 a3] w fun e w' => e = .returned (.bool r) ∧ Below w.heap.size w w' := by
 have hu55 := Try.underlying55
 have hu48 := Try.underlying48
 have hu41 := Try.underlying41
 have hu26 := Try.underlying26
 have HR0_2 := Aside0.mk hr0_2
 have HC0_2 := Aside0.mk hc0_2
 clear hr0_2 hc0_2
 have HR1_2 := Aside0.mk hr1_2
 have HC1_2 := Aside0.mk hc1_2
 clear hr1_2 hc1_2
 have HB := Aside0.mk (Below.refl w.heap.size w)
 have H : ((laws_szMatrix.f a0_0 a0_1 l0_2 1048576).bind fun t1295 => (if t1295 < 0 then (some true) else ((laws_szPicture.f a1_0 a1_1 l1_2 t1295).bind fun t1296 => (if t1296 < 0 then (some true) else ((laws_toMatrix.f k a0_0 a0_1 l0_2).bind fun bt1297 => ((laws_toPicture.f k a1_0 a1_1 l1_2).bind fun bt1302 => ((spec_ScreenShifted.f k bt1297.1 bt1297.2.1 bt1297.2.2 bt1302.1 bt1302.2.1 bt1302.2.2 a2 a3).bind fun bt1307 => ((laws_toMatrix.f k a0_0 a0_1 l0_2).bind fun bt1313 => ((laws_toPicture.f k a1_0 a1_1 l1_2).bind fun bt1319 => ((impl_ScreenShifted.f bt1313.1 bt1313.2.1 bt1313.2.2 bt1319.1 bt1319.2.1 bt1319.2.2 a2 a3).bind fun bt1325 => ((laws_eqPicture.f k bt1325.1 bt1325.2.1 bt1325.2.2 bt1307.1 bt1307.2.1 bt1307.2.2).bind fun t1331 => (if t1331 = true then ((laws_toMatrix.f k a0_0 a0_1 l0_2).bind fun bt1332 => ((laws_eqMatrix.f k bt1313.1 bt1313.2.1 bt1313.2.2 bt1332.1 bt1332.2.1 bt1332.2.2).bind fun t1337 => (if t1337 = true then ((laws_toPicture.f k a1_0 a1_1 l1_2).bind fun bt1338 => ((laws_eqPicture.f k bt1319.1 bt1319.2.1 bt1319.2.2 bt1338.1 bt1338.2.1 bt1338.2.2).bind fun t1343 => (if t1343 = true then ((laws_markMatrix.f k bt1313.1 bt1313.2.1 bt1313.2.2 1).bind fun bt1344 => ((laws_markPicture.f k bt1319.1 bt1319.2.1 bt1319.2.2 bt1344.1).bind fun bt1346 => (if bt1346.1 < 0 then (laws_FnExactScreenShifted.j0 k a2 a3 true a0_0 a0_1 l0_2 a1_0 a1_1 l1_2 bt1307.1 bt1307.2.1 bt1307.2.2 bt1325.1 bt1325.2.1 bt1325.2.2) else ((laws_eqPicture.f k bt1325.1 bt1325.2.1 bt1325.2.2 bt1307.1 bt1307.2.1 bt1307.2.2).bind fun t1348 => (laws_FnExactScreenShifted.j0 k a2 a3 (!t1348) a0_0 a0_1 l0_2 a1_0 a1_1 l1_2 bt1307.1 bt1307.2.1 bt1307.2.2 bt1325.1 bt1325.2.1 bt1325.2.2))))) else (some false)))) else (some false)))) else (some false))))))))))))) = some r := h
 clear h
 replace H := Option.bind_eq_some_iff.mp H
 obtain ⟨t1295, A50, H⟩ := H
 replace H : (if t1295 < 0 then (some true) else ((laws_szPicture.f a1_0 a1_1 l1_2 t1295).bind fun t1296 => (if t1296 < 0 then (some true) else ((laws_toMatrix.f k a0_0 a0_1 l0_2).bind fun bt1297 => ((laws_toPicture.f k a1_0 a1_1 l1_2).bind fun bt1302 => ((spec_ScreenShifted.f k bt1297.1 bt1297.2.1 bt1297.2.2 bt1302.1 bt1302.2.1 bt1302.2.2 a2 a3).bind fun bt1307 => ((laws_toMatrix.f k a0_0 a0_1 l0_2).bind fun bt1313 => ((laws_toPicture.f k a1_0 a1_1 l1_2).bind fun bt1319 => ((impl_ScreenShifted.f bt1313.1 bt1313.2.1 bt1313.2.2 bt1319.1 bt1319.2.1 bt1319.2.2 a2 a3).bind fun bt1325 => ((laws_eqPicture.f k bt1325.1 bt1325.2.1 bt1325.2.2 bt1307.1 bt1307.2.1 bt1307.2.2).bind fun t1331 => (if t1331 = true then ((laws_toMatrix.f k a0_0 a0_1 l0_2).bind fun bt1332 => ((laws_eqMatrix.f k bt1313.1 bt1313.2.1 bt1313.2.2 bt1332.1 bt1332.2.1 bt1332.2.2).bind fun t1337 => (if t1337 = true then ((laws_toPicture.f k a1_0 a1_1 l1_2).bind fun bt1338 => ((laws_eqPicture.f k bt1319.1 bt1319.2.1 bt1319.2.2 bt1338.1 bt1338.2.1 bt1338.2.2).bind fun t1343 => (if t1343 = true then ((laws_markMatrix.f k bt1313.1 bt1313.2.1 bt1313.2.2 1).bind fun bt1344 => ((laws_markPicture.f k bt1319.1 bt1319.2.1 bt1319.2.2 bt1344.1).bind fun bt1346 => (if bt1346.1 < 0 then (laws_FnExactScreenShifted.j0 k a2 a3 true a0_0 a0_1 l0_2 a1_0 a1_1 l1_2 bt1307.1 bt1307.2.1 bt1307.2.2 bt1325.1 bt1325.2.1 bt1325.2.2) else ((laws_eqPicture.f k bt1325.1 bt1325.2.1 bt1325.2.2 bt1307.1 bt1307.2.1 bt1307.2.2).bind fun t1348 => (laws_FnExactScreenShifted.j0 k a2 a3 (!t1348) a0_0 a0_1 l0_2 a1_0 a1_1 l1_2 bt1307.1 bt1307.2.1 bt1307.2.2 bt1325.1 bt1325.2.1 bt1325.2.2))))) else (some false)))) else (some false)))) else (some false)))))))))))) = some r := H
 have A5 := Aside0.mk A50
 clear A50
 by_cases c6 : t1295 < 0
 ·rw [if_pos c6] at H
  have c6b0 : decide (t1295 < 0) = true := decide_eq_true c6
  clear c6
  obtain rfl := Option.some.inj H
  go_enter Try.func21, Try.ntmps21
  go_wp2_with (first | ((with_reducible refine gate_dst (N := 4) rfl ?_); refine box_event ?hg (N := 4) ?hd (cs := #[.int .i64 a0_0, .int .i64 a0_1, .slice A0_2 l0_2.length c0_2]) (t := 55) ?hr ?_; (case hd => rfl); (case hg => rfl); (case hr => first | (go_simp; done) | (go_simp; rfl)); intro gb1293 hg w7 hbox hb; have n0_ := Aside0.mk (below_step (sW_ HB.out) hb); have n1_ := Aside0.mk (hbox); have n2_ := Aside0.mk ((by rw [hg]; exact (below_size (sW_ HB.out)) : w.heap.size ≤ gb1293)); have n3_ := Aside0.mk ((by rw [hg]; exact (below_size (sW_ HB.out)) : w.heap.size ≤ gb1293)); clear HB; have HB := n0_; have BK1293 := n1_; have GW1293 := n2_; have GE1293 := n3_; clear n0_ n1_ n2_ n3_; clear hb hbox hg) | ((with_reducible refine gate_dst (N := 5) rfl ?_); refine box_event ?hg (N := 5) ?hd (cs := #[.int .i64 a1_0, .int .i64 a1_1, .slice A1_2 l1_2.length c1_2]) (t := 48) ?hr ?_; (case hd => rfl); (case hg => rfl); (case hr => first | (go_simp; done) | (go_simp; rfl)); intro gb1294 hg w8 hbox hb; have n0_ := Aside0.mk (blk_below (sB_ BK1293.out) hb); have n1_ := Aside0.mk (below_step (sW_ HB.out) hb); have n2_ := Aside0.mk (hbox); have n3_ := Aside0.mk ((by rw [hg]; exact (below_size (sW_ HB.out)) : w.heap.size ≤ gb1294)); have n4_ := Aside0.mk ((by rw [hg]; exact (below_size (sW_ HB.out)) : w.heap.size ≤ gb1294)); have n5_ := Aside0.mk ((by rw [hg]; exact Nat.ne_of_lt (blk_lt (sB_ BK1293.out)) : gb1293 ≠ gb1294)); have n6_ := Aside0.mk ((by rw [hg]; exact Nat.ne_of_gt (blk_lt (sB_ BK1293.out)) : gb1294 ≠ gb1293)); clear BK1293; clear HB; have BK1293 := n0_; have HB := n1_; have BK1294 := n2_; have GW1294 := n3_; have GE1294 := n4_; have NB1293_1294 := n5_; have NB1294_1293 := n6_; clear n0_ n1_ n2_ n3_ n4_ n5_ n6_; clear hb hbox hg; have hnb9 := NB1293_1294.out; have hnc9 := NB1294_1293.out; have hcz10_0 : w8.cell? ⟨gb1293, 0, none⟩ = some (.int .i64 a0_0) := (blk_cell BK1293.out 0).trans rfl; have hcz10_1 : w8.cell? ⟨gb1293, 1, none⟩ = some (.int .i64 a0_1) := (blk_cell BK1293.out 1).trans rfl; have hcz10_2 : w8.cell? ⟨gb1293, 2, none⟩ = some (.slice A0_2 l0_2.length c0_2) := (blk_cell BK1293.out 2).trans rfl; have hfz10_0 := blk_frozen BK1293.out 0; have hfz10_1 := blk_frozen BK1293.out 1; have hfz10_2 := blk_frozen BK1293.out 2) | ((with_reducible refine gate_callee (f := 56) rfl ?_); refine goesL_ (some 20) rfl rfl Try.func56 (by kernel_rfl) rfl #[.agg #[.int .i64 a0_0, .int .i64 a0_1, .slice A0_2 l0_2.length c0_2], .int .i64 1048576] rfl sL_ ?_; (with_reducible refine (laws_szMatrix.calls a0_0 a0_1 _ _ l0_2 1048576 t1295 _ ?side1 ?side2 A5.out).mono ?_); (case side1 => repeat (first | exact (Kd.C_below HR0_2.out HB.out) | (with_reducible refine Kd.C_alloc ?_ _) | (with_reducible refine Kd.C_drewN ?_ _) | (with_reducible refine Kd.C_drew ?_))); (case side2 => exact HC0_2.out); rintro e w11 ⟨rfl, hb⟩; refine ⟨_, rfl, ?_⟩; have n0_ := Aside0.mk (blk_below (sB_ BK1293.out) hb); have n1_ := Aside0.mk (blk_below (sB_ BK1294.out) hb); have n2_ := Aside0.mk (below_step (sW_ HB.out) hb); clear BK1293; clear BK1294; clear HB; have BK1293 := n0_; have BK1294 := n1_; have HB := n2_; clear n0_ n1_ n2_; (try clear hb); (try clear hb2); (try clear hk); (try clear hi)))
  go_ret
  exact ⟨by first | rfl | (simp [errW_none, errW_some] <;> rfl) | (simp [*, errW_none, errW_some] <;> rfl), by repeat (first | (with_reducible first | exact HB.out | apply below_alloc | apply pw_below_drewN | apply below_drew1 | refine below_set ?_ GE1293.out | refine below_set ?_ GE1294.out) | exact HB.out)⟩
 ·rw [if_neg c6] at H
  have c6b0 : decide (t1295 < 0) = false := decide_eq_false c6
  clear c6
  replace H := Option.bind_eq_some_iff.mp H
  obtain ⟨t1296, A120, H⟩ := H
  replace H : (if t1296 < 0 then (some true) else ((laws_toMatrix.f k a0_0 a0_1 l0_2).bind fun bt1297 => ((laws_toPicture.f k a1_0 a1_1 l1_2).bind fun bt1302 => ((spec_ScreenShifted.f k bt1297.1 bt1297.2.1 bt1297.2.2 bt1302.1 bt1302.2.1 bt1302.2.2 a2 a3).bind fun bt1307 => ((laws_toMatrix.f k a0_0 a0_1 l0_2).bind fun bt1313 => ((laws_toPicture.f k a1_0 a1_1 l1_2).bind fun bt1319 => ((impl_ScreenShifted.f bt1313.1 bt1313.2.1 bt1313.2.2 bt1319.1 bt1319.2.1 bt1319.2.2 a2 a3).bind fun bt1325 => ((laws_eqPicture.f k bt1325.1 bt1325.2.1 bt1325.2.2 bt1307.1 bt1307.2.1 bt1307.2.2).bind fun t1331 => (if t1331 = true then ((laws_toMatrix.f k a0_0 a0_1 l0_2).bind fun bt1332 => ((laws_eqMatrix.f k bt1313.1 bt1313.2.1 bt1313.2.2 bt1332.1 bt1332.2.1 bt1332.2.2).bind fun t1337 => (if t1337 = true then ((laws_toPicture.f k a1_0 a1_1 l1_2).bind fun bt1338 => ((laws_eqPicture.f k bt1319.1 bt1319.2.1 bt1319.2.2 bt1338.1 bt1338.2.1 bt1338.2.2).bind fun t1343 => (if t1343 = true then ((laws_markMatrix.f k bt1313.1 bt1313.2.1 bt1313.2.2 1).bind fun bt1344 => ((laws_markPicture.f k bt1319.1 bt1319.2.1 bt1319.2.2 bt1344.1).bind fun bt1346 => (if bt1346.1 < 0 then (laws_FnExactScreenShifted.j0 k a2 a3 true a0_0 a0_1 l0_2 a1_0 a1_1 l1_2 bt1307.1 bt1307.2.1 bt1307.2.2 bt1325.1 bt1325.2.1 bt1325.2.2) else ((laws_eqPicture.f k bt1325.1 bt1325.2.1 bt1325.2.2 bt1307.1 bt1307.2.1 bt1307.2.2).bind fun t1348 => (laws_FnExactScreenShifted.j0 k a2 a3 (!t1348) a0_0 a0_1 l0_2 a1_0 a1_1 l1_2 bt1307.1 bt1307.2.1 bt1307.2.2 bt1325.1 bt1325.2.1 bt1325.2.2))))) else (some false)))) else (some false)))) else (some false)))))))))) = some r := H
  have A12 := Aside0.mk A120
  clear A120
  by_cases c13 : t1296 < 0
  ·rw [if_pos c13] at H
   have c13b0 : decide (t1296 < 0) = true := decide_eq_true c13
   clear c13
   obtain rfl := Option.some.inj H
   go_enter Try.func21, Try.ntmps21
   go_wp2_with (first | ((with_reducible refine gate_dst (N := 4) rfl ?_); refine box_event ?hg (N := 4) ?hd (cs := #[.int .i64 a0_0, .int .i64 a0_1, .slice A0_2 l0_2.length c0_2]) (t := 55) ?hr ?_; (case hd => rfl); (case hg => rfl); (case hr => first | (go_simp; done) | (go_simp; rfl)); intro gb1293 hg w14 hbox hb; have n0_ := Aside0.mk (below_step (sW_ HB.out) hb); have n1_ := Aside0.mk (hbox); have n2_ := Aside0.mk ((by rw [hg]; exact (below_size (sW_ HB.out)) : w.heap.size ≤ gb1293)); have n3_ := Aside0.mk ((by rw [hg]; exact (below_size (sW_ HB.out)) : w.heap.size ≤ gb1293)); clear HB; have HB := n0_; have BK1293 := n1_; have GW1293 := n2_; have GE1293 := n3_; clear n0_ n1_ n2_ n3_; clear hb hbox hg) | ((with_reducible refine gate_dst (N := 5) rfl ?_); refine box_event ?hg (N := 5) ?hd (cs := #[.int .i64 a1_0, .int .i64 a1_1, .slice A1_2 l1_2.length c1_2]) (t := 48) ?hr ?_; (case hd => rfl); (case hg => rfl); (case hr => first | (go_simp; done) | (go_simp; rfl)); intro gb1294 hg w15 hbox hb; have n0_ := Aside0.mk (blk_below (sB_ BK1293.out) hb); have n1_ := Aside0.mk (below_step (sW_ HB.out) hb); have n2_ := Aside0.mk (hbox); have n3_ := Aside0.mk ((by rw [hg]; exact (below_size (sW_ HB.out)) : w.heap.size ≤ gb1294)); have n4_ := Aside0.mk ((by rw [hg]; exact (below_size (sW_ HB.out)) : w.heap.size ≤ gb1294)); have n5_ := Aside0.mk ((by rw [hg]; exact Nat.ne_of_lt (blk_lt (sB_ BK1293.out)) : gb1293 ≠ gb1294)); have n6_ := Aside0.mk ((by rw [hg]; exact Nat.ne_of_gt (blk_lt (sB_ BK1293.out)) : gb1294 ≠ gb1293)); clear BK1293; clear HB; have BK1293 := n0_; have HB := n1_; have BK1294 := n2_; have GW1294 := n3_; have GE1294 := n4_; have NB1293_1294 := n5_; have NB1294_1293 := n6_; clear n0_ n1_ n2_ n3_ n4_ n5_ n6_; clear hb hbox hg; have hnb16 := NB1293_1294.out; have hnc16 := NB1294_1293.out; have hcz17_0 : w15.cell? ⟨gb1293, 0, none⟩ = some (.int .i64 a0_0) := (blk_cell BK1293.out 0).trans rfl; have hcz17_1 : w15.cell? ⟨gb1293, 1, none⟩ = some (.int .i64 a0_1) := (blk_cell BK1293.out 1).trans rfl; have hcz17_2 : w15.cell? ⟨gb1293, 2, none⟩ = some (.slice A0_2 l0_2.length c0_2) := (blk_cell BK1293.out 2).trans rfl; have hfz17_0 := blk_frozen BK1293.out 0; have hfz17_1 := blk_frozen BK1293.out 1; have hfz17_2 := blk_frozen BK1293.out 2) | ((with_reducible refine gate_callee (f := 56) rfl ?_); refine goesL_ (some 20) rfl rfl Try.func56 (by kernel_rfl) rfl #[.agg #[.int .i64 a0_0, .int .i64 a0_1, .slice A0_2 l0_2.length c0_2], .int .i64 1048576] rfl sL_ ?_; (with_reducible refine (laws_szMatrix.calls a0_0 a0_1 _ _ l0_2 1048576 t1295 _ ?side1 ?side2 A5.out).mono ?_); (case side1 => repeat (first | exact (Kd.C_below HR0_2.out HB.out) | (with_reducible refine Kd.C_alloc ?_ _) | (with_reducible refine Kd.C_drewN ?_ _) | (with_reducible refine Kd.C_drew ?_))); (case side2 => exact HC0_2.out); rintro e w18 ⟨rfl, hb⟩; refine ⟨_, rfl, ?_⟩; have n0_ := Aside0.mk (blk_below (sB_ BK1293.out) hb); have n1_ := Aside0.mk (blk_below (sB_ BK1294.out) hb); have n2_ := Aside0.mk (below_step (sW_ HB.out) hb); clear BK1293; clear BK1294; clear HB; have BK1293 := n0_; have BK1294 := n1_; have HB := n2_; clear n0_ n1_ n2_; (try clear hb); (try clear hb2); (try clear hk); (try clear hi); have hcz19_0 : w18.cell? ⟨gb1294, 0, none⟩ = some (.int .i64 a1_0) := (blk_cell BK1294.out 0).trans rfl; have hcz19_1 : w18.cell? ⟨gb1294, 1, none⟩ = some (.int .i64 a1_1) := (blk_cell BK1294.out 1).trans rfl; have hcz19_2 : w18.cell? ⟨gb1294, 2, none⟩ = some (.slice A1_2 l1_2.length c1_2) := (blk_cell BK1294.out 2).trans rfl; have hfz19_0 := blk_frozen BK1294.out 0; have hfz19_1 := blk_frozen BK1294.out 1; have hfz19_2 := blk_frozen BK1294.out 2) | ((with_reducible refine gate_callee (f := 46) rfl ?_); refine goesL_ (some 25) rfl rfl Try.func46 (by kernel_rfl) rfl #[.agg #[.int .i64 a1_0, .int .i64 a1_1, .slice A1_2 l1_2.length c1_2], .int .i64 t1295] rfl sL_ ?_; (with_reducible refine (laws_szPicture.calls a1_0 a1_1 _ _ l1_2 t1295 t1296 _ ?side1 ?side2 A12.out).mono ?_); (case side1 => repeat (first | exact (Kd.C_below HR1_2.out HB.out) | (with_reducible refine Kd.C_alloc ?_ _) | (with_reducible refine Kd.C_drewN ?_ _) | (with_reducible refine Kd.C_drew ?_))); (case side2 => exact HC1_2.out); rintro e w20 ⟨rfl, hb⟩; refine ⟨_, rfl, ?_⟩; have n0_ := Aside0.mk (blk_below (sB_ BK1293.out) hb); have n1_ := Aside0.mk (blk_below (sB_ BK1294.out) hb); have n2_ := Aside0.mk (below_step (sW_ HB.out) hb); clear BK1293; clear BK1294; clear HB; have BK1293 := n0_; have BK1294 := n1_; have HB := n2_; clear n0_ n1_ n2_; (try clear hb); (try clear hb2); (try clear hk); (try clear hi)))
   go_ret
   exact ⟨by first | rfl | (simp [errW_none, errW_some] <;> rfl) | (simp [*, errW_none, errW_some] <;> rfl), by repeat (first | (with_reducible first | exact HB.out | apply below_alloc | apply pw_below_drewN | apply below_drew1 | refine below_set ?_ GE1293.out | refine below_set ?_ GE1294.out) | exact HB.out)⟩
  ·rw [if_neg c13] at H
   have c13b0 : decide (t1296 < 0) = false := decide_eq_false c13
   clear c13
   replace H := Option.bind_eq_some_iff.mp H
   obtain ⟨⟨t1297, t1298, t1299⟩, A210, H⟩ := H
   replace H : ((laws_toPicture.f k a1_0 a1_1 l1_2).bind fun bt1302 => ((spec_ScreenShifted.f k t1297 t1298 t1299 bt1302.1 bt1302.2.1 bt1302.2.2 a2 a3).bind fun bt1307 => ((laws_toMatrix.f k a0_0 a0_1 l0_2).bind fun bt1313 => ((laws_toPicture.f k a1_0 a1_1 l1_2).bind fun bt1319 => ((impl_ScreenShifted.f bt1313.1 bt1313.2.1 bt1313.2.2 bt1319.1 bt1319.2.1 bt1319.2.2 a2 a3).bind fun bt1325 => ((laws_eqPicture.f k bt1325.1 bt1325.2.1 bt1325.2.2 bt1307.1 bt1307.2.1 bt1307.2.2).bind fun t1331 => (if t1331 = true then ((laws_toMatrix.f k a0_0 a0_1 l0_2).bind fun bt1332 => ((laws_eqMatrix.f k bt1313.1 bt1313.2.1 bt1313.2.2 bt1332.1 bt1332.2.1 bt1332.2.2).bind fun t1337 => (if t1337 = true then ((laws_toPicture.f k a1_0 a1_1 l1_2).bind fun bt1338 => ((laws_eqPicture.f k bt1319.1 bt1319.2.1 bt1319.2.2 bt1338.1 bt1338.2.1 bt1338.2.2).bind fun t1343 => (if t1343 = true then ((laws_markMatrix.f k bt1313.1 bt1313.2.1 bt1313.2.2 1).bind fun bt1344 => ((laws_markPicture.f k bt1319.1 bt1319.2.1 bt1319.2.2 bt1344.1).bind fun bt1346 => (if bt1346.1 < 0 then (laws_FnExactScreenShifted.j0 k a2 a3 true a0_0 a0_1 l0_2 a1_0 a1_1 l1_2 bt1307.1 bt1307.2.1 bt1307.2.2 bt1325.1 bt1325.2.1 bt1325.2.2) else ((laws_eqPicture.f k bt1325.1 bt1325.2.1 bt1325.2.2 bt1307.1 bt1307.2.1 bt1307.2.2).bind fun t1348 => (laws_FnExactScreenShifted.j0 k a2 a3 (!t1348) a0_0 a0_1 l0_2 a1_0 a1_1 l1_2 bt1307.1 bt1307.2.1 bt1307.2.2 bt1325.1 bt1325.2.1 bt1325.2.2))))) else (some false)))) else (some false)))) else (some false)))))))) = some r := H
   have A21 := Aside0.mk A210
   clear A210
   replace H := Option.bind_eq_some_iff.mp H
   obtain ⟨⟨t1302, t1303, t1304⟩, A220, H⟩ := H
   replace H : ((spec_ScreenShifted.f k t1297 t1298 t1299 t1302 t1303 t1304 a2 a3).bind fun bt1307 => ((laws_toMatrix.f k a0_0 a0_1 l0_2).bind fun bt1313 => ((laws_toPicture.f k a1_0 a1_1 l1_2).bind fun bt1319 => ((impl_ScreenShifted.f bt1313.1 bt1313.2.1 bt1313.2.2 bt1319.1 bt1319.2.1 bt1319.2.2 a2 a3).bind fun bt1325 => ((laws_eqPicture.f k bt1325.1 bt1325.2.1 bt1325.2.2 bt1307.1 bt1307.2.1 bt1307.2.2).bind fun t1331 => (if t1331 = true then ((laws_toMatrix.f k a0_0 a0_1 l0_2).bind fun bt1332 => ((laws_eqMatrix.f k bt1313.1 bt1313.2.1 bt1313.2.2 bt1332.1 bt1332.2.1 bt1332.2.2).bind fun t1337 => (if t1337 = true then ((laws_toPicture.f k a1_0 a1_1 l1_2).bind fun bt1338 => ((laws_eqPicture.f k bt1319.1 bt1319.2.1 bt1319.2.2 bt1338.1 bt1338.2.1 bt1338.2.2).bind fun t1343 => (if t1343 = true then ((laws_markMatrix.f k bt1313.1 bt1313.2.1 bt1313.2.2 1).bind fun bt1344 => ((laws_markPicture.f k bt1319.1 bt1319.2.1 bt1319.2.2 bt1344.1).bind fun bt1346 => (if bt1346.1 < 0 then (laws_FnExactScreenShifted.j0 k a2 a3 true a0_0 a0_1 l0_2 a1_0 a1_1 l1_2 bt1307.1 bt1307.2.1 bt1307.2.2 bt1325.1 bt1325.2.1 bt1325.2.2) else ((laws_eqPicture.f k bt1325.1 bt1325.2.1 bt1325.2.2 bt1307.1 bt1307.2.1 bt1307.2.2).bind fun t1348 => (laws_FnExactScreenShifted.j0 k a2 a3 (!t1348) a0_0 a0_1 l0_2 a1_0 a1_1 l1_2 bt1307.1 bt1307.2.1 bt1307.2.2 bt1325.1 bt1325.2.1 bt1325.2.2))))) else (some false)))) else (some false)))) else (some false))))))) = some r := H
   have A22 := Aside0.mk A220
   clear A220
   replace H := Option.bind_eq_some_iff.mp H
   obtain ⟨⟨t1307, t1308, t1309⟩, A230, H⟩ := H
   replace H : ((laws_toMatrix.f k a0_0 a0_1 l0_2).bind fun bt1313 => ((laws_toPicture.f k a1_0 a1_1 l1_2).bind fun bt1319 => ((impl_ScreenShifted.f bt1313.1 bt1313.2.1 bt1313.2.2 bt1319.1 bt1319.2.1 bt1319.2.2 a2 a3).bind fun bt1325 => ((laws_eqPicture.f k bt1325.1 bt1325.2.1 bt1325.2.2 t1307 t1308 t1309).bind fun t1331 => (if t1331 = true then ((laws_toMatrix.f k a0_0 a0_1 l0_2).bind fun bt1332 => ((laws_eqMatrix.f k bt1313.1 bt1313.2.1 bt1313.2.2 bt1332.1 bt1332.2.1 bt1332.2.2).bind fun t1337 => (if t1337 = true then ((laws_toPicture.f k a1_0 a1_1 l1_2).bind fun bt1338 => ((laws_eqPicture.f k bt1319.1 bt1319.2.1 bt1319.2.2 bt1338.1 bt1338.2.1 bt1338.2.2).bind fun t1343 => (if t1343 = true then ((laws_markMatrix.f k bt1313.1 bt1313.2.1 bt1313.2.2 1).bind fun bt1344 => ((laws_markPicture.f k bt1319.1 bt1319.2.1 bt1319.2.2 bt1344.1).bind fun bt1346 => (if bt1346.1 < 0 then (laws_FnExactScreenShifted.j0 k a2 a3 true a0_0 a0_1 l0_2 a1_0 a1_1 l1_2 t1307 t1308 t1309 bt1325.1 bt1325.2.1 bt1325.2.2) else ((laws_eqPicture.f k bt1325.1 bt1325.2.1 bt1325.2.2 t1307 t1308 t1309).bind fun t1348 => (laws_FnExactScreenShifted.j0 k a2 a3 (!t1348) a0_0 a0_1 l0_2 a1_0 a1_1 l1_2 t1307 t1308 t1309 bt1325.1 bt1325.2.1 bt1325.2.2))))) else (some false)))) else (some false)))) else (some false)))))) = some r := H
   have A23 := Aside0.mk A230
   clear A230
   replace H := Option.bind_eq_some_iff.mp H
   obtain ⟨⟨t1313, t1314, t1315⟩, A240, H⟩ := H
   replace H : ((laws_toPicture.f k a1_0 a1_1 l1_2).bind fun bt1319 => ((impl_ScreenShifted.f t1313 t1314 t1315 bt1319.1 bt1319.2.1 bt1319.2.2 a2 a3).bind fun bt1325 => ((laws_eqPicture.f k bt1325.1 bt1325.2.1 bt1325.2.2 t1307 t1308 t1309).bind fun t1331 => (if t1331 = true then ((laws_toMatrix.f k a0_0 a0_1 l0_2).bind fun bt1332 => ((laws_eqMatrix.f k t1313 t1314 t1315 bt1332.1 bt1332.2.1 bt1332.2.2).bind fun t1337 => (if t1337 = true then ((laws_toPicture.f k a1_0 a1_1 l1_2).bind fun bt1338 => ((laws_eqPicture.f k bt1319.1 bt1319.2.1 bt1319.2.2 bt1338.1 bt1338.2.1 bt1338.2.2).bind fun t1343 => (if t1343 = true then ((laws_markMatrix.f k t1313 t1314 t1315 1).bind fun bt1344 => ((laws_markPicture.f k bt1319.1 bt1319.2.1 bt1319.2.2 bt1344.1).bind fun bt1346 => (if bt1346.1 < 0 then (laws_FnExactScreenShifted.j0 k a2 a3 true a0_0 a0_1 l0_2 a1_0 a1_1 l1_2 t1307 t1308 t1309 bt1325.1 bt1325.2.1 bt1325.2.2) else ((laws_eqPicture.f k bt1325.1 bt1325.2.1 bt1325.2.2 t1307 t1308 t1309).bind fun t1348 => (laws_FnExactScreenShifted.j0 k a2 a3 (!t1348) a0_0 a0_1 l0_2 a1_0 a1_1 l1_2 t1307 t1308 t1309 bt1325.1 bt1325.2.1 bt1325.2.2))))) else (some false)))) else (some false)))) else (some false))))) = some r := H
   have A24 := Aside0.mk A240
   clear A240
   replace H := Option.bind_eq_some_iff.mp H
   obtain ⟨⟨t1319, t1320, t1321⟩, A250, H⟩ := H
   replace H : ((impl_ScreenShifted.f t1313 t1314 t1315 t1319 t1320 t1321 a2 a3).bind fun bt1325 => ((laws_eqPicture.f k bt1325.1 bt1325.2.1 bt1325.2.2 t1307 t1308 t1309).bind fun t1331 => (if t1331 = true then ((laws_toMatrix.f k a0_0 a0_1 l0_2).bind fun bt1332 => ((laws_eqMatrix.f k t1313 t1314 t1315 bt1332.1 bt1332.2.1 bt1332.2.2).bind fun t1337 => (if t1337 = true then ((laws_toPicture.f k a1_0 a1_1 l1_2).bind fun bt1338 => ((laws_eqPicture.f k t1319 t1320 t1321 bt1338.1 bt1338.2.1 bt1338.2.2).bind fun t1343 => (if t1343 = true then ((laws_markMatrix.f k t1313 t1314 t1315 1).bind fun bt1344 => ((laws_markPicture.f k t1319 t1320 t1321 bt1344.1).bind fun bt1346 => (if bt1346.1 < 0 then (laws_FnExactScreenShifted.j0 k a2 a3 true a0_0 a0_1 l0_2 a1_0 a1_1 l1_2 t1307 t1308 t1309 bt1325.1 bt1325.2.1 bt1325.2.2) else ((laws_eqPicture.f k bt1325.1 bt1325.2.1 bt1325.2.2 t1307 t1308 t1309).bind fun t1348 => (laws_FnExactScreenShifted.j0 k a2 a3 (!t1348) a0_0 a0_1 l0_2 a1_0 a1_1 l1_2 t1307 t1308 t1309 bt1325.1 bt1325.2.1 bt1325.2.2))))) else (some false)))) else (some false)))) else (some false)))) = some r := H
   have A25 := Aside0.mk A250
   clear A250
   replace H := Option.bind_eq_some_iff.mp H
   obtain ⟨⟨t1325, t1326, t1327⟩, A260, H⟩ := H
   replace H : ((laws_eqPicture.f k t1325 t1326 t1327 t1307 t1308 t1309).bind fun t1331 => (if t1331 = true then ((laws_toMatrix.f k a0_0 a0_1 l0_2).bind fun bt1332 => ((laws_eqMatrix.f k t1313 t1314 t1315 bt1332.1 bt1332.2.1 bt1332.2.2).bind fun t1337 => (if t1337 = true then ((laws_toPicture.f k a1_0 a1_1 l1_2).bind fun bt1338 => ((laws_eqPicture.f k t1319 t1320 t1321 bt1338.1 bt1338.2.1 bt1338.2.2).bind fun t1343 => (if t1343 = true then ((laws_markMatrix.f k t1313 t1314 t1315 1).bind fun bt1344 => ((laws_markPicture.f k t1319 t1320 t1321 bt1344.1).bind fun bt1346 => (if bt1346.1 < 0 then (laws_FnExactScreenShifted.j0 k a2 a3 true a0_0 a0_1 l0_2 a1_0 a1_1 l1_2 t1307 t1308 t1309 t1325 t1326 t1327) else ((laws_eqPicture.f k t1325 t1326 t1327 t1307 t1308 t1309).bind fun t1348 => (laws_FnExactScreenShifted.j0 k a2 a3 (!t1348) a0_0 a0_1 l0_2 a1_0 a1_1 l1_2 t1307 t1308 t1309 t1325 t1326 t1327))))) else (some false)))) else (some false)))) else (some false))) = some r := H
   have A26 := Aside0.mk A260
   clear A260
   replace H := Option.bind_eq_some_iff.mp H
   obtain ⟨t1331, A270, H⟩ := H
   replace H : (if t1331 = true then ((laws_toMatrix.f k a0_0 a0_1 l0_2).bind fun bt1332 => ((laws_eqMatrix.f k t1313 t1314 t1315 bt1332.1 bt1332.2.1 bt1332.2.2).bind fun t1337 => (if t1337 = true then ((laws_toPicture.f k a1_0 a1_1 l1_2).bind fun bt1338 => ((laws_eqPicture.f k t1319 t1320 t1321 bt1338.1 bt1338.2.1 bt1338.2.2).bind fun t1343 => (if t1343 = true then ((laws_markMatrix.f k t1313 t1314 t1315 1).bind fun bt1344 => ((laws_markPicture.f k t1319 t1320 t1321 bt1344.1).bind fun bt1346 => (if bt1346.1 < 0 then (laws_FnExactScreenShifted.j0 k a2 a3 true a0_0 a0_1 l0_2 a1_0 a1_1 l1_2 t1307 t1308 t1309 t1325 t1326 t1327) else ((laws_eqPicture.f k t1325 t1326 t1327 t1307 t1308 t1309).bind fun t1348 => (laws_FnExactScreenShifted.j0 k a2 a3 (!t1348) a0_0 a0_1 l0_2 a1_0 a1_1 l1_2 t1307 t1308 t1309 t1325 t1326 t1327))))) else (some false)))) else (some false)))) else (some false)) = some r := H
   have A27 := Aside0.mk A270
   clear A270
   by_cases c28 : t1331 = true
   ·subst c28
    have H1 : ((laws_toMatrix.f k a0_0 a0_1 l0_2).bind fun bt1332 => ((laws_eqMatrix.f k t1313 t1314 t1315 bt1332.1 bt1332.2.1 bt1332.2.2).bind fun t1337 => (if t1337 = true then ((laws_toPicture.f k a1_0 a1_1 l1_2).bind fun bt1338 => ((laws_eqPicture.f k t1319 t1320 t1321 bt1338.1 bt1338.2.1 bt1338.2.2).bind fun t1343 => (if t1343 = true then ((laws_markMatrix.f k t1313 t1314 t1315 1).bind fun bt1344 => ((laws_markPicture.f k t1319 t1320 t1321 bt1344.1).bind fun bt1346 => (if bt1346.1 < 0 then (laws_FnExactScreenShifted.j0 k a2 a3 true a0_0 a0_1 l0_2 a1_0 a1_1 l1_2 t1307 t1308 t1309 t1325 t1326 t1327) else ((laws_eqPicture.f k t1325 t1326 t1327 t1307 t1308 t1309).bind fun t1348 => (laws_FnExactScreenShifted.j0 k a2 a3 (!t1348) a0_0 a0_1 l0_2 a1_0 a1_1 l1_2 t1307 t1308 t1309 t1325 t1326 t1327))))) else (some false)))) else (some false)))) = some r := by rw [if_pos rfl] at H; exact H
    clear H; have H := H1; clear H1
    replace H := Option.bind_eq_some_iff.mp H
    obtain ⟨⟨t1332, t1333, t1334⟩, A290, H⟩ := H
    replace H : ((laws_eqMatrix.f k t1313 t1314 t1315 t1332 t1333 t1334).bind fun t1337 => (if t1337 = true then ((laws_toPicture.f k a1_0 a1_1 l1_2).bind fun bt1338 => ((laws_eqPicture.f k t1319 t1320 t1321 bt1338.1 bt1338.2.1 bt1338.2.2).bind fun t1343 => (if t1343 = true then ((laws_markMatrix.f k t1313 t1314 t1315 1).bind fun bt1344 => ((laws_markPicture.f k t1319 t1320 t1321 bt1344.1).bind fun bt1346 => (if bt1346.1 < 0 then (laws_FnExactScreenShifted.j0 k a2 a3 true a0_0 a0_1 l0_2 a1_0 a1_1 l1_2 t1307 t1308 t1309 t1325 t1326 t1327) else ((laws_eqPicture.f k t1325 t1326 t1327 t1307 t1308 t1309).bind fun t1348 => (laws_FnExactScreenShifted.j0 k a2 a3 (!t1348) a0_0 a0_1 l0_2 a1_0 a1_1 l1_2 t1307 t1308 t1309 t1325 t1326 t1327))))) else (some false)))) else (some false))) = some r := H
    have A29 := Aside0.mk A290
    clear A290
    replace H := Option.bind_eq_some_iff.mp H
    obtain ⟨t1337, A300, H⟩ := H
    replace H : (if t1337 = true then ((laws_toPicture.f k a1_0 a1_1 l1_2).bind fun bt1338 => ((laws_eqPicture.f k t1319 t1320 t1321 bt1338.1 bt1338.2.1 bt1338.2.2).bind fun t1343 => (if t1343 = true then ((laws_markMatrix.f k t1313 t1314 t1315 1).bind fun bt1344 => ((laws_markPicture.f k t1319 t1320 t1321 bt1344.1).bind fun bt1346 => (if bt1346.1 < 0 then (laws_FnExactScreenShifted.j0 k a2 a3 true a0_0 a0_1 l0_2 a1_0 a1_1 l1_2 t1307 t1308 t1309 t1325 t1326 t1327) else ((laws_eqPicture.f k t1325 t1326 t1327 t1307 t1308 t1309).bind fun t1348 => (laws_FnExactScreenShifted.j0 k a2 a3 (!t1348) a0_0 a0_1 l0_2 a1_0 a1_1 l1_2 t1307 t1308 t1309 t1325 t1326 t1327))))) else (some false)))) else (some false)) = some r := H
    have A30 := Aside0.mk A300
    clear A300
    by_cases c31 : t1337 = true
    ·subst c31
     have H1 : ((laws_toPicture.f k a1_0 a1_1 l1_2).bind fun bt1338 => ((laws_eqPicture.f k t1319 t1320 t1321 bt1338.1 bt1338.2.1 bt1338.2.2).bind fun t1343 => (if t1343 = true then ((laws_markMatrix.f k t1313 t1314 t1315 1).bind fun bt1344 => ((laws_markPicture.f k t1319 t1320 t1321 bt1344.1).bind fun bt1346 => (if bt1346.1 < 0 then (laws_FnExactScreenShifted.j0 k a2 a3 true a0_0 a0_1 l0_2 a1_0 a1_1 l1_2 t1307 t1308 t1309 t1325 t1326 t1327) else ((laws_eqPicture.f k t1325 t1326 t1327 t1307 t1308 t1309).bind fun t1348 => (laws_FnExactScreenShifted.j0 k a2 a3 (!t1348) a0_0 a0_1 l0_2 a1_0 a1_1 l1_2 t1307 t1308 t1309 t1325 t1326 t1327))))) else (some false)))) = some r := by rw [if_pos rfl] at H; exact H
     clear H; have H := H1; clear H1
     replace H := Option.bind_eq_some_iff.mp H
     obtain ⟨⟨t1338, t1339, t1340⟩, A320, H⟩ := H
     replace H : ((laws_eqPicture.f k t1319 t1320 t1321 t1338 t1339 t1340).bind fun t1343 => (if t1343 = true then ((laws_markMatrix.f k t1313 t1314 t1315 1).bind fun bt1344 => ((laws_markPicture.f k t1319 t1320 t1321 bt1344.1).bind fun bt1346 => (if bt1346.1 < 0 then (laws_FnExactScreenShifted.j0 k a2 a3 true a0_0 a0_1 l0_2 a1_0 a1_1 l1_2 t1307 t1308 t1309 t1325 t1326 t1327) else ((laws_eqPicture.f k t1325 t1326 t1327 t1307 t1308 t1309).bind fun t1348 => (laws_FnExactScreenShifted.j0 k a2 a3 (!t1348) a0_0 a0_1 l0_2 a1_0 a1_1 l1_2 t1307 t1308 t1309 t1325 t1326 t1327))))) else (some false))) = some r := H
     have A32 := Aside0.mk A320
     clear A320
     replace H := Option.bind_eq_some_iff.mp H
     obtain ⟨t1343, A330, H⟩ := H
     replace H : (if t1343 = true then ((laws_markMatrix.f k t1313 t1314 t1315 1).bind fun bt1344 => ((laws_markPicture.f k t1319 t1320 t1321 bt1344.1).bind fun bt1346 => (if bt1346.1 < 0 then (laws_FnExactScreenShifted.j0 k a2 a3 true a0_0 a0_1 l0_2 a1_0 a1_1 l1_2 t1307 t1308 t1309 t1325 t1326 t1327) else ((laws_eqPicture.f k t1325 t1326 t1327 t1307 t1308 t1309).bind fun t1348 => (laws_FnExactScreenShifted.j0 k a2 a3 (!t1348) a0_0 a0_1 l0_2 a1_0 a1_1 l1_2 t1307 t1308 t1309 t1325 t1326 t1327))))) else (some false)) = some r := H
     have A33 := Aside0.mk A330
     clear A330
     by_cases c34 : t1343 = true
     ·subst c34
      have H1 : ((laws_markMatrix.f k t1313 t1314 t1315 1).bind fun bt1344 => ((laws_markPicture.f k t1319 t1320 t1321 bt1344.1).bind fun bt1346 => (if bt1346.1 < 0 then (laws_FnExactScreenShifted.j0 k a2 a3 true a0_0 a0_1 l0_2 a1_0 a1_1 l1_2 t1307 t1308 t1309 t1325 t1326 t1327) else ((laws_eqPicture.f k t1325 t1326 t1327 t1307 t1308 t1309).bind fun t1348 => (laws_FnExactScreenShifted.j0 k a2 a3 (!t1348) a0_0 a0_1 l0_2 a1_0 a1_1 l1_2 t1307 t1308 t1309 t1325 t1326 t1327))))) = some r := by rw [if_pos rfl] at H; exact H
      clear H; have H := H1; clear H1
      replace H := Option.bind_eq_some_iff.mp H
      obtain ⟨⟨t1344, t1345⟩, A350, H⟩ := H
      replace H : ((laws_markPicture.f k t1319 t1320 t1321 t1344).bind fun bt1346 => (if bt1346.1 < 0 then (laws_FnExactScreenShifted.j0 k a2 a3 true a0_0 a0_1 l0_2 a1_0 a1_1 l1_2 t1307 t1308 t1309 t1325 t1326 t1327) else ((laws_eqPicture.f k t1325 t1326 t1327 t1307 t1308 t1309).bind fun t1348 => (laws_FnExactScreenShifted.j0 k a2 a3 (!t1348) a0_0 a0_1 l0_2 a1_0 a1_1 l1_2 t1307 t1308 t1309 t1325 t1326 t1327)))) = some r := H
      have A35 := Aside0.mk A350
      clear A350
      replace H := Option.bind_eq_some_iff.mp H
      obtain ⟨⟨t1346, t1347⟩, A360, H⟩ := H
      replace H : (if t1346 < 0 then (laws_FnExactScreenShifted.j0 k a2 a3 true a0_0 a0_1 l0_2 a1_0 a1_1 l1_2 t1307 t1308 t1309 t1325 t1326 t1327) else ((laws_eqPicture.f k t1325 t1326 t1327 t1307 t1308 t1309).bind fun t1348 => (laws_FnExactScreenShifted.j0 k a2 a3 (!t1348) a0_0 a0_1 l0_2 a1_0 a1_1 l1_2 t1307 t1308 t1309 t1325 t1326 t1327))) = some r := H
      have A36 := Aside0.mk A360
      clear A360
      have HC37 := Aside0.mk H
      clear H
      go_enter Try.func21, Try.ntmps21
      try go_wp2_with (first | ((with_reducible refine gate_dst (N := 4) rfl ?_); refine box_event ?hg (N := 4) ?hd (cs := #[.int .i64 a0_0, .int .i64 a0_1, .slice A0_2 l0_2.length c0_2]) (t := 55) ?hr ?_; (case hd => rfl); (case hg => rfl); (case hr => first | (go_simp; done) | (go_simp; rfl)); intro gb1293 hg w38 hbox hb; have n0_ := Aside0.mk (below_step (sW_ HB.out) hb); have n1_ := Aside0.mk (hbox); have n2_ := Aside0.mk ((by rw [hg]; exact (below_size (sW_ HB.out)) : w.heap.size ≤ gb1293)); have n3_ := Aside0.mk ((by rw [hg]; exact (below_size (sW_ HB.out)) : w.heap.size ≤ gb1293)); clear HB; have HB := n0_; have BK1293 := n1_; have GW1293 := n2_; have GE1293 := n3_; clear n0_ n1_ n2_ n3_; clear hb hbox hg) | ((with_reducible refine gate_dst (N := 5) rfl ?_); refine box_event ?hg (N := 5) ?hd (cs := #[.int .i64 a1_0, .int .i64 a1_1, .slice A1_2 l1_2.length c1_2]) (t := 48) ?hr ?_; (case hd => rfl); (case hg => rfl); (case hr => first | (go_simp; done) | (go_simp; rfl)); intro gb1294 hg w39 hbox hb; have n0_ := Aside0.mk (blk_below (sB_ BK1293.out) hb); have n1_ := Aside0.mk (below_step (sW_ HB.out) hb); have n2_ := Aside0.mk (hbox); have n3_ := Aside0.mk ((by rw [hg]; exact (below_size (sW_ HB.out)) : w.heap.size ≤ gb1294)); have n4_ := Aside0.mk ((by rw [hg]; exact (below_size (sW_ HB.out)) : w.heap.size ≤ gb1294)); have n5_ := Aside0.mk ((by rw [hg]; exact Nat.ne_of_lt (blk_lt (sB_ BK1293.out)) : gb1293 ≠ gb1294)); have n6_ := Aside0.mk ((by rw [hg]; exact Nat.ne_of_gt (blk_lt (sB_ BK1293.out)) : gb1294 ≠ gb1293)); clear BK1293; clear HB; have BK1293 := n0_; have HB := n1_; have BK1294 := n2_; have GW1294 := n3_; have GE1294 := n4_; have NB1293_1294 := n5_; have NB1294_1293 := n6_; clear n0_ n1_ n2_ n3_ n4_ n5_ n6_; clear hb hbox hg; have hnb40 := NB1293_1294.out; have hnc40 := NB1294_1293.out; have hcz41_0 : w39.cell? ⟨gb1293, 0, none⟩ = some (.int .i64 a0_0) := (blk_cell BK1293.out 0).trans rfl; have hcz41_1 : w39.cell? ⟨gb1293, 1, none⟩ = some (.int .i64 a0_1) := (blk_cell BK1293.out 1).trans rfl; have hcz41_2 : w39.cell? ⟨gb1293, 2, none⟩ = some (.slice A0_2 l0_2.length c0_2) := (blk_cell BK1293.out 2).trans rfl; have hfz41_0 := blk_frozen BK1293.out 0; have hfz41_1 := blk_frozen BK1293.out 1; have hfz41_2 := blk_frozen BK1293.out 2) | ((with_reducible refine gate_callee (f := 56) rfl ?_); refine goesL_ (some 20) rfl rfl Try.func56 (by kernel_rfl) rfl #[.agg #[.int .i64 a0_0, .int .i64 a0_1, .slice A0_2 l0_2.length c0_2], .int .i64 1048576] rfl sL_ ?_; (with_reducible refine (laws_szMatrix.calls a0_0 a0_1 _ _ l0_2 1048576 t1295 _ ?side1 ?side2 A5.out).mono ?_); (case side1 => repeat (first | exact (Kd.C_below HR0_2.out HB.out) | (with_reducible refine Kd.C_alloc ?_ _) | (with_reducible refine Kd.C_drewN ?_ _) | (with_reducible refine Kd.C_drew ?_))); (case side2 => exact HC0_2.out); rintro e w42 ⟨rfl, hb⟩; refine ⟨_, rfl, ?_⟩; have n0_ := Aside0.mk (blk_below (sB_ BK1293.out) hb); have n1_ := Aside0.mk (blk_below (sB_ BK1294.out) hb); have n2_ := Aside0.mk (below_step (sW_ HB.out) hb); clear BK1293; clear BK1294; clear HB; have BK1293 := n0_; have BK1294 := n1_; have HB := n2_; clear n0_ n1_ n2_; (try clear hb); (try clear hb2); (try clear hk); (try clear hi); have hcz43_0 : w42.cell? ⟨gb1294, 0, none⟩ = some (.int .i64 a1_0) := (blk_cell BK1294.out 0).trans rfl; have hcz43_1 : w42.cell? ⟨gb1294, 1, none⟩ = some (.int .i64 a1_1) := (blk_cell BK1294.out 1).trans rfl; have hcz43_2 : w42.cell? ⟨gb1294, 2, none⟩ = some (.slice A1_2 l1_2.length c1_2) := (blk_cell BK1294.out 2).trans rfl; have hfz43_0 := blk_frozen BK1294.out 0; have hfz43_1 := blk_frozen BK1294.out 1; have hfz43_2 := blk_frozen BK1294.out 2) | ((with_reducible refine gate_callee (f := 46) rfl ?_); refine goesL_ (some 25) rfl rfl Try.func46 (by kernel_rfl) rfl #[.agg #[.int .i64 a1_0, .int .i64 a1_1, .slice A1_2 l1_2.length c1_2], .int .i64 t1295] rfl sL_ ?_; (with_reducible refine (laws_szPicture.calls a1_0 a1_1 _ _ l1_2 t1295 t1296 _ ?side1 ?side2 A12.out).mono ?_); (case side1 => repeat (first | exact (Kd.C_below HR1_2.out HB.out) | (with_reducible refine Kd.C_alloc ?_ _) | (with_reducible refine Kd.C_drewN ?_ _) | (with_reducible refine Kd.C_drew ?_))); (case side2 => exact HC1_2.out); rintro e w44 ⟨rfl, hb⟩; refine ⟨_, rfl, ?_⟩; have n0_ := Aside0.mk (blk_below (sB_ BK1293.out) hb); have n1_ := Aside0.mk (blk_below (sB_ BK1294.out) hb); have n2_ := Aside0.mk (below_step (sW_ HB.out) hb); clear BK1293; clear BK1294; clear HB; have BK1293 := n0_; have BK1294 := n1_; have HB := n2_; clear n0_ n1_ n2_; (try clear hb); (try clear hb2); (try clear hk); (try clear hi)))
      have n0_ := Aside0.mk (blk_drew BK1293.out)
      have n1_ := Aside0.mk (blk_drew BK1294.out)
      have n2_ := Aside0.mk (below_drew1 HB.out)
      clear BK1293 BK1294 HB; have BK1293 := n0_; have BK1294 := n1_; have HB := n2_; clear n0_ n1_ n2_
      refine start_ (n := 9) (S := fun w' => w'.cell? ⟨gb1293, 0, none⟩ = some (.int .i64 a0_0) ∧ w'.cell? ⟨gb1293, 1, none⟩ = some (.int .i64 a0_1) ∧ w'.cell? ⟨gb1293, 2, none⟩ = some (.slice A0_2 l0_2.length c0_2) ∧ w'.cell? ⟨gb1294, 0, none⟩ = some (.int .i64 a1_0) ∧ w'.cell? ⟨gb1294, 1, none⟩ = some (.int .i64 a1_1) ∧ w'.cell? ⟨gb1294, 2, none⟩ = some (.slice A1_2 l1_2.length c1_2)) (ds := []) #[false, false, false, false, false, false, false, false, false] (by kernel_rfl) rfl rfl ⟨(blk_cell BK1293.out 0).trans rfl, (blk_cell BK1293.out 1).trans rfl, (blk_cell BK1293.out 2).trans rfl, (blk_cell BK1294.out 0).trans rfl, (blk_cell BK1294.out 1).trans rfl, (blk_cell BK1294.out 2).trans rfl⟩ (fun hHeld => ?_); refine with_tabW laws_FnExactScreenShifted.tab8 laws_FnExactScreenShifted.bits8 (fun HT_ HW_ => ?_)
      generalize w44.drew = w45 at BK1293 BK1294 HB hHeld ⊢
      refine pure_ (i := 4) (N := some 32) (v := ?_) (a' := ?_) #[false, false, false, false, true, false, false, false, false] rfl rfl (any_of HT_.out (by kernel_rfl)) (fun _ _ _ h => h) (Or.inl ⟨by rfl, ?_⟩) ?_ ?_
      rotate_left
      ·intro w'
       go_simp
       with_reducible rfl
      rotate_left
      ·simp only [Act.put, List.setIfInBounds_toArray, List.set_cons_zero, List.set_cons_succ, i64_w, i32_w]
       rfl
      refine pure_ (i := 5) (N := some 33) (v := ?_) (a' := ?_) #[false, false, false, false, true, true, false, false, false] rfl rfl (any_of HT_.out (by kernel_rfl)) (fun _ _ _ h => h) (Or.inl ⟨by rfl, ?_⟩) ?_ ?_
      rotate_left
      ·intro w'
       go_simp
       with_reducible rfl
      rotate_left
      ·simp only [Act.put, List.setIfInBounds_toArray, List.set_cons_zero, List.set_cons_succ, i64_w, i32_w]
       rfl
      refine take_ (i := 0) (N := some 28) (v := ?_) (a' := ?_) #[true, false, false, false, true, true, false, false, false] rfl rfl (take_ofW HT_.out HW_.out (by kernel_rfl)) (fun _ _ _ h => h) (Or.inl ⟨by rfl, ?_⟩) hHeld ?_ ?_
      rotate_left
      ·rintro w' ⟨s0, s1, s2, s3, s4, s5⟩
       go_simp
       with_reducible rfl
      rotate_left
      ·simp only [Act.put, List.setIfInBounds_toArray, List.set_cons_zero, List.set_cons_succ, i64_w, i32_w]
       rfl
      refine take_ (i := 2) (N := some 30) (v := ?_) (a' := ?_) #[true, false, true, false, true, true, false, false, false] rfl rfl (take_ofW HT_.out HW_.out (by kernel_rfl)) (fun _ _ _ h => h) (Or.inl ⟨by rfl, ?_⟩) hHeld ?_ ?_
      rotate_left
      ·rintro w' ⟨s0, s1, s2, s3, s4, s5⟩
       go_simp
       with_reducible rfl
      rotate_left
      ·simp only [Act.put, List.setIfInBounds_toArray, List.set_cons_zero, List.set_cons_succ, i64_w, i32_w]
       rfl
      refine join_ (σ := Value × Value × Value × Nat) 1 #[true, true, true, true, true, true, true, true, false] (fun s_ => [(29, .agg #[.int .i64 t1297, .int .i64 t1298, s_.1]), (31, .agg #[.int .i64 t1302, .int .i64 t1303, s_.2.1]), (34, .agg #[.int .i64 t1307, .int .i64 t1308, s_.2.2.1]), (10, .pointer (some ⟨s_.2.2.2, 0, none⟩))]) (fun s_ w' => (w'.cell? ⟨gb1293, 0, none⟩ = some (.int .i64 a0_0) ∧ w'.cell? ⟨gb1293, 1, none⟩ = some (.int .i64 a0_1) ∧ w'.cell? ⟨gb1293, 2, none⟩ = some (.slice A0_2 l0_2.length c0_2) ∧ w'.cell? ⟨gb1294, 0, none⟩ = some (.int .i64 a1_0) ∧ w'.cell? ⟨gb1294, 1, none⟩ = some (.int .i64 a1_1) ∧ w'.cell? ⟨gb1294, 2, none⟩ = some (.slice A1_2 l1_2.length c1_2)) ∧ (Kd.R (Kd.int .i64) 3 w' w.heap.size (fun k_ => some k_ ≠ (s_.2.1 : Value).ownBlock ∧ some k_ ≠ (s_.2.2.1 : Value).ownBlock) s_.1 t1299) ∧ (Kd.R (Kd.int .i64) 3 w' w.heap.size (fun k_ => some k_ ≠ (s_.1 : Value).ownBlock ∧ some k_ ≠ (s_.2.2.1 : Value).ownBlock) s_.2.1 t1304) ∧ (Kd.R (Kd.int .i64) 3 w' w.heap.size (fun k_ => some k_ ≠ (s_.1 : Value).ownBlock ∧ some k_ ≠ (s_.2.1 : Value).ownBlock) s_.2.2.1 t1309) ∧ (w'.heap[gb1293]? = some (.cells #[.int .i64 a0_0, .int .i64 a0_1, .slice A0_2 l0_2.length c0_2] 55 (0, 0))) ∧ (w'.heap[gb1294]? = some (.cells #[.int .i64 a1_0, .int .i64 a1_1, .slice A1_2 l1_2.length c1_2] 48 (0, 0))) ∧ (w'.heap[s_.2.2.2]? = some (.cells #[.int .i64 0, .int .i64 0, .slice none 0 0] 41 (0, 0))) ∧ (w.heap.size ≤ s_.2.2.2) ∧ (w.heap.size ≤ s_.2.2.2) ∧ (gb1293 ≠ s_.2.2.2) ∧ (s_.2.2.2 ≠ gb1293) ∧ (gb1294 ≠ s_.2.2.2) ∧ (s_.2.2.2 ≠ gb1294) ∧ (Below w.heap.size w w')) ?_ ?_
      rotate_left
      ·intro hCont
       refine two_ (i := 1) (j := 7) (Ni := some 29) (Nj := some 10) #[true, true, true, false, true, true, false, false, false] #[true, false, true, false, true, true, false, true, false] rfl rfl rfl rfl (two_of HT_.out (by kernel_rfl)) (by decide) (by decide) (fun K hK => ?_) (fun K hK => ?_)
       ·skip
        refine goes_ Try.func58 (by kernel_rfl) rfl #[.agg #[.int .i64 a0_0, .int .i64 a0_1, .slice A0_2 l0_2.length c0_2]] (by rfl) rfl rfl sL_ ?_
        with_reducible refine (laws_toMatrix.calls k a0_0 a0_1 _ _ l0_2 t1297 t1298 t1299 _ ?side1 ?side2 A21.out).mono ?_
        (case side1 => repeat (first | exact (Kd.C_below HR0_2.out HB.out) | (with_reducible refine Kd.C_alloc ?_ _) | (with_reducible refine Kd.C_drewN ?_ _) | (with_reducible refine Kd.C_drew ?_)))
        (case side2 => exact HC0_2.out)
        rintro e w46 ⟨v1300, rfl, ho0, hb⟩
        refine ⟨_, rfl, ?_⟩
        have n0_ := Aside0.mk (Kd.R_lower ho0 (below_size (sW_ HB.out)))
        have n1_ := Aside0.mk (blk_below (sB_ BK1293.out) hb)
        have n2_ := Aside0.mk (blk_below (sB_ BK1294.out) hb)
        have n3_ := Aside0.mk (below_step (sW_ HB.out) hb)
        clear BK1293 BK1294 HB; have HO1301 := n0_; have BK1293 := n1_; have BK1294 := n2_; have HB := n3_; clear n0_ n1_ n2_ n3_
        (try clear hb)
        (try clear hb2)
        (try clear hk)
        (try clear hi)
        (try clear ho0)
        refine hK.out _ _ ⟨(blk_cell BK1293.out 0).trans rfl, (blk_cell BK1293.out 1).trans rfl, (blk_cell BK1293.out 2).trans rfl, (blk_cell BK1294.out 0).trans rfl, (blk_cell BK1294.out 1).trans rfl, (blk_cell BK1294.out 2).trans rfl⟩ (fun hHeld => ?_)
        clear hK K
        refine norm_ (a' := ?_) ?_ ?_
        rotate_left
        ·show Act.put _ (some 29) _ = _
         simp only [Act.put, List.setIfInBounds_toArray, List.set_cons_zero, List.set_cons_succ, i64_w, i32_w]
         rfl
        refine two_ (i := 3) (j := 7) (Ni := some 31) (Nj := some 10) #[true, true, true, true, true, true, false, false, false] #[true, true, true, false, true, true, false, true, false] rfl rfl rfl rfl (two_of HT_.out (by kernel_rfl)) (by decide) (by decide) (fun K hK => ?_) (fun K hK => ?_)
        ·skip
         refine goes_ Try.func48 (by kernel_rfl) rfl #[.agg #[.int .i64 a1_0, .int .i64 a1_1, .slice A1_2 l1_2.length c1_2]] (by rfl) rfl rfl sL_ ?_
         with_reducible refine (laws_toPicture.calls k a1_0 a1_1 _ _ l1_2 t1302 t1303 t1304 _ ?side1 ?side2 A22.out).mono ?_
         (case side1 => repeat (first | exact (Kd.C_below HR1_2.out HB.out) | (with_reducible refine Kd.C_alloc ?_ _) | (with_reducible refine Kd.C_drewN ?_ _) | (with_reducible refine Kd.C_drew ?_)))
         (case side2 => exact HC1_2.out)
         rintro e w47 ⟨v1305, rfl, ho0, hb⟩
         refine ⟨_, rfl, ?_⟩
         have n0_ := Aside0.mk (Kd.R_elder' (sR_ HO1301.out) (Kd.R_base ho0) hb)
         have n1_ := Aside0.mk (Kd.R_lower (Kd.R_new' ho0 (Kd.R_lt (sR_ HO1301.out))) (below_size (sW_ HB.out)))
         have n2_ := Aside0.mk (blk_below (sB_ BK1293.out) hb)
         have n3_ := Aside0.mk (blk_below (sB_ BK1294.out) hb)
         have n4_ := Aside0.mk (below_step (sW_ HB.out) hb)
         clear HO1301 BK1293 BK1294 HB; have HO1301 := n0_; have HO1306 := n1_; have BK1293 := n2_; have BK1294 := n3_; have HB := n4_; clear n0_ n1_ n2_ n3_ n4_
         (try clear hb)
         (try clear hb2)
         (try clear hk)
         (try clear hi)
         (try clear ho0)
         obtain ⟨Ao48, co48, eo48⟩ := Kd.R_slice HO1301.out
         (first | subst eo48 | (injection eo48 with f1_ f2_ f3_; have f4_ := f1_.symm; have f5_ := f3_.symm; clear f1_ f2_ f3_; subst f4_; subst f5_))
         obtain ⟨Ao49, co49, eo49⟩ := Kd.R_slice HO1306.out
         (first | subst eo49 | (injection eo49 with f1_ f2_ f3_; have f4_ := f1_.symm; have f5_ := f3_.symm; clear f1_ f2_ f3_; subst f4_; subst f5_))
         refine hK.out _ _ ⟨(blk_cell BK1293.out 0).trans rfl, (blk_cell BK1293.out 1).trans rfl, (blk_cell BK1293.out 2).trans rfl, (blk_cell BK1294.out 0).trans rfl, (blk_cell BK1294.out 1).trans rfl, (blk_cell BK1294.out 2).trans rfl⟩ (fun hHeld => ?_)
         clear hK K
         refine norm_ (a' := ?_) ?_ ?_
         rotate_left
         ·show Act.put _ (some 31) _ = _
          simp only [Act.put, List.setIfInBounds_toArray, List.set_cons_zero, List.set_cons_succ, i64_w, i32_w]
          rfl
         refine two_ (i := 6) (j := 7) (Ni := some 34) (Nj := some 10) #[true, true, true, true, true, true, true, false, false] #[true, true, true, true, true, true, false, true, false] rfl rfl rfl rfl (two_of HT_.out (by kernel_rfl)) (by decide) (by decide) (fun K hK => ?_) (fun K hK => ?_)
         ·skip
          refine goes_ Try.func77 (by kernel_rfl) rfl #[.agg #[.int .i64 t1297, .int .i64 t1298, .slice Ao48 t1299.length co48], .agg #[.int .i64 t1302, .int .i64 t1303, .slice Ao49 t1304.length co49], .int .i64 a2, .int .i64 a3] (by rfl) rfl rfl sL_ ?_
          with_reducible refine (spec_ScreenShifted.calls k t1297 t1298 _ _ t1299 t1302 t1303 _ _ t1304 a2 a3 t1307 t1308 t1309 _ ?side1 ?side2 ?side3 ?side4 A23.out).mono ?_
          (case side1 => repeat (first | exact (Kd.R_reads' HO1301.out).2.2 | (with_reducible refine Kd.C_alloc ?_ _) | (with_reducible refine Kd.C_drewN ?_ _) | (with_reducible refine Kd.C_drew ?_)))
          (case side2 => exact (Kd.R_reads' HO1301.out).2.1)
          (case side3 => repeat (first | exact (Kd.R_reads' HO1306.out).2.2 | (with_reducible refine Kd.C_alloc ?_ _) | (with_reducible refine Kd.C_drewN ?_ _) | (with_reducible refine Kd.C_drew ?_)))
          (case side4 => exact (Kd.R_reads' HO1306.out).2.1)
          rintro e w50 ⟨v1310, rfl, ho0, hb⟩
          refine ⟨_, rfl, ?_⟩
          have n0_ := Aside0.mk (Kd.R_elder' (sR_ HO1301.out) (Kd.R_base ho0) hb)
          have n1_ := Aside0.mk (Kd.R_elder' (sR_ HO1306.out) (Kd.R_base ho0) hb)
          have n2_ := Aside0.mk (Kd.R_lower (Kd.R_new' (Kd.R_new' ho0 (Kd.R_lt (sR_ HO1301.out))) (Kd.R_lt (sR_ HO1306.out))) (below_size (sW_ HB.out)))
          have n3_ := Aside0.mk (blk_below (sB_ BK1293.out) hb)
          have n4_ := Aside0.mk (blk_below (sB_ BK1294.out) hb)
          have n5_ := Aside0.mk (below_step (sW_ HB.out) hb)
          clear HO1301 HO1306 BK1293 BK1294 HB; have HO1301 := n0_; have HO1306 := n1_; have HO1311 := n2_; have BK1293 := n3_; have BK1294 := n4_; have HB := n5_; clear n0_ n1_ n2_ n3_ n4_ n5_
          (try clear hb)
          (try clear hb2)
          (try clear hk)
          (try clear hi)
          (try clear ho0)
          refine hK.out _ _ ⟨(blk_cell BK1293.out 0).trans rfl, (blk_cell BK1293.out 1).trans rfl, (blk_cell BK1293.out 2).trans rfl, (blk_cell BK1294.out 0).trans rfl, (blk_cell BK1294.out 1).trans rfl, (blk_cell BK1294.out 2).trans rfl⟩ (fun hHeld => ?_)
          clear hK K
          refine norm_ (a' := ?_) ?_ ?_
          rotate_left
          ·show Act.put _ (some 34) _ = _
           simp only [Act.put, List.setIfInBounds_toArray, List.set_cons_zero, List.set_cons_succ, i64_w, i32_w]
           rfl
          refine one_ (i := 7) (N := some 10) #[true, true, true, true, true, true, true, true, false] rfl rfl (one_of HT_.out (by kernel_rfl)) (by decide) (fun K hK => ?_)
          refine box_step ?hg (N := 10) ?hd (cs := #[.int .i64 0, .int .i64 0, .slice none 0 0]) (t := 41) ?hr ?_; (case hd => rfl); (case hg => rfl); (case hr => first | (go_simp; done) | (go_simp; rfl))
          intro gb1312 hg w51 hbox hb
          have n0_ := Aside0.mk (Kd.R_below (sR_ HO1301.out) hb)
          have n1_ := Aside0.mk (Kd.R_below (sR_ HO1306.out) hb)
          have n2_ := Aside0.mk (Kd.R_below (sR_ HO1311.out) hb)
          have n3_ := Aside0.mk (blk_below (sB_ BK1293.out) hb)
          have n4_ := Aside0.mk (blk_below (sB_ BK1294.out) hb)
          have n5_ := Aside0.mk (below_step (sW_ HB.out) hb)
          have n6_ := Aside0.mk (hbox)
          have n7_ := Aside0.mk ((by rw [hg]; exact (below_size (sW_ HB.out)) : w.heap.size ≤ gb1312))
          have n8_ := Aside0.mk ((by rw [hg]; exact (below_size (sW_ HB.out)) : w.heap.size ≤ gb1312))
          have n9_ := Aside0.mk ((by rw [hg]; exact Nat.ne_of_lt (blk_lt (sB_ BK1293.out)) : gb1293 ≠ gb1312))
          have n10_ := Aside0.mk ((by rw [hg]; exact Nat.ne_of_gt (blk_lt (sB_ BK1293.out)) : gb1312 ≠ gb1293))
          have n11_ := Aside0.mk ((by rw [hg]; exact Nat.ne_of_lt (blk_lt (sB_ BK1294.out)) : gb1294 ≠ gb1312))
          have n12_ := Aside0.mk ((by rw [hg]; exact Nat.ne_of_gt (blk_lt (sB_ BK1294.out)) : gb1312 ≠ gb1294))
          clear HO1301 HO1306 HO1311 BK1293 BK1294 HB; have HO1301 := n0_; have HO1306 := n1_; have HO1311 := n2_; have BK1293 := n3_; have BK1294 := n4_; have HB := n5_; have BK1312 := n6_; have GW1312 := n7_; have GE1312 := n8_; have NB1293_1312 := n9_; have NB1312_1293 := n10_; have NB1294_1312 := n11_; have NB1312_1294 := n12_; clear n0_ n1_ n2_ n3_ n4_ n5_ n6_ n7_ n8_ n9_ n10_ n11_ n12_ hb hbox hg
          refine hK.out _ _ ⟨(blk_cell BK1293.out 0).trans rfl, (blk_cell BK1293.out 1).trans rfl, (blk_cell BK1293.out 2).trans rfl, (blk_cell BK1294.out 0).trans rfl, (blk_cell BK1294.out 1).trans rfl, (blk_cell BK1294.out 2).trans rfl⟩ (fun hHeld => ?_)
          clear hK K
          refine norm_ (a' := ?_) ?_ ?_
          rotate_left
          ·show Act.put _ (some 10) _ = _
           simp only [Act.put, List.setIfInBounds_toArray, List.set_cons_zero, List.set_cons_succ, i64_w, i32_w]
           rfl
          exact norm_ sP_ (hCont (.slice Ao48 t1299.length co48, .slice Ao49 t1304.length co49, v1310, gb1312) _ ⟨hHeld, (by (with_reducible repeat (first | apply Kd.R_alloc | apply Kd.R_drewN | apply Kd.R_drew)); exact Kd.R_mono HO1301.out (fun _ hk => ⟨hk.1.2, hk.2⟩)), (by (with_reducible repeat (first | apply Kd.R_alloc | apply Kd.R_drewN | apply Kd.R_drew)); exact Kd.R_mono HO1306.out (fun _ hk => ⟨hk.1.2, hk.2⟩)), (by (with_reducible repeat (first | apply Kd.R_alloc | apply Kd.R_drewN | apply Kd.R_drew)); exact Kd.R_mono HO1311.out (fun _ hk => ⟨hk.1.2, hk.2⟩)), (sB_ BK1293.out), (sB_ BK1294.out), (sB_ BK1312.out), GW1312.out, GE1312.out, NB1293_1312.out, NB1312_1293.out, NB1294_1312.out, NB1312_1294.out, (sW_ HB.out)⟩)
         ·skip
          refine box_step ?hg (N := 10) ?hd (cs := #[.int .i64 0, .int .i64 0, .slice none 0 0]) (t := 41) ?hr ?_; (case hd => rfl); (case hg => rfl); (case hr => first | (go_simp; done) | (go_simp; rfl))
          intro gb1312 hg w48 hbox hb
          have n0_ := Aside0.mk (Kd.R_below (sR_ HO1301.out) hb)
          have n1_ := Aside0.mk (Kd.R_below (sR_ HO1306.out) hb)
          have n2_ := Aside0.mk (blk_below (sB_ BK1293.out) hb)
          have n3_ := Aside0.mk (blk_below (sB_ BK1294.out) hb)
          have n4_ := Aside0.mk (below_step (sW_ HB.out) hb)
          have n5_ := Aside0.mk (hbox)
          have n6_ := Aside0.mk ((by rw [hg]; exact (below_size (sW_ HB.out)) : w.heap.size ≤ gb1312))
          have n7_ := Aside0.mk ((by rw [hg]; exact (below_size (sW_ HB.out)) : w.heap.size ≤ gb1312))
          have n8_ := Aside0.mk ((by rw [hg]; exact Nat.ne_of_lt (blk_lt (sB_ BK1293.out)) : gb1293 ≠ gb1312))
          have n9_ := Aside0.mk ((by rw [hg]; exact Nat.ne_of_gt (blk_lt (sB_ BK1293.out)) : gb1312 ≠ gb1293))
          have n10_ := Aside0.mk ((by rw [hg]; exact Nat.ne_of_lt (blk_lt (sB_ BK1294.out)) : gb1294 ≠ gb1312))
          have n11_ := Aside0.mk ((by rw [hg]; exact Nat.ne_of_gt (blk_lt (sB_ BK1294.out)) : gb1312 ≠ gb1294))
          clear HO1301 HO1306 BK1293 BK1294 HB; have HO1301 := n0_; have HO1306 := n1_; have BK1293 := n2_; have BK1294 := n3_; have HB := n4_; have BK1312 := n5_; have GW1312 := n6_; have GE1312 := n7_; have NB1293_1312 := n8_; have NB1312_1293 := n9_; have NB1294_1312 := n10_; have NB1312_1294 := n11_; clear n0_ n1_ n2_ n3_ n4_ n5_ n6_ n7_ n8_ n9_ n10_ n11_ hb hbox hg
          obtain ⟨Ao49, co49, eo49⟩ := Kd.R_slice HO1301.out
          (first | subst eo49 | (injection eo49 with f1_ f2_ f3_; have f4_ := f1_.symm; have f5_ := f3_.symm; clear f1_ f2_ f3_; subst f4_; subst f5_))
          obtain ⟨Ao50, co50, eo50⟩ := Kd.R_slice HO1306.out
          (first | subst eo50 | (injection eo50 with f1_ f2_ f3_; have f4_ := f1_.symm; have f5_ := f3_.symm; clear f1_ f2_ f3_; subst f4_; subst f5_))
          refine hK.out _ _ ⟨(blk_cell BK1293.out 0).trans rfl, (blk_cell BK1293.out 1).trans rfl, (blk_cell BK1293.out 2).trans rfl, (blk_cell BK1294.out 0).trans rfl, (blk_cell BK1294.out 1).trans rfl, (blk_cell BK1294.out 2).trans rfl⟩ (fun hHeld => ?_)
          clear hK K
          refine norm_ (a' := ?_) ?_ ?_
          rotate_left
          ·show Act.put _ (some 10) _ = _
           simp only [Act.put, List.setIfInBounds_toArray, List.set_cons_zero, List.set_cons_succ, i64_w, i32_w]
           rfl
          refine one_ (i := 6) (N := some 34) #[true, true, true, true, true, true, true, true, false] rfl rfl (one_of HT_.out (by kernel_rfl)) (by decide) (fun K hK => ?_)
          refine goes_ Try.func77 (by kernel_rfl) rfl #[.agg #[.int .i64 t1297, .int .i64 t1298, .slice Ao49 t1299.length co49], .agg #[.int .i64 t1302, .int .i64 t1303, .slice Ao50 t1304.length co50], .int .i64 a2, .int .i64 a3] (by rfl) rfl rfl sL_ ?_
          with_reducible refine (spec_ScreenShifted.calls k t1297 t1298 _ _ t1299 t1302 t1303 _ _ t1304 a2 a3 t1307 t1308 t1309 _ ?side1 ?side2 ?side3 ?side4 A23.out).mono ?_
          (case side1 => repeat (first | exact (Kd.R_reads' HO1301.out).2.2 | (with_reducible refine Kd.C_alloc ?_ _) | (with_reducible refine Kd.C_drewN ?_ _) | (with_reducible refine Kd.C_drew ?_)))
          (case side2 => exact (Kd.R_reads' HO1301.out).2.1)
          (case side3 => repeat (first | exact (Kd.R_reads' HO1306.out).2.2 | (with_reducible refine Kd.C_alloc ?_ _) | (with_reducible refine Kd.C_drewN ?_ _) | (with_reducible refine Kd.C_drew ?_)))
          (case side4 => exact (Kd.R_reads' HO1306.out).2.1)
          rintro e w51 ⟨v1310, rfl, ho0, hb⟩
          refine ⟨_, rfl, ?_⟩
          have n0_ := Aside0.mk (Kd.R_elder' (sR_ HO1301.out) (Kd.R_base ho0) hb)
          have n1_ := Aside0.mk (Kd.R_elder' (sR_ HO1306.out) (Kd.R_base ho0) hb)
          have n2_ := Aside0.mk (Kd.R_lower (Kd.R_new' (Kd.R_new' ho0 (Kd.R_lt (sR_ HO1301.out))) (Kd.R_lt (sR_ HO1306.out))) (below_size (sW_ HB.out)))
          have n3_ := Aside0.mk (blk_below (sB_ BK1293.out) hb)
          have n4_ := Aside0.mk (blk_below (sB_ BK1294.out) hb)
          have n5_ := Aside0.mk (blk_below (sB_ BK1312.out) hb)
          have n6_ := Aside0.mk (below_step (sW_ HB.out) hb)
          clear HO1301 HO1306 BK1293 BK1294 BK1312 HB; have HO1301 := n0_; have HO1306 := n1_; have HO1311 := n2_; have BK1293 := n3_; have BK1294 := n4_; have BK1312 := n5_; have HB := n6_; clear n0_ n1_ n2_ n3_ n4_ n5_ n6_
          (try clear hb)
          (try clear hb2)
          (try clear hk)
          (try clear hi)
          (try clear ho0)
          refine hK.out _ _ ⟨(blk_cell BK1293.out 0).trans rfl, (blk_cell BK1293.out 1).trans rfl, (blk_cell BK1293.out 2).trans rfl, (blk_cell BK1294.out 0).trans rfl, (blk_cell BK1294.out 1).trans rfl, (blk_cell BK1294.out 2).trans rfl⟩ (fun hHeld => ?_)
          clear hK K
          refine norm_ (a' := ?_) ?_ ?_
          rotate_left
          ·show Act.put _ (some 34) _ = _
           simp only [Act.put, List.setIfInBounds_toArray, List.set_cons_zero, List.set_cons_succ, i64_w, i32_w]
           rfl
          exact norm_ sP_ (hCont (.slice Ao49 t1299.length co49, .slice Ao50 t1304.length co50, v1310, gb1312) _ ⟨hHeld, (by (with_reducible repeat (first | apply Kd.R_alloc | apply Kd.R_drewN | apply Kd.R_drew)); exact Kd.R_mono HO1301.out (fun _ hk => ⟨hk.1.2, hk.2⟩)), (by (with_reducible repeat (first | apply Kd.R_alloc | apply Kd.R_drewN | apply Kd.R_drew)); exact Kd.R_mono HO1306.out (fun _ hk => ⟨hk.1.2, hk.2⟩)), (by (with_reducible repeat (first | apply Kd.R_alloc | apply Kd.R_drewN | apply Kd.R_drew)); exact Kd.R_mono HO1311.out (fun _ hk => ⟨hk.1.2, hk.2⟩)), (sB_ BK1293.out), (sB_ BK1294.out), (sB_ BK1312.out), GW1312.out, GE1312.out, NB1293_1312.out, NB1312_1293.out, NB1294_1312.out, NB1312_1294.out, (sW_ HB.out)⟩)
        ·skip
         refine box_step ?hg (N := 10) ?hd (cs := #[.int .i64 0, .int .i64 0, .slice none 0 0]) (t := 41) ?hr ?_; (case hd => rfl); (case hg => rfl); (case hr => first | (go_simp; done) | (go_simp; rfl))
         intro gb1312 hg w47 hbox hb
         have n0_ := Aside0.mk (Kd.R_below (sR_ HO1301.out) hb)
         have n1_ := Aside0.mk (blk_below (sB_ BK1293.out) hb)
         have n2_ := Aside0.mk (blk_below (sB_ BK1294.out) hb)
         have n3_ := Aside0.mk (below_step (sW_ HB.out) hb)
         have n4_ := Aside0.mk (hbox)
         have n5_ := Aside0.mk ((by rw [hg]; exact (below_size (sW_ HB.out)) : w.heap.size ≤ gb1312))
         have n6_ := Aside0.mk ((by rw [hg]; exact (below_size (sW_ HB.out)) : w.heap.size ≤ gb1312))
         have n7_ := Aside0.mk ((by rw [hg]; exact Nat.ne_of_lt (blk_lt (sB_ BK1293.out)) : gb1293 ≠ gb1312))
         have n8_ := Aside0.mk ((by rw [hg]; exact Nat.ne_of_gt (blk_lt (sB_ BK1293.out)) : gb1312 ≠ gb1293))
         have n9_ := Aside0.mk ((by rw [hg]; exact Nat.ne_of_lt (blk_lt (sB_ BK1294.out)) : gb1294 ≠ gb1312))
         have n10_ := Aside0.mk ((by rw [hg]; exact Nat.ne_of_gt (blk_lt (sB_ BK1294.out)) : gb1312 ≠ gb1294))
         clear HO1301 BK1293 BK1294 HB; have HO1301 := n0_; have BK1293 := n1_; have BK1294 := n2_; have HB := n3_; have BK1312 := n4_; have GW1312 := n5_; have GE1312 := n6_; have NB1293_1312 := n7_; have NB1312_1293 := n8_; have NB1294_1312 := n9_; have NB1312_1294 := n10_; clear n0_ n1_ n2_ n3_ n4_ n5_ n6_ n7_ n8_ n9_ n10_ hb hbox hg
         refine hK.out _ _ ⟨(blk_cell BK1293.out 0).trans rfl, (blk_cell BK1293.out 1).trans rfl, (blk_cell BK1293.out 2).trans rfl, (blk_cell BK1294.out 0).trans rfl, (blk_cell BK1294.out 1).trans rfl, (blk_cell BK1294.out 2).trans rfl⟩ (fun hHeld => ?_)
         clear hK K
         refine norm_ (a' := ?_) ?_ ?_
         rotate_left
         ·show Act.put _ (some 10) _ = _
          simp only [Act.put, List.setIfInBounds_toArray, List.set_cons_zero, List.set_cons_succ, i64_w, i32_w]
          rfl
         refine one_ (i := 3) (N := some 31) #[true, true, true, true, true, true, false, true, false] rfl rfl (one_of HT_.out (by kernel_rfl)) (by decide) (fun K hK => ?_)
         refine goes_ Try.func48 (by kernel_rfl) rfl #[.agg #[.int .i64 a1_0, .int .i64 a1_1, .slice A1_2 l1_2.length c1_2]] (by rfl) rfl rfl sL_ ?_
         with_reducible refine (laws_toPicture.calls k a1_0 a1_1 _ _ l1_2 t1302 t1303 t1304 _ ?side1 ?side2 A22.out).mono ?_
         (case side1 => repeat (first | exact (Kd.C_below HR1_2.out HB.out) | (with_reducible refine Kd.C_alloc ?_ _) | (with_reducible refine Kd.C_drewN ?_ _) | (with_reducible refine Kd.C_drew ?_)))
         (case side2 => exact HC1_2.out)
         rintro e w48 ⟨v1305, rfl, ho0, hb⟩
         refine ⟨_, rfl, ?_⟩
         have n0_ := Aside0.mk (Kd.R_elder' (sR_ HO1301.out) (Kd.R_base ho0) hb)
         have n1_ := Aside0.mk (Kd.R_lower (Kd.R_new' ho0 (Kd.R_lt (sR_ HO1301.out))) (below_size (sW_ HB.out)))
         have n2_ := Aside0.mk (blk_below (sB_ BK1293.out) hb)
         have n3_ := Aside0.mk (blk_below (sB_ BK1294.out) hb)
         have n4_ := Aside0.mk (blk_below (sB_ BK1312.out) hb)
         have n5_ := Aside0.mk (below_step (sW_ HB.out) hb)
         clear HO1301 BK1293 BK1294 BK1312 HB; have HO1301 := n0_; have HO1306 := n1_; have BK1293 := n2_; have BK1294 := n3_; have BK1312 := n4_; have HB := n5_; clear n0_ n1_ n2_ n3_ n4_ n5_
         (try clear hb)
         (try clear hb2)
         (try clear hk)
         (try clear hi)
         (try clear ho0)
         obtain ⟨Ao49, co49, eo49⟩ := Kd.R_slice HO1301.out
         (first | subst eo49 | (injection eo49 with f1_ f2_ f3_; have f4_ := f1_.symm; have f5_ := f3_.symm; clear f1_ f2_ f3_; subst f4_; subst f5_))
         obtain ⟨Ao50, co50, eo50⟩ := Kd.R_slice HO1306.out
         (first | subst eo50 | (injection eo50 with f1_ f2_ f3_; have f4_ := f1_.symm; have f5_ := f3_.symm; clear f1_ f2_ f3_; subst f4_; subst f5_))
         refine hK.out _ _ ⟨(blk_cell BK1293.out 0).trans rfl, (blk_cell BK1293.out 1).trans rfl, (blk_cell BK1293.out 2).trans rfl, (blk_cell BK1294.out 0).trans rfl, (blk_cell BK1294.out 1).trans rfl, (blk_cell BK1294.out 2).trans rfl⟩ (fun hHeld => ?_)
         clear hK K
         refine norm_ (a' := ?_) ?_ ?_
         rotate_left
         ·show Act.put _ (some 31) _ = _
          simp only [Act.put, List.setIfInBounds_toArray, List.set_cons_zero, List.set_cons_succ, i64_w, i32_w]
          rfl
         refine one_ (i := 6) (N := some 34) #[true, true, true, true, true, true, true, true, false] rfl rfl (one_of HT_.out (by kernel_rfl)) (by decide) (fun K hK => ?_)
         refine goes_ Try.func77 (by kernel_rfl) rfl #[.agg #[.int .i64 t1297, .int .i64 t1298, .slice Ao49 t1299.length co49], .agg #[.int .i64 t1302, .int .i64 t1303, .slice Ao50 t1304.length co50], .int .i64 a2, .int .i64 a3] (by rfl) rfl rfl sL_ ?_
         with_reducible refine (spec_ScreenShifted.calls k t1297 t1298 _ _ t1299 t1302 t1303 _ _ t1304 a2 a3 t1307 t1308 t1309 _ ?side1 ?side2 ?side3 ?side4 A23.out).mono ?_
         (case side1 => repeat (first | exact (Kd.R_reads' HO1301.out).2.2 | (with_reducible refine Kd.C_alloc ?_ _) | (with_reducible refine Kd.C_drewN ?_ _) | (with_reducible refine Kd.C_drew ?_)))
         (case side2 => exact (Kd.R_reads' HO1301.out).2.1)
         (case side3 => repeat (first | exact (Kd.R_reads' HO1306.out).2.2 | (with_reducible refine Kd.C_alloc ?_ _) | (with_reducible refine Kd.C_drewN ?_ _) | (with_reducible refine Kd.C_drew ?_)))
         (case side4 => exact (Kd.R_reads' HO1306.out).2.1)
         rintro e w51 ⟨v1310, rfl, ho0, hb⟩
         refine ⟨_, rfl, ?_⟩
         have n0_ := Aside0.mk (Kd.R_elder' (sR_ HO1301.out) (Kd.R_base ho0) hb)
         have n1_ := Aside0.mk (Kd.R_elder' (sR_ HO1306.out) (Kd.R_base ho0) hb)
         have n2_ := Aside0.mk (Kd.R_lower (Kd.R_new' (Kd.R_new' ho0 (Kd.R_lt (sR_ HO1301.out))) (Kd.R_lt (sR_ HO1306.out))) (below_size (sW_ HB.out)))
         have n3_ := Aside0.mk (blk_below (sB_ BK1293.out) hb)
         have n4_ := Aside0.mk (blk_below (sB_ BK1294.out) hb)
         have n5_ := Aside0.mk (blk_below (sB_ BK1312.out) hb)
         have n6_ := Aside0.mk (below_step (sW_ HB.out) hb)
         clear HO1301 HO1306 BK1293 BK1294 BK1312 HB; have HO1301 := n0_; have HO1306 := n1_; have HO1311 := n2_; have BK1293 := n3_; have BK1294 := n4_; have BK1312 := n5_; have HB := n6_; clear n0_ n1_ n2_ n3_ n4_ n5_ n6_
         (try clear hb)
         (try clear hb2)
         (try clear hk)
         (try clear hi)
         (try clear ho0)
         refine hK.out _ _ ⟨(blk_cell BK1293.out 0).trans rfl, (blk_cell BK1293.out 1).trans rfl, (blk_cell BK1293.out 2).trans rfl, (blk_cell BK1294.out 0).trans rfl, (blk_cell BK1294.out 1).trans rfl, (blk_cell BK1294.out 2).trans rfl⟩ (fun hHeld => ?_)
         clear hK K
         refine norm_ (a' := ?_) ?_ ?_
         rotate_left
         ·show Act.put _ (some 34) _ = _
          simp only [Act.put, List.setIfInBounds_toArray, List.set_cons_zero, List.set_cons_succ, i64_w, i32_w]
          rfl
         exact norm_ sP_ (hCont (.slice Ao49 t1299.length co49, .slice Ao50 t1304.length co50, v1310, gb1312) _ ⟨hHeld, (by (with_reducible repeat (first | apply Kd.R_alloc | apply Kd.R_drewN | apply Kd.R_drew)); exact Kd.R_mono HO1301.out (fun _ hk => ⟨hk.1.2, hk.2⟩)), (by (with_reducible repeat (first | apply Kd.R_alloc | apply Kd.R_drewN | apply Kd.R_drew)); exact Kd.R_mono HO1306.out (fun _ hk => ⟨hk.1.2, hk.2⟩)), (by (with_reducible repeat (first | apply Kd.R_alloc | apply Kd.R_drewN | apply Kd.R_drew)); exact Kd.R_mono HO1311.out (fun _ hk => ⟨hk.1.2, hk.2⟩)), (sB_ BK1293.out), (sB_ BK1294.out), (sB_ BK1312.out), GW1312.out, GE1312.out, NB1293_1312.out, NB1312_1293.out, NB1294_1312.out, NB1312_1294.out, (sW_ HB.out)⟩)
       ·skip
        refine box_step ?hg (N := 10) ?hd (cs := #[.int .i64 0, .int .i64 0, .slice none 0 0]) (t := 41) ?hr ?_; (case hd => rfl); (case hg => rfl); (case hr => first | (go_simp; done) | (go_simp; rfl))
        intro gb1312 hg w46 hbox hb
        have n0_ := Aside0.mk (blk_below (sB_ BK1293.out) hb)
        have n1_ := Aside0.mk (blk_below (sB_ BK1294.out) hb)
        have n2_ := Aside0.mk (below_step (sW_ HB.out) hb)
        have n3_ := Aside0.mk (hbox)
        have n4_ := Aside0.mk ((by rw [hg]; exact (below_size (sW_ HB.out)) : w.heap.size ≤ gb1312))
        have n5_ := Aside0.mk ((by rw [hg]; exact (below_size (sW_ HB.out)) : w.heap.size ≤ gb1312))
        have n6_ := Aside0.mk ((by rw [hg]; exact Nat.ne_of_lt (blk_lt (sB_ BK1293.out)) : gb1293 ≠ gb1312))
        have n7_ := Aside0.mk ((by rw [hg]; exact Nat.ne_of_gt (blk_lt (sB_ BK1293.out)) : gb1312 ≠ gb1293))
        have n8_ := Aside0.mk ((by rw [hg]; exact Nat.ne_of_lt (blk_lt (sB_ BK1294.out)) : gb1294 ≠ gb1312))
        have n9_ := Aside0.mk ((by rw [hg]; exact Nat.ne_of_gt (blk_lt (sB_ BK1294.out)) : gb1312 ≠ gb1294))
        clear BK1293 BK1294 HB; have BK1293 := n0_; have BK1294 := n1_; have HB := n2_; have BK1312 := n3_; have GW1312 := n4_; have GE1312 := n5_; have NB1293_1312 := n6_; have NB1312_1293 := n7_; have NB1294_1312 := n8_; have NB1312_1294 := n9_; clear n0_ n1_ n2_ n3_ n4_ n5_ n6_ n7_ n8_ n9_ hb hbox hg
        refine hK.out _ _ ⟨(blk_cell BK1293.out 0).trans rfl, (blk_cell BK1293.out 1).trans rfl, (blk_cell BK1293.out 2).trans rfl, (blk_cell BK1294.out 0).trans rfl, (blk_cell BK1294.out 1).trans rfl, (blk_cell BK1294.out 2).trans rfl⟩ (fun hHeld => ?_)
        clear hK K
        refine norm_ (a' := ?_) ?_ ?_
        rotate_left
        ·show Act.put _ (some 10) _ = _
         simp only [Act.put, List.setIfInBounds_toArray, List.set_cons_zero, List.set_cons_succ, i64_w, i32_w]
         rfl
        refine one_ (i := 1) (N := some 29) #[true, true, true, false, true, true, false, true, false] rfl rfl (one_of HT_.out (by kernel_rfl)) (by decide) (fun K hK => ?_)
        refine goes_ Try.func58 (by kernel_rfl) rfl #[.agg #[.int .i64 a0_0, .int .i64 a0_1, .slice A0_2 l0_2.length c0_2]] (by rfl) rfl rfl sL_ ?_
        with_reducible refine (laws_toMatrix.calls k a0_0 a0_1 _ _ l0_2 t1297 t1298 t1299 _ ?side1 ?side2 A21.out).mono ?_
        (case side1 => repeat (first | exact (Kd.C_below HR0_2.out HB.out) | (with_reducible refine Kd.C_alloc ?_ _) | (with_reducible refine Kd.C_drewN ?_ _) | (with_reducible refine Kd.C_drew ?_)))
        (case side2 => exact HC0_2.out)
        rintro e w47 ⟨v1300, rfl, ho0, hb⟩
        refine ⟨_, rfl, ?_⟩
        have n0_ := Aside0.mk (Kd.R_lower ho0 (below_size (sW_ HB.out)))
        have n1_ := Aside0.mk (blk_below (sB_ BK1293.out) hb)
        have n2_ := Aside0.mk (blk_below (sB_ BK1294.out) hb)
        have n3_ := Aside0.mk (blk_below (sB_ BK1312.out) hb)
        have n4_ := Aside0.mk (below_step (sW_ HB.out) hb)
        clear BK1293 BK1294 BK1312 HB; have HO1301 := n0_; have BK1293 := n1_; have BK1294 := n2_; have BK1312 := n3_; have HB := n4_; clear n0_ n1_ n2_ n3_ n4_
        (try clear hb)
        (try clear hb2)
        (try clear hk)
        (try clear hi)
        (try clear ho0)
        refine hK.out _ _ ⟨(blk_cell BK1293.out 0).trans rfl, (blk_cell BK1293.out 1).trans rfl, (blk_cell BK1293.out 2).trans rfl, (blk_cell BK1294.out 0).trans rfl, (blk_cell BK1294.out 1).trans rfl, (blk_cell BK1294.out 2).trans rfl⟩ (fun hHeld => ?_)
        clear hK K
        refine norm_ (a' := ?_) ?_ ?_
        rotate_left
        ·show Act.put _ (some 29) _ = _
         simp only [Act.put, List.setIfInBounds_toArray, List.set_cons_zero, List.set_cons_succ, i64_w, i32_w]
         rfl
        refine one_ (i := 3) (N := some 31) #[true, true, true, true, true, true, false, true, false] rfl rfl (one_of HT_.out (by kernel_rfl)) (by decide) (fun K hK => ?_)
        refine goes_ Try.func48 (by kernel_rfl) rfl #[.agg #[.int .i64 a1_0, .int .i64 a1_1, .slice A1_2 l1_2.length c1_2]] (by rfl) rfl rfl sL_ ?_
        with_reducible refine (laws_toPicture.calls k a1_0 a1_1 _ _ l1_2 t1302 t1303 t1304 _ ?side1 ?side2 A22.out).mono ?_
        (case side1 => repeat (first | exact (Kd.C_below HR1_2.out HB.out) | (with_reducible refine Kd.C_alloc ?_ _) | (with_reducible refine Kd.C_drewN ?_ _) | (with_reducible refine Kd.C_drew ?_)))
        (case side2 => exact HC1_2.out)
        rintro e w48 ⟨v1305, rfl, ho0, hb⟩
        refine ⟨_, rfl, ?_⟩
        have n0_ := Aside0.mk (Kd.R_elder' (sR_ HO1301.out) (Kd.R_base ho0) hb)
        have n1_ := Aside0.mk (Kd.R_lower (Kd.R_new' ho0 (Kd.R_lt (sR_ HO1301.out))) (below_size (sW_ HB.out)))
        have n2_ := Aside0.mk (blk_below (sB_ BK1293.out) hb)
        have n3_ := Aside0.mk (blk_below (sB_ BK1294.out) hb)
        have n4_ := Aside0.mk (blk_below (sB_ BK1312.out) hb)
        have n5_ := Aside0.mk (below_step (sW_ HB.out) hb)
        clear HO1301 BK1293 BK1294 BK1312 HB; have HO1301 := n0_; have HO1306 := n1_; have BK1293 := n2_; have BK1294 := n3_; have BK1312 := n4_; have HB := n5_; clear n0_ n1_ n2_ n3_ n4_ n5_
        (try clear hb)
        (try clear hb2)
        (try clear hk)
        (try clear hi)
        (try clear ho0)
        obtain ⟨Ao49, co49, eo49⟩ := Kd.R_slice HO1301.out
        (first | subst eo49 | (injection eo49 with f1_ f2_ f3_; have f4_ := f1_.symm; have f5_ := f3_.symm; clear f1_ f2_ f3_; subst f4_; subst f5_))
        obtain ⟨Ao50, co50, eo50⟩ := Kd.R_slice HO1306.out
        (first | subst eo50 | (injection eo50 with f1_ f2_ f3_; have f4_ := f1_.symm; have f5_ := f3_.symm; clear f1_ f2_ f3_; subst f4_; subst f5_))
        refine hK.out _ _ ⟨(blk_cell BK1293.out 0).trans rfl, (blk_cell BK1293.out 1).trans rfl, (blk_cell BK1293.out 2).trans rfl, (blk_cell BK1294.out 0).trans rfl, (blk_cell BK1294.out 1).trans rfl, (blk_cell BK1294.out 2).trans rfl⟩ (fun hHeld => ?_)
        clear hK K
        refine norm_ (a' := ?_) ?_ ?_
        rotate_left
        ·show Act.put _ (some 31) _ = _
         simp only [Act.put, List.setIfInBounds_toArray, List.set_cons_zero, List.set_cons_succ, i64_w, i32_w]
         rfl
        refine one_ (i := 6) (N := some 34) #[true, true, true, true, true, true, true, true, false] rfl rfl (one_of HT_.out (by kernel_rfl)) (by decide) (fun K hK => ?_)
        refine goes_ Try.func77 (by kernel_rfl) rfl #[.agg #[.int .i64 t1297, .int .i64 t1298, .slice Ao49 t1299.length co49], .agg #[.int .i64 t1302, .int .i64 t1303, .slice Ao50 t1304.length co50], .int .i64 a2, .int .i64 a3] (by rfl) rfl rfl sL_ ?_
        with_reducible refine (spec_ScreenShifted.calls k t1297 t1298 _ _ t1299 t1302 t1303 _ _ t1304 a2 a3 t1307 t1308 t1309 _ ?side1 ?side2 ?side3 ?side4 A23.out).mono ?_
        (case side1 => repeat (first | exact (Kd.R_reads' HO1301.out).2.2 | (with_reducible refine Kd.C_alloc ?_ _) | (with_reducible refine Kd.C_drewN ?_ _) | (with_reducible refine Kd.C_drew ?_)))
        (case side2 => exact (Kd.R_reads' HO1301.out).2.1)
        (case side3 => repeat (first | exact (Kd.R_reads' HO1306.out).2.2 | (with_reducible refine Kd.C_alloc ?_ _) | (with_reducible refine Kd.C_drewN ?_ _) | (with_reducible refine Kd.C_drew ?_)))
        (case side4 => exact (Kd.R_reads' HO1306.out).2.1)
        rintro e w51 ⟨v1310, rfl, ho0, hb⟩
        refine ⟨_, rfl, ?_⟩
        have n0_ := Aside0.mk (Kd.R_elder' (sR_ HO1301.out) (Kd.R_base ho0) hb)
        have n1_ := Aside0.mk (Kd.R_elder' (sR_ HO1306.out) (Kd.R_base ho0) hb)
        have n2_ := Aside0.mk (Kd.R_lower (Kd.R_new' (Kd.R_new' ho0 (Kd.R_lt (sR_ HO1301.out))) (Kd.R_lt (sR_ HO1306.out))) (below_size (sW_ HB.out)))
        have n3_ := Aside0.mk (blk_below (sB_ BK1293.out) hb)
        have n4_ := Aside0.mk (blk_below (sB_ BK1294.out) hb)
        have n5_ := Aside0.mk (blk_below (sB_ BK1312.out) hb)
        have n6_ := Aside0.mk (below_step (sW_ HB.out) hb)
        clear HO1301 HO1306 BK1293 BK1294 BK1312 HB; have HO1301 := n0_; have HO1306 := n1_; have HO1311 := n2_; have BK1293 := n3_; have BK1294 := n4_; have BK1312 := n5_; have HB := n6_; clear n0_ n1_ n2_ n3_ n4_ n5_ n6_
        (try clear hb)
        (try clear hb2)
        (try clear hk)
        (try clear hi)
        (try clear ho0)
        refine hK.out _ _ ⟨(blk_cell BK1293.out 0).trans rfl, (blk_cell BK1293.out 1).trans rfl, (blk_cell BK1293.out 2).trans rfl, (blk_cell BK1294.out 0).trans rfl, (blk_cell BK1294.out 1).trans rfl, (blk_cell BK1294.out 2).trans rfl⟩ (fun hHeld => ?_)
        clear hK K
        refine norm_ (a' := ?_) ?_ ?_
        rotate_left
        ·show Act.put _ (some 34) _ = _
         simp only [Act.put, List.setIfInBounds_toArray, List.set_cons_zero, List.set_cons_succ, i64_w, i32_w]
         rfl
        exact norm_ sP_ (hCont (.slice Ao49 t1299.length co49, .slice Ao50 t1304.length co50, v1310, gb1312) _ ⟨hHeld, (by (with_reducible repeat (first | apply Kd.R_alloc | apply Kd.R_drewN | apply Kd.R_drew)); exact Kd.R_mono HO1301.out (fun _ hk => ⟨hk.1.2, hk.2⟩)), (by (with_reducible repeat (first | apply Kd.R_alloc | apply Kd.R_drewN | apply Kd.R_drew)); exact Kd.R_mono HO1306.out (fun _ hk => ⟨hk.1.2, hk.2⟩)), (by (with_reducible repeat (first | apply Kd.R_alloc | apply Kd.R_drewN | apply Kd.R_drew)); exact Kd.R_mono HO1311.out (fun _ hk => ⟨hk.1.2, hk.2⟩)), (sB_ BK1293.out), (sB_ BK1294.out), (sB_ BK1312.out), GW1312.out, GE1312.out, NB1293_1312.out, NB1312_1293.out, NB1294_1312.out, NB1312_1294.out, (sW_ HB.out)⟩)
      rintro ⟨v1300, v1305, v1310, gb1312⟩ w52 ⟨hS_, h0_, h1_, h2_, h3_, h4_, h5_, h6_, h7_, h8_, h9_, h10_, h11_, h12_⟩
      have n0_ : Aside0 (Kd.R (Kd.int .i64) 3 w52 w.heap.size (fun k_ => some k_ ≠ (v1305 : Value).ownBlock ∧ some k_ ≠ (v1310 : Value).ownBlock) v1300 t1299) := ⟨h0_⟩
      have n1_ : Aside0 (Kd.R (Kd.int .i64) 3 w52 w.heap.size (fun k_ => some k_ ≠ (v1300 : Value).ownBlock ∧ some k_ ≠ (v1310 : Value).ownBlock) v1305 t1304) := ⟨h1_⟩
      have n2_ : Aside0 (Kd.R (Kd.int .i64) 3 w52 w.heap.size (fun k_ => some k_ ≠ (v1300 : Value).ownBlock ∧ some k_ ≠ (v1305 : Value).ownBlock) v1310 t1309) := ⟨h2_⟩
      have n3_ : Aside0 (w52.heap[gb1293]? = some (.cells #[.int .i64 a0_0, .int .i64 a0_1, .slice A0_2 l0_2.length c0_2] 55 (0, 0))) := ⟨h3_⟩
      have n4_ : Aside0 (w52.heap[gb1294]? = some (.cells #[.int .i64 a1_0, .int .i64 a1_1, .slice A1_2 l1_2.length c1_2] 48 (0, 0))) := ⟨h4_⟩
      have n5_ : Aside0 (w52.heap[gb1312]? = some (.cells #[.int .i64 0, .int .i64 0, .slice none 0 0] 41 (0, 0))) := ⟨h5_⟩
      have n6_ : Aside0 (w.heap.size ≤ gb1312) := ⟨h6_⟩
      have n7_ : Aside0 (w.heap.size ≤ gb1312) := ⟨h7_⟩
      have n8_ : Aside0 (gb1293 ≠ gb1312) := ⟨h8_⟩
      have n9_ : Aside0 (gb1312 ≠ gb1293) := ⟨h9_⟩
      have n10_ : Aside0 (gb1294 ≠ gb1312) := ⟨h10_⟩
      have n11_ : Aside0 (gb1312 ≠ gb1294) := ⟨h11_⟩
      have n12_ : Aside0 (Below w.heap.size w w52) := ⟨h12_⟩
      clear BK1293 BK1294 HB h0_ h1_ h2_ h3_ h4_ h5_ h6_ h7_ h8_ h9_ h10_ h11_ h12_; have HO1301 := n0_; have HO1306 := n1_; have HO1311 := n2_; have BK1293 := n3_; have BK1294 := n4_; have BK1312 := n5_; have GW1312 := n6_; have GE1312 := n7_; have NB1293_1312 := n8_; have NB1312_1293 := n9_; have NB1294_1312 := n10_; have NB1312_1294 := n11_; have HB := n12_; clear n0_ n1_ n2_ n3_ n4_ n5_ n6_ n7_ n8_ n9_ n10_ n11_ n12_
      have hHeld : w52.cell? ⟨gb1293, 0, none⟩ = some (.int .i64 a0_0) ∧ w52.cell? ⟨gb1293, 1, none⟩ = some (.int .i64 a0_1) ∧ w52.cell? ⟨gb1293, 2, none⟩ = some (.slice A0_2 l0_2.length c0_2) ∧ w52.cell? ⟨gb1294, 0, none⟩ = some (.int .i64 a1_0) ∧ w52.cell? ⟨gb1294, 1, none⟩ = some (.int .i64 a1_1) ∧ w52.cell? ⟨gb1294, 2, none⟩ = some (.slice A1_2 l1_2.length c1_2) := hS_
      obtain ⟨Ao55, co55, eo55⟩ := Kd.R_slice HO1311.out
      (first | subst eo55 | (injection eo55 with f1_ f2_ f3_; have f4_ := f1_.symm; have f5_ := f3_.symm; clear f1_ f2_ f3_; subst f4_; subst f5_))
      refine norm_ (a' := ?_) ?_ ?_
      rotate_left
      ·simp only [putAll, Act.put, List.setIfInBounds_toArray, List.set_cons_zero, List.set_cons_succ]
       rfl
      refine one_ (i := 8) (N := none) #[true, true, true, true, true, true, true, true, true] rfl rfl (one_of HT_.out (by kernel_rfl)) (by decide) (fun K hK => ?_)
      have hs53 : w52.cell? ⟨gb1312, 0, none⟩ = some (.int .i64 0) := (blk_cell BK1312.out 0).trans rfl
      have hfs53 := blk_frozen BK1312.out 0
      have hns53_0 := NB1293_1312.out; have hns53_1 := NB1294_1312.out; have hms53_0 := NB1312_1293.out; have hms53_1 := NB1312_1294.out
      have hs54 : w52.cell? ⟨gb1312, 1, none⟩ = some (.int .i64 0) := (blk_cell BK1312.out 1).trans rfl
      have hfs54 := blk_frozen BK1312.out 1
      have hns54_0 := NB1293_1312.out; have hns54_1 := NB1294_1312.out; have hms54_0 := NB1312_1293.out; have hms54_1 := NB1312_1294.out
      have hs56 : w52.cell? ⟨gb1312, 2, none⟩ = some (.slice none 0 0) := (blk_cell BK1312.out 2).trans rfl
      have hfs56 := blk_frozen BK1312.out 2
      have hns56_0 := NB1293_1312.out; have hns56_1 := NB1294_1312.out; have hms56_0 := NB1312_1293.out; have hms56_1 := NB1312_1294.out
      refine skip_ (w1 := ?_) (by rfl) rfl ?_ ?_
      rotate_left
      ·go_simp
       rfl
      refine hK.out _ _ ⟨((cell_far (p := ⟨gb1312, _, none⟩) NB1293_1312.out _).trans (((cell_far (p := ⟨gb1312, _, none⟩) NB1293_1312.out _).trans (((cell_far (p := ⟨gb1312, _, none⟩) NB1293_1312.out _).trans (hHeld.1)))))), ((cell_far (p := ⟨gb1312, _, none⟩) NB1293_1312.out _).trans (((cell_far (p := ⟨gb1312, _, none⟩) NB1293_1312.out _).trans (((cell_far (p := ⟨gb1312, _, none⟩) NB1293_1312.out _).trans (hHeld.2.1)))))), ((cell_far (p := ⟨gb1312, _, none⟩) NB1293_1312.out _).trans (((cell_far (p := ⟨gb1312, _, none⟩) NB1293_1312.out _).trans (((cell_far (p := ⟨gb1312, _, none⟩) NB1293_1312.out _).trans (hHeld.2.2.1)))))), ((cell_far (p := ⟨gb1312, _, none⟩) NB1294_1312.out _).trans (((cell_far (p := ⟨gb1312, _, none⟩) NB1294_1312.out _).trans (((cell_far (p := ⟨gb1312, _, none⟩) NB1294_1312.out _).trans (hHeld.2.2.2.1)))))), ((cell_far (p := ⟨gb1312, _, none⟩) NB1294_1312.out _).trans (((cell_far (p := ⟨gb1312, _, none⟩) NB1294_1312.out _).trans (((cell_far (p := ⟨gb1312, _, none⟩) NB1294_1312.out _).trans (hHeld.2.2.2.2.1)))))), ((cell_far (p := ⟨gb1312, _, none⟩) NB1294_1312.out _).trans (((cell_far (p := ⟨gb1312, _, none⟩) NB1294_1312.out _).trans (((cell_far (p := ⟨gb1312, _, none⟩) NB1294_1312.out _).trans (hHeld.2.2.2.2.2))))))⟩ (fun hHeld => ?_)
      clear hK K
      refine done_ (done_of HT_.out (by kernel_rfl)) ?_
      have hnb57 := NB1293_1312.out; have hnc57 := NB1312_1293.out
      have hcz58_0 : w52.cell? ⟨gb1293, 0, none⟩ = some (.int .i64 a0_0) := (blk_cell BK1293.out 0).trans rfl
      have hcz58_1 : w52.cell? ⟨gb1293, 1, none⟩ = some (.int .i64 a0_1) := (blk_cell BK1293.out 1).trans rfl
      have hcz58_2 : w52.cell? ⟨gb1293, 2, none⟩ = some (.slice A0_2 l0_2.length c0_2) := (blk_cell BK1293.out 2).trans rfl
      have hfz58_0 := blk_frozen BK1293.out 0
      have hfz58_1 := blk_frozen BK1293.out 1
      have hfz58_2 := blk_frozen BK1293.out 2
      try go_wp2_with (first | ((with_reducible refine gate_callee (f := 58) rfl ?_); refine goesL_ (some 36) rfl rfl Try.func58 (by kernel_rfl) rfl #[.agg #[.int .i64 a0_0, .int .i64 a0_1, .slice A0_2 l0_2.length c0_2]] rfl sL_ ?_; (with_reducible refine (laws_toMatrix.calls k a0_0 a0_1 _ _ l0_2 t1313 t1314 t1315 _ ?side1 ?side2 A24.out).mono ?_); (case side1 => exact Kd.C_below HR0_2.out (sW_ HB.out)); (case side2 => exact HC0_2.out); rintro e w59 ⟨v1316, rfl, ho0, hb⟩; refine ⟨_, rfl, ?_⟩; have n0_ := Aside0.mk (Kd.R_elder' (by (with_reducible repeat (first | apply Kd.R_alloc | apply Kd.R_drewN | apply Kd.R_drew)); exact (Kd.R_mono (Kd.R_far (p := ⟨gb1312, 2, none⟩) (Kd.R_far (p := ⟨gb1312, 1, none⟩) (Kd.R_far (p := ⟨gb1312, 0, none⟩) (Kd.R_types HO1301.out BK1312.out (by decide)) (fun _ hk => hk.2) (.int .i64 t1307)) (fun _ hk => hk.2) (.int .i64 t1308)) (fun _ hk => hk.2) (.slice Ao55 t1309.length co55)) (fun _ h_ => h_.1))) (Kd.R_base ho0) hb); have n1_ := Aside0.mk (Kd.R_elder' (by (with_reducible repeat (first | apply Kd.R_alloc | apply Kd.R_drewN | apply Kd.R_drew)); exact (Kd.R_mono (Kd.R_far (p := ⟨gb1312, 2, none⟩) (Kd.R_far (p := ⟨gb1312, 1, none⟩) (Kd.R_far (p := ⟨gb1312, 0, none⟩) (Kd.R_types HO1306.out BK1312.out (by decide)) (fun _ hk => hk.2) (.int .i64 t1307)) (fun _ hk => hk.2) (.int .i64 t1308)) (fun _ hk => hk.2) (.slice Ao55 t1309.length co55)) (fun _ h_ => h_.1))) (Kd.R_base ho0) hb); have n2_ := Aside0.mk (Kd.R_elder' (by (with_reducible repeat (first | apply Kd.R_alloc | apply Kd.R_drewN | apply Kd.R_drew)); exact (Kd.R_mono (Kd.R_far (p := ⟨gb1312, 2, none⟩) (Kd.R_far (p := ⟨gb1312, 1, none⟩) (Kd.R_far (p := ⟨gb1312, 0, none⟩) (Kd.R_types HO1311.out BK1312.out (by decide)) (fun _ hk => hk.2) (.int .i64 t1307)) (fun _ hk => hk.2) (.int .i64 t1308)) (fun _ hk => hk.2) (.slice Ao55 t1309.length co55)) (fun _ h_ => h_.1))) (Kd.R_base ho0) hb); have n3_ := Aside0.mk (Kd.R_lower (Kd.R_new' (Kd.R_new' (Kd.R_new' ho0 (Kd.R_lt (by (with_reducible repeat (first | apply Kd.R_alloc | apply Kd.R_drewN | apply Kd.R_drew)); exact (Kd.R_mono (Kd.R_far (p := ⟨gb1312, 2, none⟩) (Kd.R_far (p := ⟨gb1312, 1, none⟩) (Kd.R_far (p := ⟨gb1312, 0, none⟩) (Kd.R_types HO1301.out BK1312.out (by decide)) (fun _ hk => hk.2) (.int .i64 t1307)) (fun _ hk => hk.2) (.int .i64 t1308)) (fun _ hk => hk.2) (.slice Ao55 t1309.length co55)) (fun _ h_ => h_.1))))) (Kd.R_lt (by (with_reducible repeat (first | apply Kd.R_alloc | apply Kd.R_drewN | apply Kd.R_drew)); exact (Kd.R_mono (Kd.R_far (p := ⟨gb1312, 2, none⟩) (Kd.R_far (p := ⟨gb1312, 1, none⟩) (Kd.R_far (p := ⟨gb1312, 0, none⟩) (Kd.R_types HO1306.out BK1312.out (by decide)) (fun _ hk => hk.2) (.int .i64 t1307)) (fun _ hk => hk.2) (.int .i64 t1308)) (fun _ hk => hk.2) (.slice Ao55 t1309.length co55)) (fun _ h_ => h_.1))))) (Kd.R_lt (by (with_reducible repeat (first | apply Kd.R_alloc | apply Kd.R_drewN | apply Kd.R_drew)); exact (Kd.R_mono (Kd.R_far (p := ⟨gb1312, 2, none⟩) (Kd.R_far (p := ⟨gb1312, 1, none⟩) (Kd.R_far (p := ⟨gb1312, 0, none⟩) (Kd.R_types HO1311.out BK1312.out (by decide)) (fun _ hk => hk.2) (.int .i64 t1307)) (fun _ hk => hk.2) (.int .i64 t1308)) (fun _ hk => hk.2) (.slice Ao55 t1309.length co55)) (fun _ h_ => h_.1))))) (below_size (sW_ HB.out))); have n4_ := Aside0.mk (blk_below (g := gb1293) (o := .cells #[.int .i64 a0_0, .int .i64 a0_1, .slice A0_2 l0_2.length c0_2] 55 (0, 0)) (by refine sB_ ?_; refine blk_far ?_ NB1293_1312.out _; refine sB_ ?_; refine blk_far ?_ NB1293_1312.out _; refine sB_ ?_; refine blk_far ?_ NB1293_1312.out _; refine sB_ ?_; exact BK1293.out) hb); have n5_ := Aside0.mk (blk_below (g := gb1294) (o := .cells #[.int .i64 a1_0, .int .i64 a1_1, .slice A1_2 l1_2.length c1_2] 48 (0, 0)) (by refine sB_ ?_; refine blk_far ?_ NB1294_1312.out _; refine sB_ ?_; refine blk_far ?_ NB1294_1312.out _; refine sB_ ?_; refine blk_far ?_ NB1294_1312.out _; refine sB_ ?_; exact BK1294.out) hb); have n6_ := Aside0.mk (blk_below (g := gb1312) (o := .cells #[.int .i64 t1307, .int .i64 t1308, .slice Ao55 t1309.length co55] 41 (0, 0)) (by refine sB_ ?_; refine blk_put (cs := #[.int .i64 t1307, .int .i64 t1308, .slice none 0 0]) ?_ 2 _ rfl; refine sB_ ?_; refine blk_put (cs := #[.int .i64 t1307, .int .i64 0, .slice none 0 0]) ?_ 1 _ rfl; refine sB_ ?_; refine blk_put (cs := #[.int .i64 0, .int .i64 0, .slice none 0 0]) ?_ 0 _ rfl; refine sB_ ?_; exact BK1312.out) hb); have n7_ := Aside0.mk (below_step (sW_ HB.out) hb); clear HO1301; clear HO1306; clear HO1311; clear BK1293; clear BK1294; clear BK1312; clear HB; have HO1301 := n0_; have HO1306 := n1_; have HO1311 := n2_; have HO1317 := n3_; have BK1293 := n4_; have BK1294 := n5_; have BK1312 := n6_; have HB := n7_; clear n0_ n1_ n2_ n3_ n4_ n5_ n6_ n7_; (try clear hb); (try clear hb2); (try clear hk); (try clear hi); (try clear ho0)) | ((with_reducible refine gate_dst (N := 11) rfl ?_); refine box_event ?hg (N := 11) ?hd (cs := #[.int .i64 0, .int .i64 0, .slice none 0 0]) (t := 26) ?hr ?_; (case hd => rfl); (case hg => rfl); (case hr => first | (go_simp; done) | (go_simp; rfl)); intro gb1318 hg w60 hbox hb; have n0_ := Aside0.mk (Kd.R_below (sR_ HO1301.out) hb); have n1_ := Aside0.mk (Kd.R_below (sR_ HO1306.out) hb); have n2_ := Aside0.mk (Kd.R_below (sR_ HO1311.out) hb); have n3_ := Aside0.mk (Kd.R_below (sR_ HO1317.out) hb); have n4_ := Aside0.mk (blk_below (sB_ BK1293.out) hb); have n5_ := Aside0.mk (blk_below (sB_ BK1294.out) hb); have n6_ := Aside0.mk (blk_below (sB_ BK1312.out) hb); have n7_ := Aside0.mk (below_step (sW_ HB.out) hb); have n8_ := Aside0.mk (hbox); have n9_ := Aside0.mk ((by rw [hg]; exact (below_size (sW_ HB.out)) : w.heap.size ≤ gb1318)); have n10_ := Aside0.mk ((by rw [hg]; exact (below_size (sW_ HB.out)) : w.heap.size ≤ gb1318)); have n11_ := Aside0.mk ((by rw [hg]; exact Nat.ne_of_lt (blk_lt (sB_ BK1293.out)) : gb1293 ≠ gb1318)); have n12_ := Aside0.mk ((by rw [hg]; exact Nat.ne_of_gt (blk_lt (sB_ BK1293.out)) : gb1318 ≠ gb1293)); have n13_ := Aside0.mk ((by rw [hg]; exact Nat.ne_of_lt (blk_lt (sB_ BK1294.out)) : gb1294 ≠ gb1318)); have n14_ := Aside0.mk ((by rw [hg]; exact Nat.ne_of_gt (blk_lt (sB_ BK1294.out)) : gb1318 ≠ gb1294)); have n15_ := Aside0.mk ((by rw [hg]; exact Nat.ne_of_lt (blk_lt (sB_ BK1312.out)) : gb1312 ≠ gb1318)); have n16_ := Aside0.mk ((by rw [hg]; exact Nat.ne_of_gt (blk_lt (sB_ BK1312.out)) : gb1318 ≠ gb1312)); clear HO1301; clear HO1306; clear HO1311; clear HO1317; clear BK1293; clear BK1294; clear BK1312; clear HB; have HO1301 := n0_; have HO1306 := n1_; have HO1311 := n2_; have HO1317 := n3_; have BK1293 := n4_; have BK1294 := n5_; have BK1312 := n6_; have HB := n7_; have BK1318 := n8_; have GW1318 := n9_; have GE1318 := n10_; have NB1293_1318 := n11_; have NB1318_1293 := n12_; have NB1294_1318 := n13_; have NB1318_1294 := n14_; have NB1312_1318 := n15_; have NB1318_1312 := n16_; clear n0_ n1_ n2_ n3_ n4_ n5_ n6_ n7_ n8_ n9_ n10_ n11_ n12_ n13_ n14_ n15_ n16_; clear hb hbox hg; have hnb61 := NB1318_1293.out; have hnc61 := NB1293_1318.out; have hnb62 := NB1318_1294.out; have hnc62 := NB1294_1318.out; have hnb63 := NB1318_1312.out; have hnc63 := NB1312_1318.out; have hcz64_0 : w60.cell? ⟨gb1318, 0, none⟩ = some (.int .i64 0) := (blk_cell BK1318.out 0).trans rfl; have hcz64_1 : w60.cell? ⟨gb1318, 1, none⟩ = some (.int .i64 0) := (blk_cell BK1318.out 1).trans rfl; have hcz64_2 : w60.cell? ⟨gb1318, 2, none⟩ = some (.slice none 0 0) := (blk_cell BK1318.out 2).trans rfl; have hfz64_0 := blk_frozen BK1318.out 0; have hfz64_1 := blk_frozen BK1318.out 1; have hfz64_2 := blk_frozen BK1318.out 2; obtain ⟨Ao65, co65, eo65⟩ := Kd.R_slice HO1317.out; subst eo65; have hnb66 := NB1294_1312.out; have hnc66 := NB1312_1294.out; have hcz67_0 : w60.cell? ⟨gb1294, 0, none⟩ = some (.int .i64 a1_0) := (blk_cell BK1294.out 0).trans rfl; have hcz67_1 : w60.cell? ⟨gb1294, 1, none⟩ = some (.int .i64 a1_1) := (blk_cell BK1294.out 1).trans rfl; have hcz67_2 : w60.cell? ⟨gb1294, 2, none⟩ = some (.slice A1_2 l1_2.length c1_2) := (blk_cell BK1294.out 2).trans rfl; have hfz67_0 := blk_frozen BK1294.out 0; have hfz67_1 := blk_frozen BK1294.out 1; have hfz67_2 := blk_frozen BK1294.out 2) | ((with_reducible refine gate_callee (f := 48) rfl ?_); refine goesL_ (some 38) rfl rfl Try.func48 (by kernel_rfl) rfl #[.agg #[.int .i64 a1_0, .int .i64 a1_1, .slice A1_2 l1_2.length c1_2]] rfl sL_ ?_; (with_reducible refine (laws_toPicture.calls k a1_0 a1_1 _ _ l1_2 t1319 t1320 t1321 _ ?side1 ?side2 A25.out).mono ?_); (case side1 => exact Kd.C_below HR1_2.out (sW_ HB.out)); (case side2 => exact HC1_2.out); rintro e w68 ⟨v1322, rfl, ho0, hb⟩; refine ⟨_, rfl, ?_⟩; have n0_ := Aside0.mk (Kd.R_elder' (by (with_reducible repeat (first | apply Kd.R_alloc | apply Kd.R_drewN | apply Kd.R_drew)); exact (Kd.R_mono (Kd.R_far (p := ⟨gb1318, 2, none⟩) (Kd.R_far (p := ⟨gb1318, 1, none⟩) (Kd.R_far (p := ⟨gb1318, 0, none⟩) (Kd.R_types HO1301.out BK1318.out (by decide)) (fun _ hk => hk.2) (.int .i64 t1313)) (fun _ hk => hk.2) (.int .i64 t1314)) (fun _ hk => hk.2) (.slice Ao65 t1315.length co65)) (fun _ h_ => h_.1))) (Kd.R_base ho0) hb); have n1_ := Aside0.mk (Kd.R_elder' (by (with_reducible repeat (first | apply Kd.R_alloc | apply Kd.R_drewN | apply Kd.R_drew)); exact (Kd.R_mono (Kd.R_far (p := ⟨gb1318, 2, none⟩) (Kd.R_far (p := ⟨gb1318, 1, none⟩) (Kd.R_far (p := ⟨gb1318, 0, none⟩) (Kd.R_types HO1306.out BK1318.out (by decide)) (fun _ hk => hk.2) (.int .i64 t1313)) (fun _ hk => hk.2) (.int .i64 t1314)) (fun _ hk => hk.2) (.slice Ao65 t1315.length co65)) (fun _ h_ => h_.1))) (Kd.R_base ho0) hb); have n2_ := Aside0.mk (Kd.R_elder' (by (with_reducible repeat (first | apply Kd.R_alloc | apply Kd.R_drewN | apply Kd.R_drew)); exact (Kd.R_mono (Kd.R_far (p := ⟨gb1318, 2, none⟩) (Kd.R_far (p := ⟨gb1318, 1, none⟩) (Kd.R_far (p := ⟨gb1318, 0, none⟩) (Kd.R_types HO1311.out BK1318.out (by decide)) (fun _ hk => hk.2) (.int .i64 t1313)) (fun _ hk => hk.2) (.int .i64 t1314)) (fun _ hk => hk.2) (.slice Ao65 t1315.length co65)) (fun _ h_ => h_.1))) (Kd.R_base ho0) hb); have n3_ := Aside0.mk (Kd.R_elder' (by (with_reducible repeat (first | apply Kd.R_alloc | apply Kd.R_drewN | apply Kd.R_drew)); exact (Kd.R_mono (Kd.R_far (p := ⟨gb1318, 2, none⟩) (Kd.R_far (p := ⟨gb1318, 1, none⟩) (Kd.R_far (p := ⟨gb1318, 0, none⟩) (Kd.R_types HO1317.out BK1318.out (by decide)) (fun _ hk => hk.2) (.int .i64 t1313)) (fun _ hk => hk.2) (.int .i64 t1314)) (fun _ hk => hk.2) (.slice Ao65 t1315.length co65)) (fun _ h_ => h_.1))) (Kd.R_base ho0) hb); have n4_ := Aside0.mk (Kd.R_lower (Kd.R_new' (Kd.R_new' (Kd.R_new' (Kd.R_new' ho0 (Kd.R_lt (by (with_reducible repeat (first | apply Kd.R_alloc | apply Kd.R_drewN | apply Kd.R_drew)); exact (Kd.R_mono (Kd.R_far (p := ⟨gb1318, 2, none⟩) (Kd.R_far (p := ⟨gb1318, 1, none⟩) (Kd.R_far (p := ⟨gb1318, 0, none⟩) (Kd.R_types HO1301.out BK1318.out (by decide)) (fun _ hk => hk.2) (.int .i64 t1313)) (fun _ hk => hk.2) (.int .i64 t1314)) (fun _ hk => hk.2) (.slice Ao65 t1315.length co65)) (fun _ h_ => h_.1))))) (Kd.R_lt (by (with_reducible repeat (first | apply Kd.R_alloc | apply Kd.R_drewN | apply Kd.R_drew)); exact (Kd.R_mono (Kd.R_far (p := ⟨gb1318, 2, none⟩) (Kd.R_far (p := ⟨gb1318, 1, none⟩) (Kd.R_far (p := ⟨gb1318, 0, none⟩) (Kd.R_types HO1306.out BK1318.out (by decide)) (fun _ hk => hk.2) (.int .i64 t1313)) (fun _ hk => hk.2) (.int .i64 t1314)) (fun _ hk => hk.2) (.slice Ao65 t1315.length co65)) (fun _ h_ => h_.1))))) (Kd.R_lt (by (with_reducible repeat (first | apply Kd.R_alloc | apply Kd.R_drewN | apply Kd.R_drew)); exact (Kd.R_mono (Kd.R_far (p := ⟨gb1318, 2, none⟩) (Kd.R_far (p := ⟨gb1318, 1, none⟩) (Kd.R_far (p := ⟨gb1318, 0, none⟩) (Kd.R_types HO1311.out BK1318.out (by decide)) (fun _ hk => hk.2) (.int .i64 t1313)) (fun _ hk => hk.2) (.int .i64 t1314)) (fun _ hk => hk.2) (.slice Ao65 t1315.length co65)) (fun _ h_ => h_.1))))) (Kd.R_lt (by (with_reducible repeat (first | apply Kd.R_alloc | apply Kd.R_drewN | apply Kd.R_drew)); exact (Kd.R_mono (Kd.R_far (p := ⟨gb1318, 2, none⟩) (Kd.R_far (p := ⟨gb1318, 1, none⟩) (Kd.R_far (p := ⟨gb1318, 0, none⟩) (Kd.R_types HO1317.out BK1318.out (by decide)) (fun _ hk => hk.2) (.int .i64 t1313)) (fun _ hk => hk.2) (.int .i64 t1314)) (fun _ hk => hk.2) (.slice Ao65 t1315.length co65)) (fun _ h_ => h_.1))))) (below_size (sW_ HB.out))); have n5_ := Aside0.mk (blk_below (g := gb1293) (o := .cells #[.int .i64 a0_0, .int .i64 a0_1, .slice A0_2 l0_2.length c0_2] 55 (0, 0)) (by refine sB_ ?_; refine blk_far ?_ NB1293_1318.out _; refine sB_ ?_; refine blk_far ?_ NB1293_1318.out _; refine sB_ ?_; refine blk_far ?_ NB1293_1318.out _; refine sB_ ?_; exact BK1293.out) hb); have n6_ := Aside0.mk (blk_below (g := gb1294) (o := .cells #[.int .i64 a1_0, .int .i64 a1_1, .slice A1_2 l1_2.length c1_2] 48 (0, 0)) (by refine sB_ ?_; refine blk_far ?_ NB1294_1318.out _; refine sB_ ?_; refine blk_far ?_ NB1294_1318.out _; refine sB_ ?_; refine blk_far ?_ NB1294_1318.out _; refine sB_ ?_; exact BK1294.out) hb); have n7_ := Aside0.mk (blk_below (g := gb1312) (o := .cells #[.int .i64 t1307, .int .i64 t1308, .slice Ao55 t1309.length co55] 41 (0, 0)) (by refine sB_ ?_; refine blk_far ?_ NB1312_1318.out _; refine sB_ ?_; refine blk_far ?_ NB1312_1318.out _; refine sB_ ?_; refine blk_far ?_ NB1312_1318.out _; refine sB_ ?_; exact BK1312.out) hb); have n8_ := Aside0.mk (blk_below (g := gb1318) (o := .cells #[.int .i64 t1313, .int .i64 t1314, .slice Ao65 t1315.length co65] 26 (0, 0)) (by refine sB_ ?_; refine blk_put (cs := #[.int .i64 t1313, .int .i64 t1314, .slice none 0 0]) ?_ 2 _ rfl; refine sB_ ?_; refine blk_put (cs := #[.int .i64 t1313, .int .i64 0, .slice none 0 0]) ?_ 1 _ rfl; refine sB_ ?_; refine blk_put (cs := #[.int .i64 0, .int .i64 0, .slice none 0 0]) ?_ 0 _ rfl; refine sB_ ?_; exact BK1318.out) hb); have n9_ := Aside0.mk (below_step (sW_ HB.out) hb); clear HO1301; clear HO1306; clear HO1311; clear HO1317; clear BK1293; clear BK1294; clear BK1312; clear BK1318; clear HB; have HO1301 := n0_; have HO1306 := n1_; have HO1311 := n2_; have HO1317 := n3_; have HO1323 := n4_; have BK1293 := n5_; have BK1294 := n6_; have BK1312 := n7_; have BK1318 := n8_; have HB := n9_; clear n0_ n1_ n2_ n3_ n4_ n5_ n6_ n7_ n8_ n9_; (try clear hb); (try clear hb2); (try clear hk); (try clear hi); (try clear ho0)) | ((with_reducible refine gate_dst (N := 12) rfl ?_); refine box_event ?hg (N := 12) ?hd (cs := #[.int .i64 0, .int .i64 0, .slice none 0 0]) (t := 41) ?hr ?_; (case hd => rfl); (case hg => rfl); (case hr => first | (go_simp; done) | (go_simp; rfl)); intro gb1324 hg w69 hbox hb; have n0_ := Aside0.mk (Kd.R_below (sR_ HO1301.out) hb); have n1_ := Aside0.mk (Kd.R_below (sR_ HO1306.out) hb); have n2_ := Aside0.mk (Kd.R_below (sR_ HO1311.out) hb); have n3_ := Aside0.mk (Kd.R_below (sR_ HO1317.out) hb); have n4_ := Aside0.mk (Kd.R_below (sR_ HO1323.out) hb); have n5_ := Aside0.mk (blk_below (sB_ BK1293.out) hb); have n6_ := Aside0.mk (blk_below (sB_ BK1294.out) hb); have n7_ := Aside0.mk (blk_below (sB_ BK1312.out) hb); have n8_ := Aside0.mk (blk_below (sB_ BK1318.out) hb); have n9_ := Aside0.mk (below_step (sW_ HB.out) hb); have n10_ := Aside0.mk (hbox); have n11_ := Aside0.mk ((by rw [hg]; exact (below_size (sW_ HB.out)) : w.heap.size ≤ gb1324)); have n12_ := Aside0.mk ((by rw [hg]; exact (below_size (sW_ HB.out)) : w.heap.size ≤ gb1324)); have n13_ := Aside0.mk ((by rw [hg]; exact Nat.ne_of_lt (blk_lt (sB_ BK1293.out)) : gb1293 ≠ gb1324)); have n14_ := Aside0.mk ((by rw [hg]; exact Nat.ne_of_gt (blk_lt (sB_ BK1293.out)) : gb1324 ≠ gb1293)); have n15_ := Aside0.mk ((by rw [hg]; exact Nat.ne_of_lt (blk_lt (sB_ BK1294.out)) : gb1294 ≠ gb1324)); have n16_ := Aside0.mk ((by rw [hg]; exact Nat.ne_of_gt (blk_lt (sB_ BK1294.out)) : gb1324 ≠ gb1294)); have n17_ := Aside0.mk ((by rw [hg]; exact Nat.ne_of_lt (blk_lt (sB_ BK1312.out)) : gb1312 ≠ gb1324)); have n18_ := Aside0.mk ((by rw [hg]; exact Nat.ne_of_gt (blk_lt (sB_ BK1312.out)) : gb1324 ≠ gb1312)); have n19_ := Aside0.mk ((by rw [hg]; exact Nat.ne_of_lt (blk_lt (sB_ BK1318.out)) : gb1318 ≠ gb1324)); have n20_ := Aside0.mk ((by rw [hg]; exact Nat.ne_of_gt (blk_lt (sB_ BK1318.out)) : gb1324 ≠ gb1318)); clear HO1301; clear HO1306; clear HO1311; clear HO1317; clear HO1323; clear BK1293; clear BK1294; clear BK1312; clear BK1318; clear HB; have HO1301 := n0_; have HO1306 := n1_; have HO1311 := n2_; have HO1317 := n3_; have HO1323 := n4_; have BK1293 := n5_; have BK1294 := n6_; have BK1312 := n7_; have BK1318 := n8_; have HB := n9_; have BK1324 := n10_; have GW1324 := n11_; have GE1324 := n12_; have NB1293_1324 := n13_; have NB1324_1293 := n14_; have NB1294_1324 := n15_; have NB1324_1294 := n16_; have NB1312_1324 := n17_; have NB1324_1312 := n18_; have NB1318_1324 := n19_; have NB1324_1318 := n20_; clear n0_ n1_ n2_ n3_ n4_ n5_ n6_ n7_ n8_ n9_ n10_ n11_ n12_ n13_ n14_ n15_ n16_ n17_ n18_ n19_ n20_; clear hb hbox hg; have hnb70 := NB1324_1293.out; have hnc70 := NB1293_1324.out; have hnb71 := NB1324_1294.out; have hnc71 := NB1294_1324.out; have hnb72 := NB1324_1312.out; have hnc72 := NB1312_1324.out; have hnb73 := NB1324_1318.out; have hnc73 := NB1318_1324.out; have hcz74_0 : w69.cell? ⟨gb1324, 0, none⟩ = some (.int .i64 0) := (blk_cell BK1324.out 0).trans rfl; have hcz74_1 : w69.cell? ⟨gb1324, 1, none⟩ = some (.int .i64 0) := (blk_cell BK1324.out 1).trans rfl; have hcz74_2 : w69.cell? ⟨gb1324, 2, none⟩ = some (.slice none 0 0) := (blk_cell BK1324.out 2).trans rfl; have hfz74_0 := blk_frozen BK1324.out 0; have hfz74_1 := blk_frozen BK1324.out 1; have hfz74_2 := blk_frozen BK1324.out 2; obtain ⟨Ao75, co75, eo75⟩ := Kd.R_slice HO1323.out; subst eo75; have hcz76_0 : w69.cell? ⟨gb1318, 0, none⟩ = some (.int .i64 t1313) := (blk_cell BK1318.out 0).trans rfl; have hcz76_1 : w69.cell? ⟨gb1318, 1, none⟩ = some (.int .i64 t1314) := (blk_cell BK1318.out 1).trans rfl; have hcz76_2 : w69.cell? ⟨gb1318, 2, none⟩ = some (.slice Ao65 t1315.length co65) := (blk_cell BK1318.out 2).trans rfl; have hfz76_0 := blk_frozen BK1318.out 0; have hfz76_1 := blk_frozen BK1318.out 1; have hfz76_2 := blk_frozen BK1318.out 2) | ((with_reducible refine gate_callee (f := 78) rfl ?_); refine goesL_ (some 43) rfl rfl Try.func78 (by kernel_rfl) rfl #[.agg #[.int .i64 t1313, .int .i64 t1314, .slice Ao65 t1315.length co65], .agg #[.int .i64 t1319, .int .i64 t1320, .slice Ao75 t1321.length co75], .int .i64 a2, .int .i64 a3] rfl sL_ ?_; (with_reducible refine (impl_ScreenShifted.calls t1313 t1314 _ _ t1315 t1319 t1320 _ _ t1321 a2 a3 t1325 t1326 t1327 _ ?side1 ?side2 ?side3 ?side4 A26.out).mono ?_); (case side1 => refine (Kd.R_reads' (e := 3) (base := w.heap.size) (ok := fun k_ => ((((True ∧ some k_ ≠ (v1300 : Value).ownBlock) ∧ some k_ ≠ (v1305 : Value).ownBlock) ∧ some k_ ≠ (.slice Ao55 t1309.length co55 : Value).ownBlock) ∧ some k_ ≠ (.slice Ao75 t1321.length co75 : Value).ownBlock)) (n := t1315.length) (c := co65) ?_).2.2; exact (by (with_reducible repeat (first | apply Kd.R_alloc | apply Kd.R_drewN | apply Kd.R_drew)); exact (Kd.R_mono (Kd.R_far (p := ⟨gb1324, 2, none⟩) (Kd.R_far (p := ⟨gb1324, 1, none⟩) (Kd.R_far (p := ⟨gb1324, 0, none⟩) (Kd.R_types HO1317.out BK1324.out (by decide)) (fun _ hk => hk.2) (.int .i64 t1319)) (fun _ hk => hk.2) (.int .i64 t1320)) (fun _ hk => hk.2) (.slice Ao75 t1321.length co75)) (fun _ h_ => h_.1)))); (case side2 => exact (Kd.R_reads' HO1317.out).2.1); (case side3 => refine (Kd.R_reads' (e := 3) (base := w.heap.size) (ok := fun k_ => ((((True ∧ some k_ ≠ (v1300 : Value).ownBlock) ∧ some k_ ≠ (v1305 : Value).ownBlock) ∧ some k_ ≠ (.slice Ao55 t1309.length co55 : Value).ownBlock) ∧ some k_ ≠ (.slice Ao65 t1315.length co65 : Value).ownBlock)) (n := t1321.length) (c := co75) ?_).2.2; exact (by (with_reducible repeat (first | apply Kd.R_alloc | apply Kd.R_drewN | apply Kd.R_drew)); exact (Kd.R_mono (Kd.R_far (p := ⟨gb1324, 2, none⟩) (Kd.R_far (p := ⟨gb1324, 1, none⟩) (Kd.R_far (p := ⟨gb1324, 0, none⟩) (Kd.R_types HO1323.out BK1324.out (by decide)) (fun _ hk => hk.2) (.int .i64 t1319)) (fun _ hk => hk.2) (.int .i64 t1320)) (fun _ hk => hk.2) (.slice Ao75 t1321.length co75)) (fun _ h_ => h_.1)))); (case side4 => exact (Kd.R_reads' HO1323.out).2.1); rintro e w77 ⟨v1328, rfl, ho0, hb⟩; refine ⟨_, rfl, ?_⟩; have n0_ := Aside0.mk (Kd.R_elder' (by (with_reducible repeat (first | apply Kd.R_alloc | apply Kd.R_drewN | apply Kd.R_drew)); exact (Kd.R_mono (Kd.R_far (p := ⟨gb1324, 2, none⟩) (Kd.R_far (p := ⟨gb1324, 1, none⟩) (Kd.R_far (p := ⟨gb1324, 0, none⟩) (Kd.R_types HO1301.out BK1324.out (by decide)) (fun _ hk => hk.2) (.int .i64 t1319)) (fun _ hk => hk.2) (.int .i64 t1320)) (fun _ hk => hk.2) (.slice Ao75 t1321.length co75)) (fun _ h_ => h_.1))) (Kd.R_base ho0) hb); have n1_ := Aside0.mk (Kd.R_elder' (by (with_reducible repeat (first | apply Kd.R_alloc | apply Kd.R_drewN | apply Kd.R_drew)); exact (Kd.R_mono (Kd.R_far (p := ⟨gb1324, 2, none⟩) (Kd.R_far (p := ⟨gb1324, 1, none⟩) (Kd.R_far (p := ⟨gb1324, 0, none⟩) (Kd.R_types HO1306.out BK1324.out (by decide)) (fun _ hk => hk.2) (.int .i64 t1319)) (fun _ hk => hk.2) (.int .i64 t1320)) (fun _ hk => hk.2) (.slice Ao75 t1321.length co75)) (fun _ h_ => h_.1))) (Kd.R_base ho0) hb); have n2_ := Aside0.mk (Kd.R_elder' (by (with_reducible repeat (first | apply Kd.R_alloc | apply Kd.R_drewN | apply Kd.R_drew)); exact (Kd.R_mono (Kd.R_far (p := ⟨gb1324, 2, none⟩) (Kd.R_far (p := ⟨gb1324, 1, none⟩) (Kd.R_far (p := ⟨gb1324, 0, none⟩) (Kd.R_types HO1311.out BK1324.out (by decide)) (fun _ hk => hk.2) (.int .i64 t1319)) (fun _ hk => hk.2) (.int .i64 t1320)) (fun _ hk => hk.2) (.slice Ao75 t1321.length co75)) (fun _ h_ => h_.1))) (Kd.R_base ho0) hb); have n3_ := Aside0.mk (Kd.R_elder' (by (with_reducible repeat (first | apply Kd.R_alloc | apply Kd.R_drewN | apply Kd.R_drew)); exact (Kd.R_mono (Kd.R_far (p := ⟨gb1324, 2, none⟩) (Kd.R_far (p := ⟨gb1324, 1, none⟩) (Kd.R_far (p := ⟨gb1324, 0, none⟩) (Kd.R_types HO1317.out BK1324.out (by decide)) (fun _ hk => hk.2) (.int .i64 t1319)) (fun _ hk => hk.2) (.int .i64 t1320)) (fun _ hk => hk.2) (.slice Ao75 t1321.length co75)) (fun _ h_ => h_.1))) (Kd.R_base ho0) hb); have n4_ := Aside0.mk (Kd.R_elder' (by (with_reducible repeat (first | apply Kd.R_alloc | apply Kd.R_drewN | apply Kd.R_drew)); exact (Kd.R_mono (Kd.R_far (p := ⟨gb1324, 2, none⟩) (Kd.R_far (p := ⟨gb1324, 1, none⟩) (Kd.R_far (p := ⟨gb1324, 0, none⟩) (Kd.R_types HO1323.out BK1324.out (by decide)) (fun _ hk => hk.2) (.int .i64 t1319)) (fun _ hk => hk.2) (.int .i64 t1320)) (fun _ hk => hk.2) (.slice Ao75 t1321.length co75)) (fun _ h_ => h_.1))) (Kd.R_base ho0) hb); have n5_ := Aside0.mk (Kd.R_lower (Kd.R_new' (Kd.R_new' (Kd.R_new' (Kd.R_new' (Kd.R_new' ho0 (Kd.R_lt (by (with_reducible repeat (first | apply Kd.R_alloc | apply Kd.R_drewN | apply Kd.R_drew)); exact (Kd.R_mono (Kd.R_far (p := ⟨gb1324, 2, none⟩) (Kd.R_far (p := ⟨gb1324, 1, none⟩) (Kd.R_far (p := ⟨gb1324, 0, none⟩) (Kd.R_types HO1301.out BK1324.out (by decide)) (fun _ hk => hk.2) (.int .i64 t1319)) (fun _ hk => hk.2) (.int .i64 t1320)) (fun _ hk => hk.2) (.slice Ao75 t1321.length co75)) (fun _ h_ => h_.1))))) (Kd.R_lt (by (with_reducible repeat (first | apply Kd.R_alloc | apply Kd.R_drewN | apply Kd.R_drew)); exact (Kd.R_mono (Kd.R_far (p := ⟨gb1324, 2, none⟩) (Kd.R_far (p := ⟨gb1324, 1, none⟩) (Kd.R_far (p := ⟨gb1324, 0, none⟩) (Kd.R_types HO1306.out BK1324.out (by decide)) (fun _ hk => hk.2) (.int .i64 t1319)) (fun _ hk => hk.2) (.int .i64 t1320)) (fun _ hk => hk.2) (.slice Ao75 t1321.length co75)) (fun _ h_ => h_.1))))) (Kd.R_lt (by (with_reducible repeat (first | apply Kd.R_alloc | apply Kd.R_drewN | apply Kd.R_drew)); exact (Kd.R_mono (Kd.R_far (p := ⟨gb1324, 2, none⟩) (Kd.R_far (p := ⟨gb1324, 1, none⟩) (Kd.R_far (p := ⟨gb1324, 0, none⟩) (Kd.R_types HO1311.out BK1324.out (by decide)) (fun _ hk => hk.2) (.int .i64 t1319)) (fun _ hk => hk.2) (.int .i64 t1320)) (fun _ hk => hk.2) (.slice Ao75 t1321.length co75)) (fun _ h_ => h_.1))))) (Kd.R_lt (by (with_reducible repeat (first | apply Kd.R_alloc | apply Kd.R_drewN | apply Kd.R_drew)); exact (Kd.R_mono (Kd.R_far (p := ⟨gb1324, 2, none⟩) (Kd.R_far (p := ⟨gb1324, 1, none⟩) (Kd.R_far (p := ⟨gb1324, 0, none⟩) (Kd.R_types HO1317.out BK1324.out (by decide)) (fun _ hk => hk.2) (.int .i64 t1319)) (fun _ hk => hk.2) (.int .i64 t1320)) (fun _ hk => hk.2) (.slice Ao75 t1321.length co75)) (fun _ h_ => h_.1))))) (Kd.R_lt (by (with_reducible repeat (first | apply Kd.R_alloc | apply Kd.R_drewN | apply Kd.R_drew)); exact (Kd.R_mono (Kd.R_far (p := ⟨gb1324, 2, none⟩) (Kd.R_far (p := ⟨gb1324, 1, none⟩) (Kd.R_far (p := ⟨gb1324, 0, none⟩) (Kd.R_types HO1323.out BK1324.out (by decide)) (fun _ hk => hk.2) (.int .i64 t1319)) (fun _ hk => hk.2) (.int .i64 t1320)) (fun _ hk => hk.2) (.slice Ao75 t1321.length co75)) (fun _ h_ => h_.1))))) (below_size (sW_ HB.out))); have n6_ := Aside0.mk (blk_below (g := gb1293) (o := .cells #[.int .i64 a0_0, .int .i64 a0_1, .slice A0_2 l0_2.length c0_2] 55 (0, 0)) (by refine sB_ ?_; refine blk_far ?_ NB1293_1324.out _; refine sB_ ?_; refine blk_far ?_ NB1293_1324.out _; refine sB_ ?_; refine blk_far ?_ NB1293_1324.out _; refine sB_ ?_; exact BK1293.out) hb); have n7_ := Aside0.mk (blk_below (g := gb1294) (o := .cells #[.int .i64 a1_0, .int .i64 a1_1, .slice A1_2 l1_2.length c1_2] 48 (0, 0)) (by refine sB_ ?_; refine blk_far ?_ NB1294_1324.out _; refine sB_ ?_; refine blk_far ?_ NB1294_1324.out _; refine sB_ ?_; refine blk_far ?_ NB1294_1324.out _; refine sB_ ?_; exact BK1294.out) hb); have n8_ := Aside0.mk (blk_below (g := gb1312) (o := .cells #[.int .i64 t1307, .int .i64 t1308, .slice Ao55 t1309.length co55] 41 (0, 0)) (by refine sB_ ?_; refine blk_far ?_ NB1312_1324.out _; refine sB_ ?_; refine blk_far ?_ NB1312_1324.out _; refine sB_ ?_; refine blk_far ?_ NB1312_1324.out _; refine sB_ ?_; exact BK1312.out) hb); have n9_ := Aside0.mk (blk_below (g := gb1318) (o := .cells #[.int .i64 t1313, .int .i64 t1314, .slice Ao65 t1315.length co65] 26 (0, 0)) (by refine sB_ ?_; refine blk_far ?_ NB1318_1324.out _; refine sB_ ?_; refine blk_far ?_ NB1318_1324.out _; refine sB_ ?_; refine blk_far ?_ NB1318_1324.out _; refine sB_ ?_; exact BK1318.out) hb); have n10_ := Aside0.mk (blk_below (g := gb1324) (o := .cells #[.int .i64 t1319, .int .i64 t1320, .slice Ao75 t1321.length co75] 41 (0, 0)) (by refine sB_ ?_; refine blk_put (cs := #[.int .i64 t1319, .int .i64 t1320, .slice none 0 0]) ?_ 2 _ rfl; refine sB_ ?_; refine blk_put (cs := #[.int .i64 t1319, .int .i64 0, .slice none 0 0]) ?_ 1 _ rfl; refine sB_ ?_; refine blk_put (cs := #[.int .i64 0, .int .i64 0, .slice none 0 0]) ?_ 0 _ rfl; refine sB_ ?_; exact BK1324.out) hb); have n11_ := Aside0.mk (below_step (sW_ HB.out) hb); clear HO1301; clear HO1306; clear HO1311; clear HO1317; clear HO1323; clear BK1293; clear BK1294; clear BK1312; clear BK1318; clear BK1324; clear HB; have HO1301 := n0_; have HO1306 := n1_; have HO1311 := n2_; have HO1317 := n3_; have HO1323 := n4_; have HO1329 := n5_; have BK1293 := n6_; have BK1294 := n7_; have BK1312 := n8_; have BK1318 := n9_; have BK1324 := n10_; have HB := n11_; clear n0_ n1_ n2_ n3_ n4_ n5_ n6_ n7_ n8_ n9_ n10_ n11_; (try clear hb); (try clear hb2); (try clear hk); (try clear hi); (try clear ho0)) | ((with_reducible refine gate_dst (N := 13) rfl ?_); refine box_event ?hg (N := 13) ?hd (cs := #[.int .i64 0, .int .i64 0, .slice none 0 0]) (t := 41) ?hr ?_; (case hd => rfl); (case hg => rfl); (case hr => first | (go_simp; done) | (go_simp; rfl)); intro gb1330 hg w78 hbox hb; have n0_ := Aside0.mk (Kd.R_below (sR_ HO1301.out) hb); have n1_ := Aside0.mk (Kd.R_below (sR_ HO1306.out) hb); have n2_ := Aside0.mk (Kd.R_below (sR_ HO1311.out) hb); have n3_ := Aside0.mk (Kd.R_below (sR_ HO1317.out) hb); have n4_ := Aside0.mk (Kd.R_below (sR_ HO1323.out) hb); have n5_ := Aside0.mk (Kd.R_below (sR_ HO1329.out) hb); have n6_ := Aside0.mk (blk_below (sB_ BK1293.out) hb); have n7_ := Aside0.mk (blk_below (sB_ BK1294.out) hb); have n8_ := Aside0.mk (blk_below (sB_ BK1312.out) hb); have n9_ := Aside0.mk (blk_below (sB_ BK1318.out) hb); have n10_ := Aside0.mk (blk_below (sB_ BK1324.out) hb); have n11_ := Aside0.mk (below_step (sW_ HB.out) hb); have n12_ := Aside0.mk (hbox); have n13_ := Aside0.mk ((by rw [hg]; exact (below_size (sW_ HB.out)) : w.heap.size ≤ gb1330)); have n14_ := Aside0.mk ((by rw [hg]; exact (below_size (sW_ HB.out)) : w.heap.size ≤ gb1330)); have n15_ := Aside0.mk ((by rw [hg]; exact Nat.ne_of_lt (blk_lt (sB_ BK1293.out)) : gb1293 ≠ gb1330)); have n16_ := Aside0.mk ((by rw [hg]; exact Nat.ne_of_gt (blk_lt (sB_ BK1293.out)) : gb1330 ≠ gb1293)); have n17_ := Aside0.mk ((by rw [hg]; exact Nat.ne_of_lt (blk_lt (sB_ BK1294.out)) : gb1294 ≠ gb1330)); have n18_ := Aside0.mk ((by rw [hg]; exact Nat.ne_of_gt (blk_lt (sB_ BK1294.out)) : gb1330 ≠ gb1294)); have n19_ := Aside0.mk ((by rw [hg]; exact Nat.ne_of_lt (blk_lt (sB_ BK1312.out)) : gb1312 ≠ gb1330)); have n20_ := Aside0.mk ((by rw [hg]; exact Nat.ne_of_gt (blk_lt (sB_ BK1312.out)) : gb1330 ≠ gb1312)); have n21_ := Aside0.mk ((by rw [hg]; exact Nat.ne_of_lt (blk_lt (sB_ BK1318.out)) : gb1318 ≠ gb1330)); have n22_ := Aside0.mk ((by rw [hg]; exact Nat.ne_of_gt (blk_lt (sB_ BK1318.out)) : gb1330 ≠ gb1318)); have n23_ := Aside0.mk ((by rw [hg]; exact Nat.ne_of_lt (blk_lt (sB_ BK1324.out)) : gb1324 ≠ gb1330)); have n24_ := Aside0.mk ((by rw [hg]; exact Nat.ne_of_gt (blk_lt (sB_ BK1324.out)) : gb1330 ≠ gb1324)); clear HO1301; clear HO1306; clear HO1311; clear HO1317; clear HO1323; clear HO1329; clear BK1293; clear BK1294; clear BK1312; clear BK1318; clear BK1324; clear HB; have HO1301 := n0_; have HO1306 := n1_; have HO1311 := n2_; have HO1317 := n3_; have HO1323 := n4_; have HO1329 := n5_; have BK1293 := n6_; have BK1294 := n7_; have BK1312 := n8_; have BK1318 := n9_; have BK1324 := n10_; have HB := n11_; have BK1330 := n12_; have GW1330 := n13_; have GE1330 := n14_; have NB1293_1330 := n15_; have NB1330_1293 := n16_; have NB1294_1330 := n17_; have NB1330_1294 := n18_; have NB1312_1330 := n19_; have NB1330_1312 := n20_; have NB1318_1330 := n21_; have NB1330_1318 := n22_; have NB1324_1330 := n23_; have NB1330_1324 := n24_; clear n0_ n1_ n2_ n3_ n4_ n5_ n6_ n7_ n8_ n9_ n10_ n11_ n12_ n13_ n14_ n15_ n16_ n17_ n18_ n19_ n20_ n21_ n22_ n23_ n24_; clear hb hbox hg; have hnb79 := NB1330_1293.out; have hnc79 := NB1293_1330.out; have hnb80 := NB1330_1294.out; have hnc80 := NB1294_1330.out; have hnb81 := NB1330_1312.out; have hnc81 := NB1312_1330.out; have hnb82 := NB1330_1318.out; have hnc82 := NB1318_1330.out; have hnb83 := NB1330_1324.out; have hnc83 := NB1324_1330.out; have hcz84_0 : w78.cell? ⟨gb1330, 0, none⟩ = some (.int .i64 0) := (blk_cell BK1330.out 0).trans rfl; have hcz84_1 : w78.cell? ⟨gb1330, 1, none⟩ = some (.int .i64 0) := (blk_cell BK1330.out 1).trans rfl; have hcz84_2 : w78.cell? ⟨gb1330, 2, none⟩ = some (.slice none 0 0) := (blk_cell BK1330.out 2).trans rfl; have hfz84_0 := blk_frozen BK1330.out 0; have hfz84_1 := blk_frozen BK1330.out 1; have hfz84_2 := blk_frozen BK1330.out 2; obtain ⟨Ao85, co85, eo85⟩ := Kd.R_slice HO1329.out; subst eo85; have hcz86_0 : w78.cell? ⟨gb1312, 0, none⟩ = some (.int .i64 t1307) := (blk_cell BK1312.out 0).trans rfl; have hcz86_1 : w78.cell? ⟨gb1312, 1, none⟩ = some (.int .i64 t1308) := (blk_cell BK1312.out 1).trans rfl; have hcz86_2 : w78.cell? ⟨gb1312, 2, none⟩ = some (.slice Ao55 t1309.length co55) := (blk_cell BK1312.out 2).trans rfl; have hfz86_0 := blk_frozen BK1312.out 0; have hfz86_1 := blk_frozen BK1312.out 1; have hfz86_2 := blk_frozen BK1312.out 2) | ((with_reducible refine gate_callee (f := 49) rfl ?_); refine goesL_ (some 46) rfl rfl Try.func49 (by kernel_rfl) rfl #[.agg #[.int .i64 t1325, .int .i64 t1326, .slice Ao85 t1327.length co85], .agg #[.int .i64 t1307, .int .i64 t1308, .slice Ao55 t1309.length co55]] rfl sL_ ?_; (with_reducible refine (laws_eqPicture.calls k t1325 t1326 _ _ t1327 t1307 t1308 _ _ t1309 true _ ?side1 ?side2 ?side3 ?side4 A27.out).mono ?_); (case side1 => refine (Kd.R_reads' (e := 3) (base := w.heap.size) (ok := fun k_ => (((((True ∧ some k_ ≠ (v1300 : Value).ownBlock) ∧ some k_ ≠ (v1305 : Value).ownBlock) ∧ some k_ ≠ (.slice Ao55 t1309.length co55 : Value).ownBlock) ∧ some k_ ≠ (.slice Ao65 t1315.length co65 : Value).ownBlock) ∧ some k_ ≠ (.slice Ao75 t1321.length co75 : Value).ownBlock)) (n := t1327.length) (c := co85) ?_).2.2; exact (by (with_reducible repeat (first | apply Kd.R_alloc | apply Kd.R_drewN | apply Kd.R_drew)); exact (Kd.R_mono (Kd.R_far (p := ⟨gb1330, 2, none⟩) (Kd.R_far (p := ⟨gb1330, 1, none⟩) (Kd.R_far (p := ⟨gb1330, 0, none⟩) (Kd.R_types HO1329.out BK1330.out (by decide)) (fun _ hk => hk.2) (.int .i64 t1325)) (fun _ hk => hk.2) (.int .i64 t1326)) (fun _ hk => hk.2) (.slice Ao85 t1327.length co85)) (fun _ h_ => h_.1)))); (case side2 => exact (Kd.R_reads' HO1329.out).2.1); (case side3 => refine (Kd.R_reads' (e := 3) (base := w.heap.size) (ok := fun k_ => ((((some k_ ≠ (v1300 : Value).ownBlock ∧ some k_ ≠ (v1305 : Value).ownBlock) ∧ some k_ ≠ (.slice Ao65 t1315.length co65 : Value).ownBlock) ∧ some k_ ≠ (.slice Ao75 t1321.length co75 : Value).ownBlock) ∧ some k_ ≠ (.slice Ao85 t1327.length co85 : Value).ownBlock)) (n := t1309.length) (c := co55) ?_).2.2; exact (by (with_reducible repeat (first | apply Kd.R_alloc | apply Kd.R_drewN | apply Kd.R_drew)); exact (Kd.R_mono (Kd.R_far (p := ⟨gb1330, 2, none⟩) (Kd.R_far (p := ⟨gb1330, 1, none⟩) (Kd.R_far (p := ⟨gb1330, 0, none⟩) (Kd.R_types HO1311.out BK1330.out (by decide)) (fun _ hk => hk.2) (.int .i64 t1325)) (fun _ hk => hk.2) (.int .i64 t1326)) (fun _ hk => hk.2) (.slice Ao85 t1327.length co85)) (fun _ h_ => h_.1)))); (case side4 => exact (Kd.R_reads' HO1311.out).2.1); rintro e w87 ⟨rfl, hb⟩; refine ⟨_, rfl, ?_⟩; have n0_ := Aside0.mk (Kd.R_below (by (with_reducible repeat (first | apply Kd.R_alloc | apply Kd.R_drewN | apply Kd.R_drew)); exact (Kd.R_mono (Kd.R_far (p := ⟨gb1330, 2, none⟩) (Kd.R_far (p := ⟨gb1330, 1, none⟩) (Kd.R_far (p := ⟨gb1330, 0, none⟩) (Kd.R_types HO1301.out BK1330.out (by decide)) (fun _ hk => hk.2) (.int .i64 t1325)) (fun _ hk => hk.2) (.int .i64 t1326)) (fun _ hk => hk.2) (.slice Ao85 t1327.length co85)) (fun _ h_ => h_.1))) hb); have n1_ := Aside0.mk (Kd.R_below (by (with_reducible repeat (first | apply Kd.R_alloc | apply Kd.R_drewN | apply Kd.R_drew)); exact (Kd.R_mono (Kd.R_far (p := ⟨gb1330, 2, none⟩) (Kd.R_far (p := ⟨gb1330, 1, none⟩) (Kd.R_far (p := ⟨gb1330, 0, none⟩) (Kd.R_types HO1306.out BK1330.out (by decide)) (fun _ hk => hk.2) (.int .i64 t1325)) (fun _ hk => hk.2) (.int .i64 t1326)) (fun _ hk => hk.2) (.slice Ao85 t1327.length co85)) (fun _ h_ => h_.1))) hb); have n2_ := Aside0.mk (Kd.R_below (by (with_reducible repeat (first | apply Kd.R_alloc | apply Kd.R_drewN | apply Kd.R_drew)); exact (Kd.R_mono (Kd.R_far (p := ⟨gb1330, 2, none⟩) (Kd.R_far (p := ⟨gb1330, 1, none⟩) (Kd.R_far (p := ⟨gb1330, 0, none⟩) (Kd.R_types HO1311.out BK1330.out (by decide)) (fun _ hk => hk.2) (.int .i64 t1325)) (fun _ hk => hk.2) (.int .i64 t1326)) (fun _ hk => hk.2) (.slice Ao85 t1327.length co85)) (fun _ h_ => h_.1))) hb); have n3_ := Aside0.mk (Kd.R_below (by (with_reducible repeat (first | apply Kd.R_alloc | apply Kd.R_drewN | apply Kd.R_drew)); exact (Kd.R_mono (Kd.R_far (p := ⟨gb1330, 2, none⟩) (Kd.R_far (p := ⟨gb1330, 1, none⟩) (Kd.R_far (p := ⟨gb1330, 0, none⟩) (Kd.R_types HO1317.out BK1330.out (by decide)) (fun _ hk => hk.2) (.int .i64 t1325)) (fun _ hk => hk.2) (.int .i64 t1326)) (fun _ hk => hk.2) (.slice Ao85 t1327.length co85)) (fun _ h_ => h_.1))) hb); have n4_ := Aside0.mk (Kd.R_below (by (with_reducible repeat (first | apply Kd.R_alloc | apply Kd.R_drewN | apply Kd.R_drew)); exact (Kd.R_mono (Kd.R_far (p := ⟨gb1330, 2, none⟩) (Kd.R_far (p := ⟨gb1330, 1, none⟩) (Kd.R_far (p := ⟨gb1330, 0, none⟩) (Kd.R_types HO1323.out BK1330.out (by decide)) (fun _ hk => hk.2) (.int .i64 t1325)) (fun _ hk => hk.2) (.int .i64 t1326)) (fun _ hk => hk.2) (.slice Ao85 t1327.length co85)) (fun _ h_ => h_.1))) hb); have n5_ := Aside0.mk (Kd.R_below (by (with_reducible repeat (first | apply Kd.R_alloc | apply Kd.R_drewN | apply Kd.R_drew)); exact (Kd.R_mono (Kd.R_far (p := ⟨gb1330, 2, none⟩) (Kd.R_far (p := ⟨gb1330, 1, none⟩) (Kd.R_far (p := ⟨gb1330, 0, none⟩) (Kd.R_types HO1329.out BK1330.out (by decide)) (fun _ hk => hk.2) (.int .i64 t1325)) (fun _ hk => hk.2) (.int .i64 t1326)) (fun _ hk => hk.2) (.slice Ao85 t1327.length co85)) (fun _ h_ => h_.1))) hb); have n6_ := Aside0.mk (blk_below (g := gb1293) (o := .cells #[.int .i64 a0_0, .int .i64 a0_1, .slice A0_2 l0_2.length c0_2] 55 (0, 0)) (by refine sB_ ?_; refine blk_far ?_ NB1293_1330.out _; refine sB_ ?_; refine blk_far ?_ NB1293_1330.out _; refine sB_ ?_; refine blk_far ?_ NB1293_1330.out _; refine sB_ ?_; exact BK1293.out) hb); have n7_ := Aside0.mk (blk_below (g := gb1294) (o := .cells #[.int .i64 a1_0, .int .i64 a1_1, .slice A1_2 l1_2.length c1_2] 48 (0, 0)) (by refine sB_ ?_; refine blk_far ?_ NB1294_1330.out _; refine sB_ ?_; refine blk_far ?_ NB1294_1330.out _; refine sB_ ?_; refine blk_far ?_ NB1294_1330.out _; refine sB_ ?_; exact BK1294.out) hb); have n8_ := Aside0.mk (blk_below (g := gb1312) (o := .cells #[.int .i64 t1307, .int .i64 t1308, .slice Ao55 t1309.length co55] 41 (0, 0)) (by refine sB_ ?_; refine blk_far ?_ NB1312_1330.out _; refine sB_ ?_; refine blk_far ?_ NB1312_1330.out _; refine sB_ ?_; refine blk_far ?_ NB1312_1330.out _; refine sB_ ?_; exact BK1312.out) hb); have n9_ := Aside0.mk (blk_below (g := gb1318) (o := .cells #[.int .i64 t1313, .int .i64 t1314, .slice Ao65 t1315.length co65] 26 (0, 0)) (by refine sB_ ?_; refine blk_far ?_ NB1318_1330.out _; refine sB_ ?_; refine blk_far ?_ NB1318_1330.out _; refine sB_ ?_; refine blk_far ?_ NB1318_1330.out _; refine sB_ ?_; exact BK1318.out) hb); have n10_ := Aside0.mk (blk_below (g := gb1324) (o := .cells #[.int .i64 t1319, .int .i64 t1320, .slice Ao75 t1321.length co75] 41 (0, 0)) (by refine sB_ ?_; refine blk_far ?_ NB1324_1330.out _; refine sB_ ?_; refine blk_far ?_ NB1324_1330.out _; refine sB_ ?_; refine blk_far ?_ NB1324_1330.out _; refine sB_ ?_; exact BK1324.out) hb); have n11_ := Aside0.mk (blk_below (g := gb1330) (o := .cells #[.int .i64 t1325, .int .i64 t1326, .slice Ao85 t1327.length co85] 41 (0, 0)) (by refine sB_ ?_; refine blk_put (cs := #[.int .i64 t1325, .int .i64 t1326, .slice none 0 0]) ?_ 2 _ rfl; refine sB_ ?_; refine blk_put (cs := #[.int .i64 t1325, .int .i64 0, .slice none 0 0]) ?_ 1 _ rfl; refine sB_ ?_; refine blk_put (cs := #[.int .i64 0, .int .i64 0, .slice none 0 0]) ?_ 0 _ rfl; refine sB_ ?_; exact BK1330.out) hb); have n12_ := Aside0.mk (below_step (sW_ HB.out) hb); clear HO1301; clear HO1306; clear HO1311; clear HO1317; clear HO1323; clear HO1329; clear BK1293; clear BK1294; clear BK1312; clear BK1318; clear BK1324; clear BK1330; clear HB; have HO1301 := n0_; have HO1306 := n1_; have HO1311 := n2_; have HO1317 := n3_; have HO1323 := n4_; have HO1329 := n5_; have BK1293 := n6_; have BK1294 := n7_; have BK1312 := n8_; have BK1318 := n9_; have BK1324 := n10_; have BK1330 := n11_; have HB := n12_; clear n0_ n1_ n2_ n3_ n4_ n5_ n6_ n7_ n8_ n9_ n10_ n11_ n12_; (try clear hb); (try clear hb2); (try clear hk); (try clear hi)))
      have n0_ := Aside0.mk (Kd.R_drew HO1301.out)
      have n1_ := Aside0.mk (Kd.R_drew HO1306.out)
      have n2_ := Aside0.mk (Kd.R_drew HO1311.out)
      have n3_ := Aside0.mk (Kd.R_drew HO1317.out)
      have n4_ := Aside0.mk (Kd.R_drew HO1323.out)
      have n5_ := Aside0.mk (Kd.R_drew HO1329.out)
      have n6_ := Aside0.mk (blk_drew BK1293.out)
      have n7_ := Aside0.mk (blk_drew BK1294.out)
      have n8_ := Aside0.mk (blk_drew BK1312.out)
      have n9_ := Aside0.mk (blk_drew BK1318.out)
      have n10_ := Aside0.mk (blk_drew BK1324.out)
      have n11_ := Aside0.mk (blk_drew BK1330.out)
      have n12_ := Aside0.mk (below_drew1 HB.out)
      clear HO1301 HO1306 HO1311 HO1317 HO1323 HO1329 BK1293 BK1294 BK1312 BK1318 BK1324 BK1330 HB; have HO1301 := n0_; have HO1306 := n1_; have HO1311 := n2_; have HO1317 := n3_; have HO1323 := n4_; have HO1329 := n5_; have BK1293 := n6_; have BK1294 := n7_; have BK1312 := n8_; have BK1318 := n9_; have BK1324 := n10_; have BK1330 := n11_; have HB := n12_; clear n0_ n1_ n2_ n3_ n4_ n5_ n6_ n7_ n8_ n9_ n10_ n11_ n12_
      refine start_ (n := 5) (S := fun w' => w'.cell? ⟨gb1318, 0, none⟩ = some (.int .i64 t1313) ∧ w'.cell? ⟨gb1318, 1, none⟩ = some (.int .i64 t1314) ∧ w'.cell? ⟨gb1318, 2, none⟩ = some (.slice Ao65 t1315.length co65) ∧ w'.cell? ⟨gb1293, 0, none⟩ = some (.int .i64 a0_0) ∧ w'.cell? ⟨gb1293, 1, none⟩ = some (.int .i64 a0_1) ∧ w'.cell? ⟨gb1293, 2, none⟩ = some (.slice A0_2 l0_2.length c0_2)) (ds := []) #[false, false, false, false, false] (by kernel_rfl) rfl rfl ⟨(blk_cell BK1318.out 0).trans rfl, (blk_cell BK1318.out 1).trans rfl, (blk_cell BK1318.out 2).trans rfl, (blk_cell BK1293.out 0).trans rfl, (blk_cell BK1293.out 1).trans rfl, (blk_cell BK1293.out 2).trans rfl⟩ (fun hHeld => ?_)
      generalize w87.drew = w88 at HO1301 HO1306 HO1311 HO1317 HO1323 HO1329 BK1293 BK1294 BK1312 BK1318 BK1324 BK1330 HB hHeld ⊢
      refine take_ (i := 0) (N := some 48) (v := ?_) (a' := ?_) #[true, false, false, false, false] rfl rfl (by kernel_rfl) (fun _ _ _ h => h) (Or.inl ⟨by rfl, ?_⟩) hHeld ?_ ?_
      rotate_left
      ·rintro w' ⟨s0, s1, s2, s3, s4, s5⟩
       go_simp
       with_reducible rfl
      rotate_left
      ·simp only [Act.put, List.setIfInBounds_toArray, List.set_cons_zero, List.set_cons_succ, i64_w, i32_w]
       rfl
      refine take_ (i := 1) (N := some 49) (v := ?_) (a' := ?_) #[true, true, false, false, false] rfl rfl (by kernel_rfl) (fun _ _ _ h => h) (Or.inl ⟨by rfl, ?_⟩) hHeld ?_ ?_
      rotate_left
      ·rintro w' ⟨s0, s1, s2, s3, s4, s5⟩
       go_simp
       with_reducible rfl
      rotate_left
      ·simp only [Act.put, List.setIfInBounds_toArray, List.set_cons_zero, List.set_cons_succ, i64_w, i32_w]
       rfl
      refine one_ (i := 2) (N := some 50) #[true, true, true, false, false] rfl rfl (by kernel_rfl) (by decide) (fun K hK => ?_)
      refine goes_ Try.func58 (by kernel_rfl) rfl #[.agg #[.int .i64 a0_0, .int .i64 a0_1, .slice A0_2 l0_2.length c0_2]] (by rfl) rfl rfl sL_ ?_
      with_reducible refine (laws_toMatrix.calls k a0_0 a0_1 _ _ l0_2 t1332 t1333 t1334 _ ?side1 ?side2 A29.out).mono ?_
      (case side1 => repeat (first | exact (Kd.C_below HR0_2.out HB.out) | (with_reducible refine Kd.C_alloc ?_ _) | (with_reducible refine Kd.C_drewN ?_ _) | (with_reducible refine Kd.C_drew ?_)))
      (case side2 => exact HC0_2.out)
      rintro e w89 ⟨v1335, rfl, ho0, hb⟩
      refine ⟨_, rfl, ?_⟩
      have n0_ := Aside0.mk (Kd.R_elder' (sR_ HO1301.out) (Kd.R_base ho0) hb)
      have n1_ := Aside0.mk (Kd.R_elder' (sR_ HO1306.out) (Kd.R_base ho0) hb)
      have n2_ := Aside0.mk (Kd.R_elder' (sR_ HO1311.out) (Kd.R_base ho0) hb)
      have n3_ := Aside0.mk (Kd.R_elder' (sR_ HO1317.out) (Kd.R_base ho0) hb)
      have n4_ := Aside0.mk (Kd.R_elder' (sR_ HO1323.out) (Kd.R_base ho0) hb)
      have n5_ := Aside0.mk (Kd.R_elder' (sR_ HO1329.out) (Kd.R_base ho0) hb)
      have n6_ := Aside0.mk (Kd.R_lower (Kd.R_new' (Kd.R_new' (Kd.R_new' (Kd.R_new' (Kd.R_new' (Kd.R_new' ho0 (Kd.R_lt (sR_ HO1301.out))) (Kd.R_lt (sR_ HO1306.out))) (Kd.R_lt (sR_ HO1311.out))) (Kd.R_lt (sR_ HO1317.out))) (Kd.R_lt (sR_ HO1323.out))) (Kd.R_lt (sR_ HO1329.out))) (below_size (sW_ HB.out)))
      have n7_ := Aside0.mk (blk_below (sB_ BK1293.out) hb)
      have n8_ := Aside0.mk (blk_below (sB_ BK1294.out) hb)
      have n9_ := Aside0.mk (blk_below (sB_ BK1312.out) hb)
      have n10_ := Aside0.mk (blk_below (sB_ BK1318.out) hb)
      have n11_ := Aside0.mk (blk_below (sB_ BK1324.out) hb)
      have n12_ := Aside0.mk (blk_below (sB_ BK1330.out) hb)
      have n13_ := Aside0.mk (below_step (sW_ HB.out) hb)
      clear HO1301 HO1306 HO1311 HO1317 HO1323 HO1329 BK1293 BK1294 BK1312 BK1318 BK1324 BK1330 HB; have HO1301 := n0_; have HO1306 := n1_; have HO1311 := n2_; have HO1317 := n3_; have HO1323 := n4_; have HO1329 := n5_; have HO1336 := n6_; have BK1293 := n7_; have BK1294 := n8_; have BK1312 := n9_; have BK1318 := n10_; have BK1324 := n11_; have BK1330 := n12_; have HB := n13_; clear n0_ n1_ n2_ n3_ n4_ n5_ n6_ n7_ n8_ n9_ n10_ n11_ n12_ n13_
      (try clear hb)
      (try clear hb2)
      (try clear hk)
      (try clear hi)
      (try clear ho0)
      obtain ⟨Ao90, co90, eo90⟩ := Kd.R_slice HO1336.out
      (first | subst eo90 | (injection eo90 with f1_ f2_ f3_; have f4_ := f1_.symm; have f5_ := f3_.symm; clear f1_ f2_ f3_; subst f4_; subst f5_))
      refine hK.out _ _ ⟨(blk_cell BK1318.out 0).trans rfl, (blk_cell BK1318.out 1).trans rfl, (blk_cell BK1318.out 2).trans rfl, (blk_cell BK1293.out 0).trans rfl, (blk_cell BK1293.out 1).trans rfl, (blk_cell BK1293.out 2).trans rfl⟩ (fun hHeld => ?_)
      clear hK K
      refine norm_ (a' := ?_) ?_ ?_
      rotate_left
      ·show Act.put _ (some 50) _ = _
       simp only [Act.put, List.setIfInBounds_toArray, List.set_cons_zero, List.set_cons_succ, i64_w, i32_w]
       rfl
      refine one_ (i := 3) (N := some 51) #[true, true, true, true, false] rfl rfl (by kernel_rfl) (by decide) (fun K hK => ?_)
      refine goes_ Try.func34 (by kernel_rfl) rfl #[.agg #[.int .i64 t1313, .int .i64 t1314, .slice Ao65 t1315.length co65], .agg #[.int .i64 t1332, .int .i64 t1333, .slice Ao90 t1334.length co90]] (by rfl) rfl rfl sL_ ?_
      with_reducible refine (laws_eqMatrix.calls k t1313 t1314 _ _ t1315 t1332 t1333 _ _ t1334 true _ ?side1 ?side2 ?side3 ?side4 A30.out).mono ?_
      (case side1 => repeat (first | exact (Kd.R_reads' HO1317.out).2.2 | (with_reducible refine Kd.C_alloc ?_ _) | (with_reducible refine Kd.C_drewN ?_ _) | (with_reducible refine Kd.C_drew ?_)))
      (case side2 => exact (Kd.R_reads' HO1317.out).2.1)
      (case side3 => repeat (first | exact (Kd.R_reads' HO1336.out).2.2 | (with_reducible refine Kd.C_alloc ?_ _) | (with_reducible refine Kd.C_drewN ?_ _) | (with_reducible refine Kd.C_drew ?_)))
      (case side4 => exact (Kd.R_reads' HO1336.out).2.1)
      rintro e w91 ⟨rfl, hb⟩
      refine ⟨_, rfl, ?_⟩
      have n0_ := Aside0.mk (Kd.R_below (sR_ HO1301.out) hb)
      have n1_ := Aside0.mk (Kd.R_below (sR_ HO1306.out) hb)
      have n2_ := Aside0.mk (Kd.R_below (sR_ HO1311.out) hb)
      have n3_ := Aside0.mk (Kd.R_below (sR_ HO1317.out) hb)
      have n4_ := Aside0.mk (Kd.R_below (sR_ HO1323.out) hb)
      have n5_ := Aside0.mk (Kd.R_below (sR_ HO1329.out) hb)
      have n6_ := Aside0.mk (Kd.R_below (sR_ HO1336.out) hb)
      have n7_ := Aside0.mk (blk_below (sB_ BK1293.out) hb)
      have n8_ := Aside0.mk (blk_below (sB_ BK1294.out) hb)
      have n9_ := Aside0.mk (blk_below (sB_ BK1312.out) hb)
      have n10_ := Aside0.mk (blk_below (sB_ BK1318.out) hb)
      have n11_ := Aside0.mk (blk_below (sB_ BK1324.out) hb)
      have n12_ := Aside0.mk (blk_below (sB_ BK1330.out) hb)
      have n13_ := Aside0.mk (below_step (sW_ HB.out) hb)
      clear HO1301 HO1306 HO1311 HO1317 HO1323 HO1329 HO1336 BK1293 BK1294 BK1312 BK1318 BK1324 BK1330 HB; have HO1301 := n0_; have HO1306 := n1_; have HO1311 := n2_; have HO1317 := n3_; have HO1323 := n4_; have HO1329 := n5_; have HO1336 := n6_; have BK1293 := n7_; have BK1294 := n8_; have BK1312 := n9_; have BK1318 := n10_; have BK1324 := n11_; have BK1330 := n12_; have HB := n13_; clear n0_ n1_ n2_ n3_ n4_ n5_ n6_ n7_ n8_ n9_ n10_ n11_ n12_ n13_
      (try clear hb)
      (try clear hb2)
      (try clear hk)
      (try clear hi)
      refine hK.out _ _ ⟨(blk_cell BK1318.out 0).trans rfl, (blk_cell BK1318.out 1).trans rfl, (blk_cell BK1318.out 2).trans rfl, (blk_cell BK1293.out 0).trans rfl, (blk_cell BK1293.out 1).trans rfl, (blk_cell BK1293.out 2).trans rfl⟩ (fun hHeld => ?_)
      clear hK K
      refine norm_ (a' := ?_) ?_ ?_
      rotate_left
      ·show Act.put _ (some 51) _ = _
       simp only [Act.put, List.setIfInBounds_toArray, List.set_cons_zero, List.set_cons_succ, i64_w, i32_w]
       rfl
      refine pure_ (i := 4) (N := some 52) (v := ?_) (a' := ?_) #[true, true, true, true, true] rfl rfl (by kernel_rfl) (fun _ _ _ h => h) (Or.inl ⟨by rfl, ?_⟩) ?_ ?_
      rotate_left
      ·intro w'
       go_simp
       with_reducible rfl
      rotate_left
      ·simp only [Act.put, List.setIfInBounds_toArray, List.set_cons_zero, List.set_cons_succ, i64_w, i32_w]
       rfl
      refine done_ (by kernel_rfl) ?_
      try go_wp2
      have n0_ := Aside0.mk (Kd.R_drew HO1301.out)
      have n1_ := Aside0.mk (Kd.R_drew HO1306.out)
      have n2_ := Aside0.mk (Kd.R_drew HO1311.out)
      have n3_ := Aside0.mk (Kd.R_drew HO1317.out)
      have n4_ := Aside0.mk (Kd.R_drew HO1323.out)
      have n5_ := Aside0.mk (Kd.R_drew HO1329.out)
      have n6_ := Aside0.mk (Kd.R_drew HO1336.out)
      have n7_ := Aside0.mk (blk_drew BK1293.out)
      have n8_ := Aside0.mk (blk_drew BK1294.out)
      have n9_ := Aside0.mk (blk_drew BK1312.out)
      have n10_ := Aside0.mk (blk_drew BK1318.out)
      have n11_ := Aside0.mk (blk_drew BK1324.out)
      have n12_ := Aside0.mk (blk_drew BK1330.out)
      have n13_ := Aside0.mk (below_drew1 HB.out)
      clear HO1301 HO1306 HO1311 HO1317 HO1323 HO1329 HO1336 BK1293 BK1294 BK1312 BK1318 BK1324 BK1330 HB; have HO1301 := n0_; have HO1306 := n1_; have HO1311 := n2_; have HO1317 := n3_; have HO1323 := n4_; have HO1329 := n5_; have HO1336 := n6_; have BK1293 := n7_; have BK1294 := n8_; have BK1312 := n9_; have BK1318 := n10_; have BK1324 := n11_; have BK1330 := n12_; have HB := n13_; clear n0_ n1_ n2_ n3_ n4_ n5_ n6_ n7_ n8_ n9_ n10_ n11_ n12_ n13_
      refine start_ (n := 5) (S := fun w' => w'.cell? ⟨gb1324, 0, none⟩ = some (.int .i64 t1319) ∧ w'.cell? ⟨gb1324, 1, none⟩ = some (.int .i64 t1320) ∧ w'.cell? ⟨gb1324, 2, none⟩ = some (.slice Ao75 t1321.length co75) ∧ w'.cell? ⟨gb1294, 0, none⟩ = some (.int .i64 a1_0) ∧ w'.cell? ⟨gb1294, 1, none⟩ = some (.int .i64 a1_1) ∧ w'.cell? ⟨gb1294, 2, none⟩ = some (.slice A1_2 l1_2.length c1_2)) (ds := []) #[false, false, false, false, false] (by kernel_rfl) rfl rfl ⟨(blk_cell BK1324.out 0).trans rfl, (blk_cell BK1324.out 1).trans rfl, (blk_cell BK1324.out 2).trans rfl, (blk_cell BK1294.out 0).trans rfl, (blk_cell BK1294.out 1).trans rfl, (blk_cell BK1294.out 2).trans rfl⟩ (fun hHeld => ?_)
      generalize w91.drew = w92 at HO1301 HO1306 HO1311 HO1317 HO1323 HO1329 HO1336 BK1293 BK1294 BK1312 BK1318 BK1324 BK1330 HB hHeld ⊢
      refine take_ (i := 0) (N := some 53) (v := ?_) (a' := ?_) #[true, false, false, false, false] rfl rfl (by kernel_rfl) (fun _ _ _ h => h) (Or.inl ⟨by rfl, ?_⟩) hHeld ?_ ?_
      rotate_left
      ·rintro w' ⟨s0, s1, s2, s3, s4, s5⟩
       go_simp
       with_reducible rfl
      rotate_left
      ·simp only [Act.put, List.setIfInBounds_toArray, List.set_cons_zero, List.set_cons_succ, i64_w, i32_w]
       rfl
      refine take_ (i := 1) (N := some 54) (v := ?_) (a' := ?_) #[true, true, false, false, false] rfl rfl (by kernel_rfl) (fun _ _ _ h => h) (Or.inl ⟨by rfl, ?_⟩) hHeld ?_ ?_
      rotate_left
      ·rintro w' ⟨s0, s1, s2, s3, s4, s5⟩
       go_simp
       with_reducible rfl
      rotate_left
      ·simp only [Act.put, List.setIfInBounds_toArray, List.set_cons_zero, List.set_cons_succ, i64_w, i32_w]
       rfl
      refine one_ (i := 2) (N := some 55) #[true, true, true, false, false] rfl rfl (by kernel_rfl) (by decide) (fun K hK => ?_)
      refine goes_ Try.func48 (by kernel_rfl) rfl #[.agg #[.int .i64 a1_0, .int .i64 a1_1, .slice A1_2 l1_2.length c1_2]] (by rfl) rfl rfl sL_ ?_
      with_reducible refine (laws_toPicture.calls k a1_0 a1_1 _ _ l1_2 t1338 t1339 t1340 _ ?side1 ?side2 A32.out).mono ?_
      (case side1 => repeat (first | exact (Kd.C_below HR1_2.out HB.out) | (with_reducible refine Kd.C_alloc ?_ _) | (with_reducible refine Kd.C_drewN ?_ _) | (with_reducible refine Kd.C_drew ?_)))
      (case side2 => exact HC1_2.out)
      rintro e w93 ⟨v1341, rfl, ho0, hb⟩
      refine ⟨_, rfl, ?_⟩
      have n0_ := Aside0.mk (Kd.R_elder' (sR_ HO1301.out) (Kd.R_base ho0) hb)
      have n1_ := Aside0.mk (Kd.R_elder' (sR_ HO1306.out) (Kd.R_base ho0) hb)
      have n2_ := Aside0.mk (Kd.R_elder' (sR_ HO1311.out) (Kd.R_base ho0) hb)
      have n3_ := Aside0.mk (Kd.R_elder' (sR_ HO1317.out) (Kd.R_base ho0) hb)
      have n4_ := Aside0.mk (Kd.R_elder' (sR_ HO1323.out) (Kd.R_base ho0) hb)
      have n5_ := Aside0.mk (Kd.R_elder' (sR_ HO1329.out) (Kd.R_base ho0) hb)
      have n6_ := Aside0.mk (Kd.R_elder' (sR_ HO1336.out) (Kd.R_base ho0) hb)
      have n7_ := Aside0.mk (Kd.R_lower (Kd.R_new' (Kd.R_new' (Kd.R_new' (Kd.R_new' (Kd.R_new' (Kd.R_new' (Kd.R_new' ho0 (Kd.R_lt (sR_ HO1301.out))) (Kd.R_lt (sR_ HO1306.out))) (Kd.R_lt (sR_ HO1311.out))) (Kd.R_lt (sR_ HO1317.out))) (Kd.R_lt (sR_ HO1323.out))) (Kd.R_lt (sR_ HO1329.out))) (Kd.R_lt (sR_ HO1336.out))) (below_size (sW_ HB.out)))
      have n8_ := Aside0.mk (blk_below (sB_ BK1293.out) hb)
      have n9_ := Aside0.mk (blk_below (sB_ BK1294.out) hb)
      have n10_ := Aside0.mk (blk_below (sB_ BK1312.out) hb)
      have n11_ := Aside0.mk (blk_below (sB_ BK1318.out) hb)
      have n12_ := Aside0.mk (blk_below (sB_ BK1324.out) hb)
      have n13_ := Aside0.mk (blk_below (sB_ BK1330.out) hb)
      have n14_ := Aside0.mk (below_step (sW_ HB.out) hb)
      clear HO1301 HO1306 HO1311 HO1317 HO1323 HO1329 HO1336 BK1293 BK1294 BK1312 BK1318 BK1324 BK1330 HB; have HO1301 := n0_; have HO1306 := n1_; have HO1311 := n2_; have HO1317 := n3_; have HO1323 := n4_; have HO1329 := n5_; have HO1336 := n6_; have HO1342 := n7_; have BK1293 := n8_; have BK1294 := n9_; have BK1312 := n10_; have BK1318 := n11_; have BK1324 := n12_; have BK1330 := n13_; have HB := n14_; clear n0_ n1_ n2_ n3_ n4_ n5_ n6_ n7_ n8_ n9_ n10_ n11_ n12_ n13_ n14_
      (try clear hb)
      (try clear hb2)
      (try clear hk)
      (try clear hi)
      (try clear ho0)
      obtain ⟨Ao94, co94, eo94⟩ := Kd.R_slice HO1342.out
      (first | subst eo94 | (injection eo94 with f1_ f2_ f3_; have f4_ := f1_.symm; have f5_ := f3_.symm; clear f1_ f2_ f3_; subst f4_; subst f5_))
      refine hK.out _ _ ⟨(blk_cell BK1324.out 0).trans rfl, (blk_cell BK1324.out 1).trans rfl, (blk_cell BK1324.out 2).trans rfl, (blk_cell BK1294.out 0).trans rfl, (blk_cell BK1294.out 1).trans rfl, (blk_cell BK1294.out 2).trans rfl⟩ (fun hHeld => ?_)
      clear hK K
      refine norm_ (a' := ?_) ?_ ?_
      rotate_left
      ·show Act.put _ (some 55) _ = _
       simp only [Act.put, List.setIfInBounds_toArray, List.set_cons_zero, List.set_cons_succ, i64_w, i32_w]
       rfl
      refine one_ (i := 3) (N := some 56) #[true, true, true, true, false] rfl rfl (by kernel_rfl) (by decide) (fun K hK => ?_)
      refine goes_ Try.func49 (by kernel_rfl) rfl #[.agg #[.int .i64 t1319, .int .i64 t1320, .slice Ao75 t1321.length co75], .agg #[.int .i64 t1338, .int .i64 t1339, .slice Ao94 t1340.length co94]] (by rfl) rfl rfl sL_ ?_
      with_reducible refine (laws_eqPicture.calls k t1319 t1320 _ _ t1321 t1338 t1339 _ _ t1340 true _ ?side1 ?side2 ?side3 ?side4 A33.out).mono ?_
      (case side1 => repeat (first | exact (Kd.R_reads' HO1323.out).2.2 | (with_reducible refine Kd.C_alloc ?_ _) | (with_reducible refine Kd.C_drewN ?_ _) | (with_reducible refine Kd.C_drew ?_)))
      (case side2 => exact (Kd.R_reads' HO1323.out).2.1)
      (case side3 => repeat (first | exact (Kd.R_reads' HO1342.out).2.2 | (with_reducible refine Kd.C_alloc ?_ _) | (with_reducible refine Kd.C_drewN ?_ _) | (with_reducible refine Kd.C_drew ?_)))
      (case side4 => exact (Kd.R_reads' HO1342.out).2.1)
      rintro e w95 ⟨rfl, hb⟩
      refine ⟨_, rfl, ?_⟩
      have n0_ := Aside0.mk (Kd.R_below (sR_ HO1301.out) hb)
      have n1_ := Aside0.mk (Kd.R_below (sR_ HO1306.out) hb)
      have n2_ := Aside0.mk (Kd.R_below (sR_ HO1311.out) hb)
      have n3_ := Aside0.mk (Kd.R_below (sR_ HO1317.out) hb)
      have n4_ := Aside0.mk (Kd.R_below (sR_ HO1323.out) hb)
      have n5_ := Aside0.mk (Kd.R_below (sR_ HO1329.out) hb)
      have n6_ := Aside0.mk (Kd.R_below (sR_ HO1336.out) hb)
      have n7_ := Aside0.mk (Kd.R_below (sR_ HO1342.out) hb)
      have n8_ := Aside0.mk (blk_below (sB_ BK1293.out) hb)
      have n9_ := Aside0.mk (blk_below (sB_ BK1294.out) hb)
      have n10_ := Aside0.mk (blk_below (sB_ BK1312.out) hb)
      have n11_ := Aside0.mk (blk_below (sB_ BK1318.out) hb)
      have n12_ := Aside0.mk (blk_below (sB_ BK1324.out) hb)
      have n13_ := Aside0.mk (blk_below (sB_ BK1330.out) hb)
      have n14_ := Aside0.mk (below_step (sW_ HB.out) hb)
      clear HO1301 HO1306 HO1311 HO1317 HO1323 HO1329 HO1336 HO1342 BK1293 BK1294 BK1312 BK1318 BK1324 BK1330 HB; have HO1301 := n0_; have HO1306 := n1_; have HO1311 := n2_; have HO1317 := n3_; have HO1323 := n4_; have HO1329 := n5_; have HO1336 := n6_; have HO1342 := n7_; have BK1293 := n8_; have BK1294 := n9_; have BK1312 := n10_; have BK1318 := n11_; have BK1324 := n12_; have BK1330 := n13_; have HB := n14_; clear n0_ n1_ n2_ n3_ n4_ n5_ n6_ n7_ n8_ n9_ n10_ n11_ n12_ n13_ n14_
      (try clear hb)
      (try clear hb2)
      (try clear hk)
      (try clear hi)
      refine hK.out _ _ ⟨(blk_cell BK1324.out 0).trans rfl, (blk_cell BK1324.out 1).trans rfl, (blk_cell BK1324.out 2).trans rfl, (blk_cell BK1294.out 0).trans rfl, (blk_cell BK1294.out 1).trans rfl, (blk_cell BK1294.out 2).trans rfl⟩ (fun hHeld => ?_)
      clear hK K
      refine norm_ (a' := ?_) ?_ ?_
      rotate_left
      ·show Act.put _ (some 56) _ = _
       simp only [Act.put, List.setIfInBounds_toArray, List.set_cons_zero, List.set_cons_succ, i64_w, i32_w]
       rfl
      refine pure_ (i := 4) (N := some 57) (v := ?_) (a' := ?_) #[true, true, true, true, true] rfl rfl (by kernel_rfl) (fun _ _ _ h => h) (Or.inl ⟨by rfl, ?_⟩) ?_ ?_
      rotate_left
      ·intro w'
       go_simp
       with_reducible rfl
      rotate_left
      ·simp only [Act.put, List.setIfInBounds_toArray, List.set_cons_zero, List.set_cons_succ, i64_w, i32_w]
       rfl
      refine done_ (by kernel_rfl) ?_
      have hcz96_0 : w95.cell? ⟨gb1318, 0, none⟩ = some (.int .i64 t1313) := (blk_cell BK1318.out 0).trans rfl
      have hcz96_1 : w95.cell? ⟨gb1318, 1, none⟩ = some (.int .i64 t1314) := (blk_cell BK1318.out 1).trans rfl
      have hcz96_2 : w95.cell? ⟨gb1318, 2, none⟩ = some (.slice Ao65 t1315.length co65) := (blk_cell BK1318.out 2).trans rfl
      have hfz96_0 := blk_frozen BK1318.out 0
      have hfz96_1 := blk_frozen BK1318.out 1
      have hfz96_2 := blk_frozen BK1318.out 2
      go_upto_region 21 with (first | ((with_reducible refine gate_callee (f := 35) rfl ?_); refine goesL_ (some 60) rfl rfl Try.func35 (by kernel_rfl) rfl #[.agg #[.int .i64 t1313, .int .i64 t1314, .slice Ao65 t1315.length co65], .int .i64 1] rfl sL_ ?_; (with_reducible refine (laws_markMatrix.calls k t1313 t1314 (fun k_ => some k_ = (.slice Ao65 t1315.length co65 : Value).ownBlock) (.slice Ao65 t1315.length co65) t1315 1 t1344 t1345 w _ ?side1 ?side2 A35.out).mono ?_); (case side1 => repeat (first | (with_reducible first | exact HB.out | apply below_alloc | apply pw_below_drewN | apply below_drew1 | refine below_set ?_ GE1293.out | refine below_set ?_ GE1294.out | refine below_set ?_ GE1312.out | refine below_set ?_ GE1318.out | refine below_set ?_ GE1324.out | refine below_set ?_ GE1330.out) | exact HB.out)); (case side2 => exact Kd.R_tight rfl HO1317.out); rintro e w97 ⟨rfl, hy0, hb, hkp⟩; refine ⟨_, rfl, ?_⟩; have n0_ := Aside0.mk (blk_kept (sB_ BK1293.out) hkp (fun hs_ => (fun e_ => (Kd.R_ne HO1317.out BK1293.out (by decide)) e_) hs_)); have n1_ := Aside0.mk (blk_kept (sB_ BK1294.out) hkp (fun hs_ => (fun e_ => (Kd.R_ne HO1317.out BK1294.out (by decide)) e_) hs_)); have n2_ := Aside0.mk (Kd.R_mono (ok' := fun k_ => some k_ ≠ (v1305 : Value).ownBlock ∧ some k_ ≠ (.slice Ao55 t1309.length co55 : Value).ownBlock ∧ some k_ ≠ (.slice Ao65 t1315.length co65 : Value).ownBlock ∧ some k_ ≠ (.slice Ao75 t1321.length co75 : Value).ownBlock ∧ some k_ ≠ (.slice Ao85 t1327.length co85 : Value).ownBlock ∧ some k_ ≠ (.slice Ao90 t1334.length co90 : Value).ownBlock ∧ some k_ ≠ (.slice Ao94 t1340.length co94 : Value).ownBlock) (Kd.R_keptB (HO1301.out) hkp (fun k_ hk_ hs_ => (hk_.1.1.1.1.2) hs_)) (fun k_ hk_ => ⟨hk_.1.1.1.1.1.1.1, hk_.1.1.1.1.1.1.2, hk_.1.1.1.1.1.2, hk_.1.1.1.1.2, hk_.1.1.1.2, hk_.1.1.2, hk_.1.2⟩)); have n3_ := Aside0.mk (Kd.R_mono (ok' := fun k_ => some k_ ≠ (v1300 : Value).ownBlock ∧ some k_ ≠ (.slice Ao55 t1309.length co55 : Value).ownBlock ∧ some k_ ≠ (.slice Ao65 t1315.length co65 : Value).ownBlock ∧ some k_ ≠ (.slice Ao75 t1321.length co75 : Value).ownBlock ∧ some k_ ≠ (.slice Ao85 t1327.length co85 : Value).ownBlock ∧ some k_ ≠ (.slice Ao90 t1334.length co90 : Value).ownBlock ∧ some k_ ≠ (.slice Ao94 t1340.length co94 : Value).ownBlock) (Kd.R_keptB (HO1306.out) hkp (fun k_ hk_ hs_ => (hk_.1.1.1.1.2) hs_)) (fun k_ hk_ => ⟨hk_.1.1.1.1.1.1.1, hk_.1.1.1.1.1.1.2, hk_.1.1.1.1.1.2, hk_.1.1.1.1.2, hk_.1.1.1.2, hk_.1.1.2, hk_.1.2⟩)); have n4_ := Aside0.mk (Kd.R_mono (ok' := fun k_ => some k_ ≠ (v1300 : Value).ownBlock ∧ some k_ ≠ (v1305 : Value).ownBlock ∧ some k_ ≠ (.slice Ao65 t1315.length co65 : Value).ownBlock ∧ some k_ ≠ (.slice Ao75 t1321.length co75 : Value).ownBlock ∧ some k_ ≠ (.slice Ao85 t1327.length co85 : Value).ownBlock ∧ some k_ ≠ (.slice Ao90 t1334.length co90 : Value).ownBlock ∧ some k_ ≠ (.slice Ao94 t1340.length co94 : Value).ownBlock) (Kd.R_keptB (HO1311.out) hkp (fun k_ hk_ hs_ => (hk_.1.1.1.1.2) hs_)) (fun k_ hk_ => ⟨hk_.1.1.1.1.1.1.1, hk_.1.1.1.1.1.1.2, hk_.1.1.1.1.1.2, hk_.1.1.1.1.2, hk_.1.1.1.2, hk_.1.1.2, hk_.1.2⟩)); have n5_ := Aside0.mk (blk_kept (sB_ BK1312.out) hkp (fun hs_ => (fun e_ => (Kd.R_ne HO1317.out BK1312.out (by decide)) e_) hs_)); have n6_ := Aside0.mk (Kd.R_reok rfl hy0 (fun k_ e_ => HO1317.out.1 k_ e_)); have n7_ := Aside0.mk (blk_kept (sB_ BK1318.out) hkp (fun hs_ => (fun e_ => (Kd.R_ne HO1317.out BK1318.out (by decide)) e_) hs_)); have n8_ := Aside0.mk (Kd.R_mono (ok' := fun k_ => some k_ ≠ (v1300 : Value).ownBlock ∧ some k_ ≠ (v1305 : Value).ownBlock ∧ some k_ ≠ (.slice Ao55 t1309.length co55 : Value).ownBlock ∧ some k_ ≠ (.slice Ao65 t1315.length co65 : Value).ownBlock ∧ some k_ ≠ (.slice Ao85 t1327.length co85 : Value).ownBlock ∧ some k_ ≠ (.slice Ao90 t1334.length co90 : Value).ownBlock ∧ some k_ ≠ (.slice Ao94 t1340.length co94 : Value).ownBlock) (Kd.R_keptB (HO1323.out) hkp (fun k_ hk_ hs_ => (hk_.1.1.1.2) hs_)) (fun k_ hk_ => ⟨hk_.1.1.1.1.1.1.1.2, hk_.1.1.1.1.1.1.2, hk_.1.1.1.1.1.2, hk_.1.1.1.1.2, hk_.1.1.1.2, hk_.1.1.2, hk_.1.2⟩)); have n9_ := Aside0.mk (blk_kept (sB_ BK1324.out) hkp (fun hs_ => (fun e_ => (Kd.R_ne HO1317.out BK1324.out (by decide)) e_) hs_)); have n10_ := Aside0.mk (Kd.R_mono (ok' := fun k_ => some k_ ≠ (v1300 : Value).ownBlock ∧ some k_ ≠ (v1305 : Value).ownBlock ∧ some k_ ≠ (.slice Ao55 t1309.length co55 : Value).ownBlock ∧ some k_ ≠ (.slice Ao65 t1315.length co65 : Value).ownBlock ∧ some k_ ≠ (.slice Ao75 t1321.length co75 : Value).ownBlock ∧ some k_ ≠ (.slice Ao90 t1334.length co90 : Value).ownBlock ∧ some k_ ≠ (.slice Ao94 t1340.length co94 : Value).ownBlock) (Kd.R_keptB (HO1329.out) hkp (fun k_ hk_ hs_ => (hk_.1.1.1.2) hs_)) (fun k_ hk_ => ⟨hk_.1.1.1.1.1.1.1.2, hk_.1.1.1.1.1.1.2, hk_.1.1.1.1.1.2, hk_.1.1.1.1.2, hk_.1.1.1.2, hk_.1.1.2, hk_.1.2⟩)); have n11_ := Aside0.mk (blk_kept (sB_ BK1330.out) hkp (fun hs_ => (fun e_ => (Kd.R_ne HO1317.out BK1330.out (by decide)) e_) hs_)); have n12_ := Aside0.mk (Kd.R_mono (ok' := fun k_ => some k_ ≠ (v1300 : Value).ownBlock ∧ some k_ ≠ (v1305 : Value).ownBlock ∧ some k_ ≠ (.slice Ao55 t1309.length co55 : Value).ownBlock ∧ some k_ ≠ (.slice Ao65 t1315.length co65 : Value).ownBlock ∧ some k_ ≠ (.slice Ao75 t1321.length co75 : Value).ownBlock ∧ some k_ ≠ (.slice Ao85 t1327.length co85 : Value).ownBlock ∧ some k_ ≠ (.slice Ao94 t1340.length co94 : Value).ownBlock) (Kd.R_keptB (HO1336.out) hkp (fun k_ hk_ hs_ => (hk_.1.1.1.2) hs_)) (fun k_ hk_ => ⟨hk_.1.1.1.1.1.1.1.2, hk_.1.1.1.1.1.1.2, hk_.1.1.1.1.1.2, hk_.1.1.1.1.2, hk_.1.1.1.2, hk_.1.1.2, hk_.1.2⟩)); have n13_ := Aside0.mk (Kd.R_mono (ok' := fun k_ => some k_ ≠ (v1300 : Value).ownBlock ∧ some k_ ≠ (v1305 : Value).ownBlock ∧ some k_ ≠ (.slice Ao55 t1309.length co55 : Value).ownBlock ∧ some k_ ≠ (.slice Ao65 t1315.length co65 : Value).ownBlock ∧ some k_ ≠ (.slice Ao75 t1321.length co75 : Value).ownBlock ∧ some k_ ≠ (.slice Ao85 t1327.length co85 : Value).ownBlock ∧ some k_ ≠ (.slice Ao90 t1334.length co90 : Value).ownBlock) (Kd.R_keptB (HO1342.out) hkp (fun k_ hk_ hs_ => (hk_.1.1.1.2) hs_)) (fun k_ hk_ => ⟨hk_.1.1.1.1.1.1.1.2, hk_.1.1.1.1.1.1.2, hk_.1.1.1.1.1.2, hk_.1.1.1.1.2, hk_.1.1.1.2, hk_.1.1.2, hk_.1.2⟩)); have n14_ := Aside0.mk (hb); clear BK1293; clear BK1294; clear HO1301; clear HO1306; clear HO1311; clear BK1312; clear HO1317; clear BK1318; clear HO1323; clear BK1324; clear HO1329; clear BK1330; clear HO1336; clear HO1342; clear HB; have BK1293 := n0_; have BK1294 := n1_; have HO1301 := n2_; have HO1306 := n3_; have HO1311 := n4_; have BK1312 := n5_; have HO1317 := n6_; have BK1318 := n7_; have HO1323 := n8_; have BK1324 := n9_; have HO1329 := n10_; have BK1330 := n11_; have HO1336 := n12_; have HO1342 := n13_; have HB := n14_; clear n0_ n1_ n2_ n3_ n4_ n5_ n6_ n7_ n8_ n9_ n10_ n11_ n12_ n13_ n14_; (try clear hb); (try clear hkp); (try clear hy0); have hcz98_0 : w97.cell? ⟨gb1324, 0, none⟩ = some (.int .i64 t1319) := (blk_cell BK1324.out 0).trans rfl; have hcz98_1 : w97.cell? ⟨gb1324, 1, none⟩ = some (.int .i64 t1320) := (blk_cell BK1324.out 1).trans rfl; have hcz98_2 : w97.cell? ⟨gb1324, 2, none⟩ = some (.slice Ao75 t1321.length co75) := (blk_cell BK1324.out 2).trans rfl; have hfz98_0 := blk_frozen BK1324.out 0; have hfz98_1 := blk_frozen BK1324.out 1; have hfz98_2 := blk_frozen BK1324.out 2) | ((with_reducible refine gate_callee (f := 50) rfl ?_); refine goesL_ (some 63) rfl rfl Try.func50 (by kernel_rfl) rfl #[.agg #[.int .i64 t1319, .int .i64 t1320, .slice Ao75 t1321.length co75], .int .i64 t1344] rfl sL_ ?_; (with_reducible refine (laws_markPicture.calls k t1319 t1320 (fun k_ => some k_ = (.slice Ao75 t1321.length co75 : Value).ownBlock) (.slice Ao75 t1321.length co75) t1321 t1344 t1346 t1347 w _ ?side1 ?side2 A36.out).mono ?_); (case side1 => repeat (first | (with_reducible first | exact HB.out | apply below_alloc | apply pw_below_drewN | apply below_drew1 | refine below_set ?_ GE1293.out | refine below_set ?_ GE1294.out | refine below_set ?_ GE1312.out | refine below_set ?_ GE1318.out | refine below_set ?_ GE1324.out | refine below_set ?_ GE1330.out) | exact HB.out)); (case side2 => exact Kd.R_tight rfl HO1323.out); rintro e w99 ⟨rfl, hy0, hb, hkp⟩; refine ⟨_, rfl, ?_⟩; have n0_ := Aside0.mk (blk_kept (sB_ BK1293.out) hkp (fun hs_ => (fun e_ => (Kd.R_ne HO1323.out BK1293.out (by decide)) e_) hs_)); have n1_ := Aside0.mk (blk_kept (sB_ BK1294.out) hkp (fun hs_ => (fun e_ => (Kd.R_ne HO1323.out BK1294.out (by decide)) e_) hs_)); have n2_ := Aside0.mk (Kd.R_mono (ok' := fun k_ => some k_ ≠ (v1305 : Value).ownBlock ∧ some k_ ≠ (.slice Ao55 t1309.length co55 : Value).ownBlock ∧ some k_ ≠ (.slice Ao65 t1315.length co65 : Value).ownBlock ∧ some k_ ≠ (.slice Ao75 t1321.length co75 : Value).ownBlock ∧ some k_ ≠ (.slice Ao85 t1327.length co85 : Value).ownBlock ∧ some k_ ≠ (.slice Ao90 t1334.length co90 : Value).ownBlock ∧ some k_ ≠ (.slice Ao94 t1340.length co94 : Value).ownBlock) (Kd.R_keptB (HO1301.out) hkp (fun k_ hk_ hs_ => (hk_.2.2.2.1) hs_)) (fun k_ hk_ => ⟨hk_.1.1, hk_.1.2.1, hk_.1.2.2.1, hk_.1.2.2.2.1, hk_.1.2.2.2.2.1, hk_.1.2.2.2.2.2.1, hk_.1.2.2.2.2.2.2⟩)); have n3_ := Aside0.mk (Kd.R_mono (ok' := fun k_ => some k_ ≠ (v1300 : Value).ownBlock ∧ some k_ ≠ (.slice Ao55 t1309.length co55 : Value).ownBlock ∧ some k_ ≠ (.slice Ao65 t1315.length co65 : Value).ownBlock ∧ some k_ ≠ (.slice Ao75 t1321.length co75 : Value).ownBlock ∧ some k_ ≠ (.slice Ao85 t1327.length co85 : Value).ownBlock ∧ some k_ ≠ (.slice Ao90 t1334.length co90 : Value).ownBlock ∧ some k_ ≠ (.slice Ao94 t1340.length co94 : Value).ownBlock) (Kd.R_keptB (HO1306.out) hkp (fun k_ hk_ hs_ => (hk_.2.2.2.1) hs_)) (fun k_ hk_ => ⟨hk_.1.1, hk_.1.2.1, hk_.1.2.2.1, hk_.1.2.2.2.1, hk_.1.2.2.2.2.1, hk_.1.2.2.2.2.2.1, hk_.1.2.2.2.2.2.2⟩)); have n4_ := Aside0.mk (Kd.R_mono (ok' := fun k_ => some k_ ≠ (v1300 : Value).ownBlock ∧ some k_ ≠ (v1305 : Value).ownBlock ∧ some k_ ≠ (.slice Ao65 t1315.length co65 : Value).ownBlock ∧ some k_ ≠ (.slice Ao75 t1321.length co75 : Value).ownBlock ∧ some k_ ≠ (.slice Ao85 t1327.length co85 : Value).ownBlock ∧ some k_ ≠ (.slice Ao90 t1334.length co90 : Value).ownBlock ∧ some k_ ≠ (.slice Ao94 t1340.length co94 : Value).ownBlock) (Kd.R_keptB (HO1311.out) hkp (fun k_ hk_ hs_ => (hk_.2.2.2.1) hs_)) (fun k_ hk_ => ⟨hk_.1.1, hk_.1.2.1, hk_.1.2.2.1, hk_.1.2.2.2.1, hk_.1.2.2.2.2.1, hk_.1.2.2.2.2.2.1, hk_.1.2.2.2.2.2.2⟩)); have n5_ := Aside0.mk (blk_kept (sB_ BK1312.out) hkp (fun hs_ => (fun e_ => (Kd.R_ne HO1323.out BK1312.out (by decide)) e_) hs_)); have n6_ := Aside0.mk (Kd.R_mono (ok' := fun k_ => some k_ ≠ (v1300 : Value).ownBlock ∧ some k_ ≠ (v1305 : Value).ownBlock ∧ some k_ ≠ (.slice Ao55 t1309.length co55 : Value).ownBlock ∧ some k_ ≠ (.slice Ao75 t1321.length co75 : Value).ownBlock ∧ some k_ ≠ (.slice Ao85 t1327.length co85 : Value).ownBlock ∧ some k_ ≠ (.slice Ao90 t1334.length co90 : Value).ownBlock ∧ some k_ ≠ (.slice Ao94 t1340.length co94 : Value).ownBlock) (Kd.R_keptB (HO1317.out) hkp (fun k_ hk_ hs_ => (hk_.1.1.1.2) hs_)) (fun k_ hk_ => ⟨hk_.1.1.1.1.1.1.1.2, hk_.1.1.1.1.1.1.2, hk_.1.1.1.1.1.2, hk_.1.1.1.1.2, hk_.1.1.1.2, hk_.1.1.2, hk_.1.2⟩)); have n7_ := Aside0.mk (blk_kept (sB_ BK1318.out) hkp (fun hs_ => (fun e_ => (Kd.R_ne HO1323.out BK1318.out (by decide)) e_) hs_)); have n8_ := Aside0.mk (Kd.R_reok rfl hy0 (fun k_ e_ => HO1323.out.1 k_ e_)); have n9_ := Aside0.mk (blk_kept (sB_ BK1324.out) hkp (fun hs_ => (fun e_ => (Kd.R_ne HO1323.out BK1324.out (by decide)) e_) hs_)); have n10_ := Aside0.mk (Kd.R_mono (ok' := fun k_ => some k_ ≠ (v1300 : Value).ownBlock ∧ some k_ ≠ (v1305 : Value).ownBlock ∧ some k_ ≠ (.slice Ao55 t1309.length co55 : Value).ownBlock ∧ some k_ ≠ (.slice Ao65 t1315.length co65 : Value).ownBlock ∧ some k_ ≠ (.slice Ao75 t1321.length co75 : Value).ownBlock ∧ some k_ ≠ (.slice Ao90 t1334.length co90 : Value).ownBlock ∧ some k_ ≠ (.slice Ao94 t1340.length co94 : Value).ownBlock) (Kd.R_keptB (HO1329.out) hkp (fun k_ hk_ hs_ => (hk_.2.2.2.2.1) hs_)) (fun k_ hk_ => ⟨hk_.1.1, hk_.1.2.1, hk_.1.2.2.1, hk_.1.2.2.2.1, hk_.1.2.2.2.2.1, hk_.1.2.2.2.2.2.1, hk_.1.2.2.2.2.2.2⟩)); have n11_ := Aside0.mk (blk_kept (sB_ BK1330.out) hkp (fun hs_ => (fun e_ => (Kd.R_ne HO1323.out BK1330.out (by decide)) e_) hs_)); have n12_ := Aside0.mk (Kd.R_mono (ok' := fun k_ => some k_ ≠ (v1300 : Value).ownBlock ∧ some k_ ≠ (v1305 : Value).ownBlock ∧ some k_ ≠ (.slice Ao55 t1309.length co55 : Value).ownBlock ∧ some k_ ≠ (.slice Ao65 t1315.length co65 : Value).ownBlock ∧ some k_ ≠ (.slice Ao75 t1321.length co75 : Value).ownBlock ∧ some k_ ≠ (.slice Ao85 t1327.length co85 : Value).ownBlock ∧ some k_ ≠ (.slice Ao94 t1340.length co94 : Value).ownBlock) (Kd.R_keptB (HO1336.out) hkp (fun k_ hk_ hs_ => (hk_.2.2.2.2.1) hs_)) (fun k_ hk_ => ⟨hk_.1.1, hk_.1.2.1, hk_.1.2.2.1, hk_.1.2.2.2.1, hk_.1.2.2.2.2.1, hk_.1.2.2.2.2.2.1, hk_.1.2.2.2.2.2.2⟩)); have n13_ := Aside0.mk (Kd.R_mono (ok' := fun k_ => some k_ ≠ (v1300 : Value).ownBlock ∧ some k_ ≠ (v1305 : Value).ownBlock ∧ some k_ ≠ (.slice Ao55 t1309.length co55 : Value).ownBlock ∧ some k_ ≠ (.slice Ao65 t1315.length co65 : Value).ownBlock ∧ some k_ ≠ (.slice Ao75 t1321.length co75 : Value).ownBlock ∧ some k_ ≠ (.slice Ao85 t1327.length co85 : Value).ownBlock ∧ some k_ ≠ (.slice Ao90 t1334.length co90 : Value).ownBlock) (Kd.R_keptB (HO1342.out) hkp (fun k_ hk_ hs_ => (hk_.2.2.2.2.1) hs_)) (fun k_ hk_ => ⟨hk_.1.1, hk_.1.2.1, hk_.1.2.2.1, hk_.1.2.2.2.1, hk_.1.2.2.2.2.1, hk_.1.2.2.2.2.2.1, hk_.1.2.2.2.2.2.2⟩)); have n14_ := Aside0.mk (hb); clear BK1293; clear BK1294; clear HO1301; clear HO1306; clear HO1311; clear BK1312; clear HO1317; clear BK1318; clear HO1323; clear BK1324; clear HO1329; clear BK1330; clear HO1336; clear HO1342; clear HB; have BK1293 := n0_; have BK1294 := n1_; have HO1301 := n2_; have HO1306 := n3_; have HO1311 := n4_; have BK1312 := n5_; have HO1317 := n6_; have BK1318 := n7_; have HO1323 := n8_; have BK1324 := n9_; have HO1329 := n10_; have BK1330 := n11_; have HO1336 := n12_; have HO1342 := n13_; have HB := n14_; clear n0_ n1_ n2_ n3_ n4_ n5_ n6_ n7_ n8_ n9_ n10_ n11_ n12_ n13_ n14_; (try clear hb); (try clear hkp); (try clear hy0)))
      (try simp only [Act.put, List.setIfInBounds_toArray, List.set_cons_zero, List.set_cons_succ])
      go_cut [71] (fun v71 wc => ∃ (kq : Nat) (x71_36 : Bool), v71 = .bool x71_36 ∧ Aside0 (laws_FnExactScreenShifted.j0 kq a2 a3 x71_36 a0_0 a0_1 l0_2 a1_0 a1_1 l1_2 t1307 t1308 t1309 t1325 t1326 t1327 = some r) ∧ Aside0 (kq ≤ k) ∧ Aside0 (Kd.R (Kd.int .i64) 3 wc w.heap.size (fun k_ => some k_ ≠ ((.slice Ao65 t1315.length co65) : Value).ownBlock ∧ some k_ ≠ ((.slice Ao75 t1321.length co75) : Value).ownBlock ∧ some k_ ≠ ((.slice Ao85 t1327.length co85) : Value).ownBlock) (.slice Ao55 t1309.length co55) t1309) ∧ Aside0 (Kd.R (Kd.int .i64) 3 wc w.heap.size (fun k_ => some k_ ≠ ((.slice Ao55 t1309.length co55) : Value).ownBlock ∧ some k_ ≠ ((.slice Ao75 t1321.length co75) : Value).ownBlock ∧ some k_ ≠ ((.slice Ao85 t1327.length co85) : Value).ownBlock) (.slice Ao65 t1315.length co65) t1345) ∧ Aside0 (Kd.R (Kd.int .i64) 3 wc w.heap.size (fun k_ => some k_ ≠ ((.slice Ao55 t1309.length co55) : Value).ownBlock ∧ some k_ ≠ ((.slice Ao65 t1315.length co65) : Value).ownBlock ∧ some k_ ≠ ((.slice Ao85 t1327.length co85) : Value).ownBlock) (.slice Ao75 t1321.length co75) t1347) ∧ Aside0 (Kd.R (Kd.int .i64) 3 wc w.heap.size (fun k_ => some k_ ≠ ((.slice Ao55 t1309.length co55) : Value).ownBlock ∧ some k_ ≠ ((.slice Ao65 t1315.length co65) : Value).ownBlock ∧ some k_ ≠ ((.slice Ao75 t1321.length co75) : Value).ownBlock) (.slice Ao85 t1327.length co85) t1327) ∧ Aside0 (wc.heap[gb1293]? = some (.cells #[.int .i64 a0_0, .int .i64 a0_1, (.slice A0_2 l0_2.length c0_2)] 55 (0, 0))) ∧ Aside0 (wc.heap[gb1294]? = some (.cells #[.int .i64 a1_0, .int .i64 a1_1, (.slice A1_2 l1_2.length c1_2)] 48 (0, 0))) ∧ Aside0 (wc.heap[gb1312]? = some (.cells #[.int .i64 t1307, .int .i64 t1308, (.slice Ao55 t1309.length co55)] 41 (0, 0))) ∧ Aside0 (wc.heap[gb1318]? = some (.cells #[.int .i64 t1313, .int .i64 t1314, (.slice Ao65 t1315.length co65)] 26 (0, 0))) ∧ Aside0 (wc.heap[gb1324]? = some (.cells #[.int .i64 t1319, .int .i64 t1320, (.slice Ao75 t1321.length co75)] 41 (0, 0))) ∧ Aside0 (wc.heap[gb1330]? = some (.cells #[.int .i64 t1325, .int .i64 t1326, (.slice Ao85 t1327.length co85)] 41 (0, 0))) ∧ Aside0 (Below w.heap.size w wc))
      case first =>
       have H := HC37.out; clear HC37
       by_cases c100 : t1346 < 0
       ·rw [if_pos c100] at H
        have c100b0 : decide (t1346 < 0) = true := decide_eq_true c100
        clear c100
        (first | rw [c100b0] | (simp only [i64_w, i32_w]; rw [c100b0]) | skip)
        have H' := Aside0.mk H
        clear H
        go_wp2
        go_meet
        case rel => exact ⟨_, (true), (by first | rfl | (simp; done) | (simp [*]; done)), H', ⟨by first | omega | exact Nat.le_refl _⟩, ⟨by (with_reducible repeat (first | apply Kd.R_alloc | apply Kd.R_drewN | apply Kd.R_drew)); exact Kd.R_mono HO1311.out (fun _ hk => ⟨hk.2.2.1, ⟨hk.2.2.2.1, hk.2.2.2.2.1⟩⟩)⟩, ⟨by (with_reducible repeat (first | apply Kd.R_alloc | apply Kd.R_drewN | apply Kd.R_drew)); exact Kd.R_mono HO1317.out (fun _ hk => ⟨hk.2.2.1, ⟨hk.2.2.2.1, hk.2.2.2.2.1⟩⟩)⟩, ⟨by (with_reducible repeat (first | apply Kd.R_alloc | apply Kd.R_drewN | apply Kd.R_drew)); exact Kd.R_mono HO1323.out (fun _ hk => ⟨hk.2.2.1, ⟨hk.2.2.2.1, hk.2.2.2.2.1⟩⟩)⟩, ⟨by (with_reducible repeat (first | apply Kd.R_alloc | apply Kd.R_drewN | apply Kd.R_drew)); exact Kd.R_mono HO1329.out (fun _ hk => ⟨hk.2.2.1, ⟨hk.2.2.2.1, hk.2.2.2.2.1⟩⟩)⟩, ⟨by refine sB_ ?_; exact BK1293.out⟩, ⟨by refine sB_ ?_; exact BK1294.out⟩, ⟨by refine sB_ ?_; exact BK1312.out⟩, ⟨by refine sB_ ?_; exact BK1318.out⟩, ⟨by refine sB_ ?_; exact BK1324.out⟩, ⟨by refine sB_ ?_; exact BK1330.out⟩, ⟨by repeat (first | (with_reducible first | exact HB.out | apply below_alloc | apply pw_below_drewN | apply below_drew1 | refine below_set ?_ GE1293.out | refine below_set ?_ GE1294.out | refine below_set ?_ GE1312.out | refine below_set ?_ GE1318.out | refine below_set ?_ GE1324.out | refine below_set ?_ GE1330.out) | exact HB.out)⟩⟩
       ·rw [if_neg c100] at H
        have c100b0 : decide (t1346 < 0) = false := decide_eq_false c100
        clear c100
        (first | rw [c100b0] | (simp only [i64_w, i32_w]; rw [c100b0]) | skip)
        replace H := Option.bind_eq_some_iff.mp H
        obtain ⟨t1348, A1010, H⟩ := H
        replace H : (laws_FnExactScreenShifted.j0 k a2 a3 (!t1348) a0_0 a0_1 l0_2 a1_0 a1_1 l1_2 t1307 t1308 t1309 t1325 t1326 t1327) = some r := H
        have A101 := Aside0.mk A1010
        clear A1010
        have H' := Aside0.mk H
        clear H; have hnb102 := NB1330_1293.out; have hnc102 := NB1293_1330.out; have hnb103 := NB1330_1294.out; have hnc103 := NB1294_1330.out; have hnb104 := NB1330_1312.out; have hnc104 := NB1312_1330.out; have hnb105 := NB1330_1318.out; have hnc105 := NB1318_1330.out; have hnb106 := NB1330_1324.out; have hnc106 := NB1324_1330.out
        have hcz107_0 : w99.cell? ⟨gb1330, 0, none⟩ = some (.int .i64 t1325) := (blk_cell BK1330.out 0).trans rfl
        have hcz107_1 : w99.cell? ⟨gb1330, 1, none⟩ = some (.int .i64 t1326) := (blk_cell BK1330.out 1).trans rfl
        have hcz107_2 : w99.cell? ⟨gb1330, 2, none⟩ = some (.slice Ao85 t1327.length co85) := (blk_cell BK1330.out 2).trans rfl
        have hfz107_0 := blk_frozen BK1330.out 0
        have hfz107_1 := blk_frozen BK1330.out 1
        have hfz107_2 := blk_frozen BK1330.out 2
        have hnb108 := NB1312_1293.out; have hnc108 := NB1293_1312.out; have hnb109 := NB1312_1294.out; have hnc109 := NB1294_1312.out; have hnb110 := NB1312_1318.out; have hnc110 := NB1318_1312.out; have hnb111 := NB1312_1324.out; have hnc111 := NB1324_1312.out
        have hcz112_0 : w99.cell? ⟨gb1312, 0, none⟩ = some (.int .i64 t1307) := (blk_cell BK1312.out 0).trans rfl
        have hcz112_1 : w99.cell? ⟨gb1312, 1, none⟩ = some (.int .i64 t1308) := (blk_cell BK1312.out 1).trans rfl
        have hcz112_2 : w99.cell? ⟨gb1312, 2, none⟩ = some (.slice Ao55 t1309.length co55) := (blk_cell BK1312.out 2).trans rfl
        have hfz112_0 := blk_frozen BK1312.out 0
        have hfz112_1 := blk_frozen BK1312.out 1
        have hfz112_2 := blk_frozen BK1312.out 2
        go_wp2_with (first | (go_at_call 49; (with_reducible refine (laws_eqPicture.calls k t1325 t1326 _ _ t1327 t1307 t1308 _ _ t1309 t1348 _ ?side1 ?side2 ?side3 ?side4 A101.out).mono ?_); (case side1 => repeat (first | exact (Kd.R_reads' HO1329.out).2.2 | (with_reducible refine Kd.C_alloc ?_ _) | (with_reducible refine Kd.C_drewN ?_ _) | (with_reducible refine Kd.C_drew ?_))); (case side2 => exact (Kd.R_reads' HO1329.out).2.1); (case side3 => repeat (first | exact (Kd.R_reads' HO1311.out).2.2 | (with_reducible refine Kd.C_alloc ?_ _) | (with_reducible refine Kd.C_drewN ?_ _) | (with_reducible refine Kd.C_drew ?_))); (case side4 => exact (Kd.R_reads' HO1311.out).2.1); rintro e w113 ⟨rfl, hb⟩; have n0_ := Aside0.mk (Kd.R_below (sR_ HO1301.out) hb); have n1_ := Aside0.mk (Kd.R_below (sR_ HO1306.out) hb); have n2_ := Aside0.mk (Kd.R_below (sR_ HO1311.out) hb); have n3_ := Aside0.mk (Kd.R_below (sR_ HO1317.out) hb); have n4_ := Aside0.mk (Kd.R_below (sR_ HO1323.out) hb); have n5_ := Aside0.mk (Kd.R_below (sR_ HO1329.out) hb); have n6_ := Aside0.mk (Kd.R_below (sR_ HO1336.out) hb); have n7_ := Aside0.mk (Kd.R_below (sR_ HO1342.out) hb); have n8_ := Aside0.mk (blk_below (sB_ BK1293.out) hb); have n9_ := Aside0.mk (blk_below (sB_ BK1294.out) hb); have n10_ := Aside0.mk (blk_below (sB_ BK1312.out) hb); have n11_ := Aside0.mk (blk_below (sB_ BK1318.out) hb); have n12_ := Aside0.mk (blk_below (sB_ BK1324.out) hb); have n13_ := Aside0.mk (blk_below (sB_ BK1330.out) hb); have n14_ := Aside0.mk (below_step (sW_ HB.out) hb); clear HO1301; clear HO1306; clear HO1311; clear HO1317; clear HO1323; clear HO1329; clear HO1336; clear HO1342; clear BK1293; clear BK1294; clear BK1312; clear BK1318; clear BK1324; clear BK1330; clear HB; have HO1301 := n0_; have HO1306 := n1_; have HO1311 := n2_; have HO1317 := n3_; have HO1323 := n4_; have HO1329 := n5_; have HO1336 := n6_; have HO1342 := n7_; have BK1293 := n8_; have BK1294 := n9_; have BK1312 := n10_; have BK1318 := n11_; have BK1324 := n12_; have BK1330 := n13_; have HB := n14_; clear n0_ n1_ n2_ n3_ n4_ n5_ n6_ n7_ n8_ n9_ n10_ n11_ n12_ n13_ n14_; (try clear hb); (try clear hb2); (try clear hk); (try clear hi)))
        go_meet
        case rel => exact ⟨_, (!t1348), (by first | rfl | (simp; done) | (simp [*]; done)), H', ⟨by first | omega | exact Nat.le_refl _⟩, ⟨by (with_reducible repeat (first | apply Kd.R_alloc | apply Kd.R_drewN | apply Kd.R_drew)); exact Kd.R_mono HO1311.out (fun _ hk => ⟨hk.2.2.1, ⟨hk.2.2.2.1, hk.2.2.2.2.1⟩⟩)⟩, ⟨by (with_reducible repeat (first | apply Kd.R_alloc | apply Kd.R_drewN | apply Kd.R_drew)); exact Kd.R_mono HO1317.out (fun _ hk => ⟨hk.2.2.1, ⟨hk.2.2.2.1, hk.2.2.2.2.1⟩⟩)⟩, ⟨by (with_reducible repeat (first | apply Kd.R_alloc | apply Kd.R_drewN | apply Kd.R_drew)); exact Kd.R_mono HO1323.out (fun _ hk => ⟨hk.2.2.1, ⟨hk.2.2.2.1, hk.2.2.2.2.1⟩⟩)⟩, ⟨by (with_reducible repeat (first | apply Kd.R_alloc | apply Kd.R_drewN | apply Kd.R_drew)); exact Kd.R_mono HO1329.out (fun _ hk => ⟨hk.2.2.1, ⟨hk.2.2.2.1, hk.2.2.2.2.1⟩⟩)⟩, ⟨by refine sB_ ?_; exact BK1293.out⟩, ⟨by refine sB_ ?_; exact BK1294.out⟩, ⟨by refine sB_ ?_; exact BK1312.out⟩, ⟨by refine sB_ ?_; exact BK1318.out⟩, ⟨by refine sB_ ?_; exact BK1324.out⟩, ⟨by refine sB_ ?_; exact BK1330.out⟩, ⟨by repeat (first | (with_reducible first | exact HB.out | apply below_alloc | apply pw_below_drewN | apply below_drew1 | refine below_set ?_ GE1293.out | refine below_set ?_ GE1294.out | refine below_set ?_ GE1312.out | refine below_set ?_ GE1318.out | refine below_set ?_ GE1324.out | refine below_set ?_ GE1330.out) | exact HB.out)⟩⟩
      case rest =>
       clear HC37
       try clear c1
       try clear p2
       try clear c3
       try clear c4
       try clear c5
       try clear c6
       try clear c7
       try clear c8
       try clear c10
       try clear c11
       try clear c34
       try clear c35
       try clear c48
       try clear c49
       try clear c50
       try clear c57
       try clear c58
       try clear c61
       try clear c62
       try clear c63
       try clear c66
       try clear c70
       try clear c71
       try clear c72
       try clear c73
       try clear c77
       try clear c78
       try clear c79
       try clear c80
       try clear c81
       try clear c82
       try clear c83
       try clear c100
       try clear c100b0
       try clear c102
       try clear c103
       try clear c104
       try clear c105
       try clear c106
       try clear c108
       try clear c109
       try clear c110
       try clear c111
       try clear hcz107_0
       try clear hcz107_1
       try clear hcz107_2
       try clear hcz112_0
       try clear hcz112_1
       try clear hcz112_2
       try clear hcz58_0
       try clear hcz58_1
       try clear hcz58_2
       try clear hcz64_0
       try clear hcz64_1
       try clear hcz64_2
       try clear hcz67_0
       try clear hcz67_1
       try clear hcz67_2
       try clear hcz74_0
       try clear hcz74_1
       try clear hcz74_2
       try clear hcz76_0
       try clear hcz76_1
       try clear hcz76_2
       try clear hcz84_0
       try clear hcz84_1
       try clear hcz84_2
       try clear hcz86_0
       try clear hcz86_1
       try clear hcz86_2
       try clear hcz96_0
       try clear hcz96_1
       try clear hcz96_2
       try clear hcz98_0
       try clear hcz98_1
       try clear hcz98_2
       try clear hfz107_0
       try clear hfz107_1
       try clear hfz107_2
       try clear hfz112_0
       try clear hfz112_1
       try clear hfz112_2
       try clear hfz58_0
       try clear hfz58_1
       try clear hfz58_2
       try clear hfz64_0
       try clear hfz64_1
       try clear hfz64_2
       try clear hfz67_0
       try clear hfz67_1
       try clear hfz67_2
       try clear hfz74_0
       try clear hfz74_1
       try clear hfz74_2
       try clear hfz76_0
       try clear hfz76_1
       try clear hfz76_2
       try clear hfz84_0
       try clear hfz84_1
       try clear hfz84_2
       try clear hfz86_0
       try clear hfz86_1
       try clear hfz86_2
       try clear hfz96_0
       try clear hfz96_1
       try clear hfz96_2
       try clear hfz98_0
       try clear hfz98_1
       try clear hfz98_2
       obtain ⟨kq, x71_36, rfl, HA, HJ36, HO_1313002, HO_1319002, HO_1325002, HO_1331002, BK1293, BK1294, BK1312, BK1318, BK1324, BK1330, HB⟩ := hcut
       have hl1319002_36 := (Kd.R_reads' HO_1319002.out).1
       rw [hl1319002_36] at HO_1319002
       (try simp only [hl1319002_36])
       (try simp only [hl1319002_36] at BK1293)
       (try simp only [hl1319002_36] at BK1294)
       (try simp only [hl1319002_36] at BK1312)
       (try simp only [hl1319002_36] at BK1318)
       (try simp only [hl1319002_36] at BK1324)
       (try simp only [hl1319002_36] at BK1330)
       (try simp only [hl1319002_36] at HO_1313002)
       (try simp only [hl1319002_36] at HO_1325002)
       (try simp only [hl1319002_36] at HO_1331002)
       have hl1325002_36 := (Kd.R_reads' HO_1325002.out).1
       rw [hl1325002_36] at HO_1325002
       (try simp only [hl1325002_36])
       (try simp only [hl1325002_36] at BK1293)
       (try simp only [hl1325002_36] at BK1294)
       (try simp only [hl1325002_36] at BK1312)
       (try simp only [hl1325002_36] at BK1318)
       (try simp only [hl1325002_36] at BK1324)
       (try simp only [hl1325002_36] at BK1330)
       (try simp only [hl1325002_36] at HO_1313002)
       (try simp only [hl1325002_36] at HO_1319002)
       (try simp only [hl1325002_36] at HO_1331002)
       cases kq with
       | zero => exact absurd HA.out (by simp [laws_FnExactScreenShifted.j0])
       | succ kj36 =>
        have H := HA.out; clear HA
        simp only [laws_FnExactScreenShifted.j0] at H
        by_cases c114 : x71_36 = true
        ·subst c114
         have H1 : (some false) = some r := by rw [if_pos rfl] at H; exact H
         clear H; have H := H1; clear H1
         exact absurd ((Option.some.inj H).trans hT.out) (by decide)
        ·replace c114 := Bool.eq_false_iff.mpr c114
         subst c114
         have H1 : ((laws_markPicture.f kj36 t1325 t1326 t1327 1).bind fun bt1349 => ((laws_heldPicture.f kj36 t1325 t1326 bt1349.2 1).bind fun t1351 => (if t1351 < 0 then (some false) else (if t1351 = bt1349.1 then ((laws_toMatrix.f kj36 a0_0 a0_1 l0_2).bind fun bt1352 => ((laws_toPicture.f kj36 a1_0 a1_1 l1_2).bind fun bt1357 => ((impl_ScreenShifted.f bt1352.1 bt1352.2.1 bt1352.2.2 bt1357.1 bt1357.2.1 bt1357.2.2 a2 a3).bind fun bt1362 => ((laws_eqPicture.f kj36 bt1362.1 bt1362.2.1 bt1362.2.2 t1307 t1308 t1309).bind fun t1368 => (if t1368 = true then ((laws_heldPicture.f kj36 t1325 t1326 bt1349.2 1).bind fun t1369 => (if t1369 < 0 then (some false) else (if t1369 = bt1349.1 then (some true) else (some false)))) else (some false)))))) else (some false))))) = some r := by rw [if_neg (show ¬ (false = true) by decide)] at H; exact H
         clear H; have H := H1; clear H1
         replace H := Option.bind_eq_some_iff.mp H
         obtain ⟨⟨t1349, t1350⟩, A1150, H⟩ := H
         replace H : ((laws_heldPicture.f kj36 t1325 t1326 t1350 1).bind fun t1351 => (if t1351 < 0 then (some false) else (if t1351 = t1349 then ((laws_toMatrix.f kj36 a0_0 a0_1 l0_2).bind fun bt1352 => ((laws_toPicture.f kj36 a1_0 a1_1 l1_2).bind fun bt1357 => ((impl_ScreenShifted.f bt1352.1 bt1352.2.1 bt1352.2.2 bt1357.1 bt1357.2.1 bt1357.2.2 a2 a3).bind fun bt1362 => ((laws_eqPicture.f kj36 bt1362.1 bt1362.2.1 bt1362.2.2 t1307 t1308 t1309).bind fun t1368 => (if t1368 = true then ((laws_heldPicture.f kj36 t1325 t1326 t1350 1).bind fun t1369 => (if t1369 < 0 then (some false) else (if t1369 = t1349 then (some true) else (some false)))) else (some false)))))) else (some false)))) = some r := H
         have A115 := Aside0.mk A1150
         clear A1150
         replace H := Option.bind_eq_some_iff.mp H
         obtain ⟨t1351, A1160, H⟩ := H
         replace H : (if t1351 < 0 then (some false) else (if t1351 = t1349 then ((laws_toMatrix.f kj36 a0_0 a0_1 l0_2).bind fun bt1352 => ((laws_toPicture.f kj36 a1_0 a1_1 l1_2).bind fun bt1357 => ((impl_ScreenShifted.f bt1352.1 bt1352.2.1 bt1352.2.2 bt1357.1 bt1357.2.1 bt1357.2.2 a2 a3).bind fun bt1362 => ((laws_eqPicture.f kj36 bt1362.1 bt1362.2.1 bt1362.2.2 t1307 t1308 t1309).bind fun t1368 => (if t1368 = true then ((laws_heldPicture.f kj36 t1325 t1326 t1350 1).bind fun t1369 => (if t1369 < 0 then (some false) else (if t1369 = t1349 then (some true) else (some false)))) else (some false)))))) else (some false))) = some r := H
         have A116 := Aside0.mk A1160
         clear A1160
         by_cases c117 : t1351 < 0
         ·rw [if_pos c117] at H
          have c117b0 : decide (t1351 < 0) = true := decide_eq_true c117
          clear c117
          exact absurd ((Option.some.inj H).trans hT.out) (by decide)
         ·rw [if_neg c117] at H
          have c117b0 : decide (t1351 < 0) = false := decide_eq_false c117
          clear c117
          by_cases c118 : t1351 = t1349
          ·rw [if_pos c118] at H
           have c118b0 : (t1351 == t1349) = true := beq_iff_eq.mpr c118
           have c118b1 : (t1351 != t1349) = false := bne_eq_false_iff_eq.mpr c118
           clear c118
           replace H := Option.bind_eq_some_iff.mp H
           obtain ⟨⟨t1352, t1353, t1354⟩, A1190, H⟩ := H
           replace H : ((laws_toPicture.f kj36 a1_0 a1_1 l1_2).bind fun bt1357 => ((impl_ScreenShifted.f t1352 t1353 t1354 bt1357.1 bt1357.2.1 bt1357.2.2 a2 a3).bind fun bt1362 => ((laws_eqPicture.f kj36 bt1362.1 bt1362.2.1 bt1362.2.2 t1307 t1308 t1309).bind fun t1368 => (if t1368 = true then ((laws_heldPicture.f kj36 t1325 t1326 t1350 1).bind fun t1369 => (if t1369 < 0 then (some false) else (if t1369 = t1349 then (some true) else (some false)))) else (some false))))) = some r := H
           have A119 := Aside0.mk A1190
           clear A1190
           replace H := Option.bind_eq_some_iff.mp H
           obtain ⟨⟨t1357, t1358, t1359⟩, A1200, H⟩ := H
           replace H : ((impl_ScreenShifted.f t1352 t1353 t1354 t1357 t1358 t1359 a2 a3).bind fun bt1362 => ((laws_eqPicture.f kj36 bt1362.1 bt1362.2.1 bt1362.2.2 t1307 t1308 t1309).bind fun t1368 => (if t1368 = true then ((laws_heldPicture.f kj36 t1325 t1326 t1350 1).bind fun t1369 => (if t1369 < 0 then (some false) else (if t1369 = t1349 then (some true) else (some false)))) else (some false)))) = some r := H
           have A120 := Aside0.mk A1200
           clear A1200
           replace H := Option.bind_eq_some_iff.mp H
           obtain ⟨⟨t1362, t1363, t1364⟩, A1210, H⟩ := H
           replace H : ((laws_eqPicture.f kj36 t1362 t1363 t1364 t1307 t1308 t1309).bind fun t1368 => (if t1368 = true then ((laws_heldPicture.f kj36 t1325 t1326 t1350 1).bind fun t1369 => (if t1369 < 0 then (some false) else (if t1369 = t1349 then (some true) else (some false)))) else (some false))) = some r := H
           have A121 := Aside0.mk A1210
           clear A1210
           replace H := Option.bind_eq_some_iff.mp H
           obtain ⟨t1368, A1220, H⟩ := H
           replace H : (if t1368 = true then ((laws_heldPicture.f kj36 t1325 t1326 t1350 1).bind fun t1369 => (if t1369 < 0 then (some false) else (if t1369 = t1349 then (some true) else (some false)))) else (some false)) = some r := H
           have A122 := Aside0.mk A1220
           clear A1220
           by_cases c123 : t1368 = true
           ·subst c123
            have H1 : ((laws_heldPicture.f kj36 t1325 t1326 t1350 1).bind fun t1369 => (if t1369 < 0 then (some false) else (if t1369 = t1349 then (some true) else (some false)))) = some r := by rw [if_pos rfl] at H; exact H
            clear H; have H := H1; clear H1
            replace H := Option.bind_eq_some_iff.mp H
            obtain ⟨t1369, A1240, H⟩ := H
            replace H : (if t1369 < 0 then (some false) else (if t1369 = t1349 then (some true) else (some false))) = some r := H
            have A124 := Aside0.mk A1240
            clear A1240
            by_cases c125 : t1369 < 0
            ·rw [if_pos c125] at H
             have c125b0 : decide (t1369 < 0) = true := decide_eq_true c125
             clear c125
             exact absurd ((Option.some.inj H).trans hT.out) (by decide)
            ·rw [if_neg c125] at H
             have c125b0 : decide (t1369 < 0) = false := decide_eq_false c125
             clear c125
             by_cases c126 : t1369 = t1349
             ·rw [if_pos c126] at H
              have c126b0 : (t1369 == t1349) = true := beq_iff_eq.mpr c126
              have c126b1 : (t1369 != t1349) = false := bne_eq_false_iff_eq.mpr c126
              clear c126
              obtain rfl := Option.some.inj H
              have hnb127 := NB1330_1293.out; have hnc127 := NB1293_1330.out; have hnb128 := NB1330_1294.out; have hnc128 := NB1294_1330.out; have hnb129 := NB1330_1312.out; have hnc129 := NB1312_1330.out; have hnb130 := NB1330_1318.out; have hnc130 := NB1318_1330.out; have hnb131 := NB1330_1324.out; have hnc131 := NB1324_1330.out
              have hcz132_0 : wc.cell? ⟨gb1330, 0, none⟩ = some (.int .i64 t1325) := (blk_cell BK1330.out 0).trans rfl
              have hcz132_1 : wc.cell? ⟨gb1330, 1, none⟩ = some (.int .i64 t1326) := (blk_cell BK1330.out 1).trans rfl
              have hcz132_2 : wc.cell? ⟨gb1330, 2, none⟩ = some (.slice Ao85 t1327.length co85) := (blk_cell BK1330.out 2).trans rfl
              have hfz132_0 := blk_frozen BK1330.out 0
              have hfz132_1 := blk_frozen BK1330.out 1
              have hfz132_2 := blk_frozen BK1330.out 2
              try go_wp2_with (first | ((with_reducible refine gate_callee (f := 50) rfl ?_); refine goesL_ (some 74) rfl rfl Try.func50 (by kernel_rfl) rfl #[.agg #[.int .i64 t1325, .int .i64 t1326, .slice Ao85 t1327.length co85], .int .i64 1] rfl sL_ ?_; (with_reducible refine (laws_markPicture.calls kj36 t1325 t1326 (fun k_ => some k_ = (.slice Ao85 t1327.length co85 : Value).ownBlock) (.slice Ao85 t1327.length co85) t1327 1 t1349 t1350 w _ ?side1 ?side2 A115.out).mono ?_); (case side1 => repeat (first | (with_reducible first | exact HB.out | apply below_alloc | apply pw_below_drewN | apply below_drew1 | refine below_set ?_ GE1293.out | refine below_set ?_ GE1294.out | refine below_set ?_ GE1312.out | refine below_set ?_ GE1318.out | refine below_set ?_ GE1324.out | refine below_set ?_ GE1330.out) | exact HB.out)); (case side2 => exact Kd.R_tight rfl HO_1331002.out); rintro e w133 ⟨rfl, hy0, hb, hkp⟩; refine ⟨_, rfl, ?_⟩; have n0_ := Aside0.mk (Kd.R_mono (ok' := fun k_ => some k_ ≠ (.slice Ao65 t1345.length co65 : Value).ownBlock ∧ some k_ ≠ (.slice Ao75 t1347.length co75 : Value).ownBlock ∧ some k_ ≠ (.slice Ao85 t1327.length co85 : Value).ownBlock) (Kd.R_keptB (HO_1313002.out) hkp (fun k_ hk_ hs_ => (hk_.2.2) hs_)) (fun k_ hk_ => ⟨hk_.1.1, hk_.1.2.1, hk_.1.2.2⟩)); have n1_ := Aside0.mk (Kd.R_mono (ok' := fun k_ => some k_ ≠ (.slice Ao55 t1309.length co55 : Value).ownBlock ∧ some k_ ≠ (.slice Ao75 t1347.length co75 : Value).ownBlock ∧ some k_ ≠ (.slice Ao85 t1327.length co85 : Value).ownBlock) (Kd.R_keptB (HO_1319002.out) hkp (fun k_ hk_ hs_ => (hk_.2.2) hs_)) (fun k_ hk_ => ⟨hk_.1.1, hk_.1.2.1, hk_.1.2.2⟩)); have n2_ := Aside0.mk (Kd.R_mono (ok' := fun k_ => some k_ ≠ (.slice Ao55 t1309.length co55 : Value).ownBlock ∧ some k_ ≠ (.slice Ao65 t1345.length co65 : Value).ownBlock ∧ some k_ ≠ (.slice Ao85 t1327.length co85 : Value).ownBlock) (Kd.R_keptB (HO_1325002.out) hkp (fun k_ hk_ hs_ => (hk_.2.2) hs_)) (fun k_ hk_ => ⟨hk_.1.1, hk_.1.2.1, hk_.1.2.2⟩)); have n3_ := Aside0.mk (Kd.R_reok rfl hy0 (fun k_ e_ => HO_1331002.out.1 k_ e_)); have n4_ := Aside0.mk (blk_kept (sB_ BK1293.out) hkp (fun hs_ => (fun e_ => (Kd.R_ne HO_1331002.out BK1293.out (by decide)) e_) hs_)); have n5_ := Aside0.mk (blk_kept (sB_ BK1294.out) hkp (fun hs_ => (fun e_ => (Kd.R_ne HO_1331002.out BK1294.out (by decide)) e_) hs_)); have n6_ := Aside0.mk (blk_kept (sB_ BK1312.out) hkp (fun hs_ => (fun e_ => (Kd.R_ne HO_1331002.out BK1312.out (by decide)) e_) hs_)); have n7_ := Aside0.mk (blk_kept (sB_ BK1318.out) hkp (fun hs_ => (fun e_ => (Kd.R_ne HO_1331002.out BK1318.out (by decide)) e_) hs_)); have n8_ := Aside0.mk (blk_kept (sB_ BK1324.out) hkp (fun hs_ => (fun e_ => (Kd.R_ne HO_1331002.out BK1324.out (by decide)) e_) hs_)); have n9_ := Aside0.mk (blk_kept (sB_ BK1330.out) hkp (fun hs_ => (fun e_ => (Kd.R_ne HO_1331002.out BK1330.out (by decide)) e_) hs_)); have n10_ := Aside0.mk (hb); clear HO_1313002; clear HO_1319002; clear HO_1325002; clear HO_1331002; clear BK1293; clear BK1294; clear BK1312; clear BK1318; clear BK1324; clear BK1330; clear HB; have HO_1313002 := n0_; have HO_1319002 := n1_; have HO_1325002 := n2_; have HO_1331002 := n3_; have BK1293 := n4_; have BK1294 := n5_; have BK1312 := n6_; have BK1318 := n7_; have BK1324 := n8_; have BK1330 := n9_; have HB := n10_; clear n0_ n1_ n2_ n3_ n4_ n5_ n6_ n7_ n8_ n9_ n10_; (try clear hb); (try clear hkp); (try clear hy0); have hcz134_0 : w133.cell? ⟨gb1330, 0, none⟩ = some (.int .i64 t1325) := (blk_cell BK1330.out 0).trans rfl; have hcz134_1 : w133.cell? ⟨gb1330, 1, none⟩ = some (.int .i64 t1326) := (blk_cell BK1330.out 1).trans rfl; have hcz134_2 : w133.cell? ⟨gb1330, 2, none⟩ = some (.slice Ao85 t1327.length co85) := (blk_cell BK1330.out 2).trans rfl; have hfz134_0 := blk_frozen BK1330.out 0; have hfz134_1 := blk_frozen BK1330.out 1; have hfz134_2 := blk_frozen BK1330.out 2) | ((with_reducible refine gate_callee (f := 51) rfl ?_); refine goesL_ (some 77) rfl rfl Try.func51 (by kernel_rfl) rfl #[.agg #[.int .i64 t1325, .int .i64 t1326, .slice Ao85 t1350.length co85], .int .i64 1] rfl (by (try simp only [List.map_toArray, List.map_cons, List.map_nil]); first | done | (rw [show t1350.length = t1327.length from (Kd.R_reads' HO_1331002.out).1.symm] <;> rfl) | rfl | (simp only [List.length_drop, List.length_take]; rfl)) ?_; (with_reducible refine (laws_heldPicture.calls kj36 t1325 t1326 _ _ t1350 1 t1351 _ ?side1 ?side2 A116.out).mono ?_); (case side1 => repeat (first | exact (Kd.R_reads' HO_1331002.out).2.2 | (with_reducible refine Kd.C_alloc ?_ _) | (with_reducible refine Kd.C_drewN ?_ _) | (with_reducible refine Kd.C_drew ?_))); (case side2 => rw [show t1350.length = t1327.length from (Kd.R_reads' HO_1331002.out).1.symm]; exact (Kd.R_reads' HO_1331002.out).2.1); rintro e w135 ⟨rfl, hb⟩; refine ⟨_, rfl, ?_⟩; have n0_ := Aside0.mk (Kd.R_below (sR_ HO_1313002.out) hb); have n1_ := Aside0.mk (Kd.R_below (sR_ HO_1319002.out) hb); have n2_ := Aside0.mk (Kd.R_below (sR_ HO_1325002.out) hb); have n3_ := Aside0.mk (Kd.R_below (sR_ HO_1331002.out) hb); have n4_ := Aside0.mk (blk_below (sB_ BK1293.out) hb); have n5_ := Aside0.mk (blk_below (sB_ BK1294.out) hb); have n6_ := Aside0.mk (blk_below (sB_ BK1312.out) hb); have n7_ := Aside0.mk (blk_below (sB_ BK1318.out) hb); have n8_ := Aside0.mk (blk_below (sB_ BK1324.out) hb); have n9_ := Aside0.mk (blk_below (sB_ BK1330.out) hb); have n10_ := Aside0.mk (below_step (sW_ HB.out) hb); clear HO_1313002; clear HO_1319002; clear HO_1325002; clear HO_1331002; clear BK1293; clear BK1294; clear BK1312; clear BK1318; clear BK1324; clear BK1330; clear HB; have HO_1313002 := n0_; have HO_1319002 := n1_; have HO_1325002 := n2_; have HO_1331002 := n3_; have BK1293 := n4_; have BK1294 := n5_; have BK1312 := n6_; have BK1318 := n7_; have BK1324 := n8_; have BK1330 := n9_; have HB := n10_; clear n0_ n1_ n2_ n3_ n4_ n5_ n6_ n7_ n8_ n9_ n10_; (try clear hb); (try clear hb2); (try clear hk); (try clear hi)))
              have n0_ := Aside0.mk (Kd.R_drew HO_1313002.out)
              have n1_ := Aside0.mk (Kd.R_drew HO_1319002.out)
              have n2_ := Aside0.mk (Kd.R_drew HO_1325002.out)
              have n3_ := Aside0.mk (Kd.R_drew HO_1331002.out)
              have n4_ := Aside0.mk (blk_drew BK1293.out)
              have n5_ := Aside0.mk (blk_drew BK1294.out)
              have n6_ := Aside0.mk (blk_drew BK1312.out)
              have n7_ := Aside0.mk (blk_drew BK1318.out)
              have n8_ := Aside0.mk (blk_drew BK1324.out)
              have n9_ := Aside0.mk (blk_drew BK1330.out)
              have n10_ := Aside0.mk (below_drew1 HB.out)
              clear HO_1313002 HO_1319002 HO_1325002 HO_1331002 BK1293 BK1294 BK1312 BK1318 BK1324 BK1330 HB; have HO_1313002 := n0_; have HO_1319002 := n1_; have HO_1325002 := n2_; have HO_1331002 := n3_; have BK1293 := n4_; have BK1294 := n5_; have BK1312 := n6_; have BK1318 := n7_; have BK1324 := n8_; have BK1330 := n9_; have HB := n10_; clear n0_ n1_ n2_ n3_ n4_ n5_ n6_ n7_ n8_ n9_ n10_
              refine start_ (n := 9) (S := fun w' => w'.cell? ⟨gb1293, 0, none⟩ = some (.int .i64 a0_0) ∧ w'.cell? ⟨gb1293, 1, none⟩ = some (.int .i64 a0_1) ∧ w'.cell? ⟨gb1293, 2, none⟩ = some (.slice A0_2 l0_2.length c0_2) ∧ w'.cell? ⟨gb1294, 0, none⟩ = some (.int .i64 a1_0) ∧ w'.cell? ⟨gb1294, 1, none⟩ = some (.int .i64 a1_1) ∧ w'.cell? ⟨gb1294, 2, none⟩ = some (.slice A1_2 l1_2.length c1_2)) (ds := []) #[false, false, false, false, false, false, false, false, false] (by kernel_rfl) rfl rfl ⟨(blk_cell BK1293.out 0).trans rfl, (blk_cell BK1293.out 1).trans rfl, (blk_cell BK1293.out 2).trans rfl, (blk_cell BK1294.out 0).trans rfl, (blk_cell BK1294.out 1).trans rfl, (blk_cell BK1294.out 2).trans rfl⟩ (fun hHeld => ?_); refine with_tabW laws_FnExactScreenShifted.tab31 laws_FnExactScreenShifted.bits31 (fun HT_ HW_ => ?_)
              generalize w135.drew = w136 at HO_1313002 HO_1319002 HO_1325002 HO_1331002 BK1293 BK1294 BK1312 BK1318 BK1324 BK1330 HB hHeld ⊢
              refine pure_ (i := 4) (N := some 87) (v := ?_) (a' := ?_) #[false, false, false, false, true, false, false, false, false] rfl rfl (any_of HT_.out (by kernel_rfl)) (fun _ _ _ h => h) (Or.inl ⟨by rfl, ?_⟩) ?_ ?_
              rotate_left
              ·intro w'
               go_simp
               with_reducible rfl
              rotate_left
              ·simp only [Act.put, List.setIfInBounds_toArray, List.set_cons_zero, List.set_cons_succ, i64_w, i32_w]
               rfl
              refine pure_ (i := 5) (N := some 88) (v := ?_) (a' := ?_) #[false, false, false, false, true, true, false, false, false] rfl rfl (any_of HT_.out (by kernel_rfl)) (fun _ _ _ h => h) (Or.inl ⟨by rfl, ?_⟩) ?_ ?_
              rotate_left
              ·intro w'
               go_simp
               with_reducible rfl
              rotate_left
              ·simp only [Act.put, List.setIfInBounds_toArray, List.set_cons_zero, List.set_cons_succ, i64_w, i32_w]
               rfl
              refine take_ (i := 0) (N := some 83) (v := ?_) (a' := ?_) #[true, false, false, false, true, true, false, false, false] rfl rfl (take_ofW HT_.out HW_.out (by kernel_rfl)) (fun _ _ _ h => h) (Or.inl ⟨by rfl, ?_⟩) hHeld ?_ ?_
              rotate_left
              ·rintro w' ⟨s0, s1, s2, s3, s4, s5⟩
               go_simp
               with_reducible rfl
              rotate_left
              ·simp only [Act.put, List.setIfInBounds_toArray, List.set_cons_zero, List.set_cons_succ, i64_w, i32_w]
               rfl
              refine take_ (i := 2) (N := some 85) (v := ?_) (a' := ?_) #[true, false, true, false, true, true, false, false, false] rfl rfl (take_ofW HT_.out HW_.out (by kernel_rfl)) (fun _ _ _ h => h) (Or.inl ⟨by rfl, ?_⟩) hHeld ?_ ?_
              rotate_left
              ·rintro w' ⟨s0, s1, s2, s3, s4, s5⟩
               go_simp
               with_reducible rfl
              rotate_left
              ·simp only [Act.put, List.setIfInBounds_toArray, List.set_cons_zero, List.set_cons_succ, i64_w, i32_w]
               rfl
              refine join_ (σ := Value × Value × Value × Nat) 1 #[true, true, true, true, true, true, true, true, false] (fun s_ => [(84, .agg #[.int .i64 t1352, .int .i64 t1353, s_.1]), (86, .agg #[.int .i64 t1357, .int .i64 t1358, s_.2.1]), (89, .agg #[.int .i64 t1362, .int .i64 t1363, s_.2.2.1]), (17, .pointer (some ⟨s_.2.2.2, 0, none⟩))]) (fun s_ w' => (w'.cell? ⟨gb1293, 0, none⟩ = some (.int .i64 a0_0) ∧ w'.cell? ⟨gb1293, 1, none⟩ = some (.int .i64 a0_1) ∧ w'.cell? ⟨gb1293, 2, none⟩ = some (.slice A0_2 l0_2.length c0_2) ∧ w'.cell? ⟨gb1294, 0, none⟩ = some (.int .i64 a1_0) ∧ w'.cell? ⟨gb1294, 1, none⟩ = some (.int .i64 a1_1) ∧ w'.cell? ⟨gb1294, 2, none⟩ = some (.slice A1_2 l1_2.length c1_2)) ∧ (Kd.R (Kd.int .i64) 3 w' w.heap.size (fun k_ => some k_ ≠ (s_.2.1 : Value).ownBlock ∧ some k_ ≠ (s_.2.2.1 : Value).ownBlock ∧ some k_ ≠ (.slice Ao55 t1309.length co55 : Value).ownBlock ∧ some k_ ≠ (.slice Ao65 t1345.length co65 : Value).ownBlock ∧ some k_ ≠ (.slice Ao75 t1347.length co75 : Value).ownBlock ∧ some k_ ≠ (.slice Ao85 t1327.length co85 : Value).ownBlock) s_.1 t1354) ∧ (Kd.R (Kd.int .i64) 3 w' w.heap.size (fun k_ => some k_ ≠ (s_.1 : Value).ownBlock ∧ some k_ ≠ (s_.2.2.1 : Value).ownBlock ∧ some k_ ≠ (.slice Ao55 t1309.length co55 : Value).ownBlock ∧ some k_ ≠ (.slice Ao65 t1345.length co65 : Value).ownBlock ∧ some k_ ≠ (.slice Ao75 t1347.length co75 : Value).ownBlock ∧ some k_ ≠ (.slice Ao85 t1327.length co85 : Value).ownBlock) s_.2.1 t1359) ∧ (Kd.R (Kd.int .i64) 3 w' w.heap.size (fun k_ => some k_ ≠ (s_.1 : Value).ownBlock ∧ some k_ ≠ (s_.2.1 : Value).ownBlock ∧ some k_ ≠ (.slice Ao55 t1309.length co55 : Value).ownBlock ∧ some k_ ≠ (.slice Ao65 t1345.length co65 : Value).ownBlock ∧ some k_ ≠ (.slice Ao75 t1347.length co75 : Value).ownBlock ∧ some k_ ≠ (.slice Ao85 t1327.length co85 : Value).ownBlock) s_.2.2.1 t1364) ∧ (Kd.R (Kd.int .i64) 3 w' w.heap.size (fun k_ => some k_ ≠ (s_.1 : Value).ownBlock ∧ some k_ ≠ (s_.2.1 : Value).ownBlock ∧ some k_ ≠ (s_.2.2.1 : Value).ownBlock ∧ some k_ ≠ (.slice Ao65 t1345.length co65 : Value).ownBlock ∧ some k_ ≠ (.slice Ao75 t1347.length co75 : Value).ownBlock ∧ some k_ ≠ (.slice Ao85 t1327.length co85 : Value).ownBlock) (.slice Ao55 t1309.length co55) t1309) ∧ (Kd.R (Kd.int .i64) 3 w' w.heap.size (fun k_ => some k_ ≠ (s_.1 : Value).ownBlock ∧ some k_ ≠ (s_.2.1 : Value).ownBlock ∧ some k_ ≠ (s_.2.2.1 : Value).ownBlock ∧ some k_ ≠ (.slice Ao55 t1309.length co55 : Value).ownBlock ∧ some k_ ≠ (.slice Ao75 t1347.length co75 : Value).ownBlock ∧ some k_ ≠ (.slice Ao85 t1327.length co85 : Value).ownBlock) (.slice Ao65 t1345.length co65) t1345) ∧ (Kd.R (Kd.int .i64) 3 w' w.heap.size (fun k_ => some k_ ≠ (s_.1 : Value).ownBlock ∧ some k_ ≠ (s_.2.1 : Value).ownBlock ∧ some k_ ≠ (s_.2.2.1 : Value).ownBlock ∧ some k_ ≠ (.slice Ao55 t1309.length co55 : Value).ownBlock ∧ some k_ ≠ (.slice Ao65 t1345.length co65 : Value).ownBlock ∧ some k_ ≠ (.slice Ao85 t1327.length co85 : Value).ownBlock) (.slice Ao75 t1347.length co75) t1347) ∧ (Kd.R (Kd.int .i64) 3 w' w.heap.size (fun k_ => some k_ ≠ (s_.1 : Value).ownBlock ∧ some k_ ≠ (s_.2.1 : Value).ownBlock ∧ some k_ ≠ (s_.2.2.1 : Value).ownBlock ∧ some k_ ≠ (.slice Ao55 t1309.length co55 : Value).ownBlock ∧ some k_ ≠ (.slice Ao65 t1345.length co65 : Value).ownBlock ∧ some k_ ≠ (.slice Ao75 t1347.length co75 : Value).ownBlock) (.slice Ao85 t1327.length co85) t1350) ∧ (w'.heap[gb1293]? = some (.cells #[.int .i64 a0_0, .int .i64 a0_1, .slice A0_2 l0_2.length c0_2] 55 (0, 0))) ∧ (w'.heap[gb1294]? = some (.cells #[.int .i64 a1_0, .int .i64 a1_1, .slice A1_2 l1_2.length c1_2] 48 (0, 0))) ∧ (w'.heap[gb1312]? = some (.cells #[.int .i64 t1307, .int .i64 t1308, .slice Ao55 t1309.length co55] 41 (0, 0))) ∧ (w'.heap[gb1318]? = some (.cells #[.int .i64 t1313, .int .i64 t1314, .slice Ao65 t1345.length co65] 26 (0, 0))) ∧ (w'.heap[gb1324]? = some (.cells #[.int .i64 t1319, .int .i64 t1320, .slice Ao75 t1347.length co75] 41 (0, 0))) ∧ (w'.heap[gb1330]? = some (.cells #[.int .i64 t1325, .int .i64 t1326, .slice Ao85 t1327.length co85] 41 (0, 0))) ∧ (w'.heap[s_.2.2.2]? = some (.cells #[.int .i64 0, .int .i64 0, .slice none 0 0] 41 (0, 0))) ∧ (w.heap.size ≤ s_.2.2.2) ∧ (w.heap.size ≤ s_.2.2.2) ∧ (gb1293 ≠ s_.2.2.2) ∧ (s_.2.2.2 ≠ gb1293) ∧ (gb1294 ≠ s_.2.2.2) ∧ (s_.2.2.2 ≠ gb1294) ∧ (gb1312 ≠ s_.2.2.2) ∧ (s_.2.2.2 ≠ gb1312) ∧ (gb1318 ≠ s_.2.2.2) ∧ (s_.2.2.2 ≠ gb1318) ∧ (gb1324 ≠ s_.2.2.2) ∧ (s_.2.2.2 ≠ gb1324) ∧ (gb1330 ≠ s_.2.2.2) ∧ (s_.2.2.2 ≠ gb1330) ∧ (Below w.heap.size w w')) ?_ ?_
              rotate_left
              ·intro hCont
               refine two_ (i := 1) (j := 7) (Ni := some 84) (Nj := some 17) #[true, true, true, false, true, true, false, false, false] #[true, false, true, false, true, true, false, true, false] rfl rfl rfl rfl (two_of HT_.out (by kernel_rfl)) (by decide) (by decide) (fun K hK => ?_) (fun K hK => ?_)
               ·skip
                refine goes_ Try.func58 (by kernel_rfl) rfl #[.agg #[.int .i64 a0_0, .int .i64 a0_1, .slice A0_2 l0_2.length c0_2]] (by rfl) rfl rfl sL_ ?_
                with_reducible refine (laws_toMatrix.calls kj36 a0_0 a0_1 _ _ l0_2 t1352 t1353 t1354 _ ?side1 ?side2 A119.out).mono ?_
                (case side1 => repeat (first | exact (Kd.C_below HR0_2.out HB.out) | (with_reducible refine Kd.C_alloc ?_ _) | (with_reducible refine Kd.C_drewN ?_ _) | (with_reducible refine Kd.C_drew ?_)))
                (case side2 => exact HC0_2.out)
                rintro e w137 ⟨v1355, rfl, ho0, hb⟩
                refine ⟨_, rfl, ?_⟩
                have n0_ := Aside0.mk (Kd.R_elder' (sR_ HO_1313002.out) (Kd.R_base ho0) hb)
                have n1_ := Aside0.mk (Kd.R_elder' (sR_ HO_1319002.out) (Kd.R_base ho0) hb)
                have n2_ := Aside0.mk (Kd.R_elder' (sR_ HO_1325002.out) (Kd.R_base ho0) hb)
                have n3_ := Aside0.mk (Kd.R_elder' (sR_ HO_1331002.out) (Kd.R_base ho0) hb)
                have n4_ := Aside0.mk (Kd.R_lower (Kd.R_new' (Kd.R_new' (Kd.R_new' (Kd.R_new' ho0 (Kd.R_lt (sR_ HO_1313002.out))) (Kd.R_lt (sR_ HO_1319002.out))) (Kd.R_lt (sR_ HO_1325002.out))) (Kd.R_lt (sR_ HO_1331002.out))) (below_size (sW_ HB.out)))
                have n5_ := Aside0.mk (blk_below (sB_ BK1293.out) hb)
                have n6_ := Aside0.mk (blk_below (sB_ BK1294.out) hb)
                have n7_ := Aside0.mk (blk_below (sB_ BK1312.out) hb)
                have n8_ := Aside0.mk (blk_below (sB_ BK1318.out) hb)
                have n9_ := Aside0.mk (blk_below (sB_ BK1324.out) hb)
                have n10_ := Aside0.mk (blk_below (sB_ BK1330.out) hb)
                have n11_ := Aside0.mk (below_step (sW_ HB.out) hb)
                clear HO_1313002 HO_1319002 HO_1325002 HO_1331002 BK1293 BK1294 BK1312 BK1318 BK1324 BK1330 HB; have HO_1313002 := n0_; have HO_1319002 := n1_; have HO_1325002 := n2_; have HO_1331002 := n3_; have HO1356 := n4_; have BK1293 := n5_; have BK1294 := n6_; have BK1312 := n7_; have BK1318 := n8_; have BK1324 := n9_; have BK1330 := n10_; have HB := n11_; clear n0_ n1_ n2_ n3_ n4_ n5_ n6_ n7_ n8_ n9_ n10_ n11_
                (try clear hb)
                (try clear hb2)
                (try clear hk)
                (try clear hi)
                (try clear ho0)
                refine hK.out _ _ ⟨(blk_cell BK1293.out 0).trans rfl, (blk_cell BK1293.out 1).trans rfl, (blk_cell BK1293.out 2).trans rfl, (blk_cell BK1294.out 0).trans rfl, (blk_cell BK1294.out 1).trans rfl, (blk_cell BK1294.out 2).trans rfl⟩ (fun hHeld => ?_)
                clear hK K
                refine norm_ (a' := ?_) ?_ ?_
                rotate_left
                ·show Act.put _ (some 84) _ = _
                 simp only [Act.put, List.setIfInBounds_toArray, List.set_cons_zero, List.set_cons_succ, i64_w, i32_w]
                 rfl
                refine two_ (i := 3) (j := 7) (Ni := some 86) (Nj := some 17) #[true, true, true, true, true, true, false, false, false] #[true, true, true, false, true, true, false, true, false] rfl rfl rfl rfl (two_of HT_.out (by kernel_rfl)) (by decide) (by decide) (fun K hK => ?_) (fun K hK => ?_)
                ·skip
                 refine goes_ Try.func48 (by kernel_rfl) rfl #[.agg #[.int .i64 a1_0, .int .i64 a1_1, .slice A1_2 l1_2.length c1_2]] (by rfl) rfl rfl sL_ ?_
                 with_reducible refine (laws_toPicture.calls kj36 a1_0 a1_1 _ _ l1_2 t1357 t1358 t1359 _ ?side1 ?side2 A120.out).mono ?_
                 (case side1 => repeat (first | exact (Kd.C_below HR1_2.out HB.out) | (with_reducible refine Kd.C_alloc ?_ _) | (with_reducible refine Kd.C_drewN ?_ _) | (with_reducible refine Kd.C_drew ?_)))
                 (case side2 => exact HC1_2.out)
                 rintro e w138 ⟨v1360, rfl, ho0, hb⟩
                 refine ⟨_, rfl, ?_⟩
                 have n0_ := Aside0.mk (Kd.R_elder' (sR_ HO_1313002.out) (Kd.R_base ho0) hb)
                 have n1_ := Aside0.mk (Kd.R_elder' (sR_ HO_1319002.out) (Kd.R_base ho0) hb)
                 have n2_ := Aside0.mk (Kd.R_elder' (sR_ HO_1325002.out) (Kd.R_base ho0) hb)
                 have n3_ := Aside0.mk (Kd.R_elder' (sR_ HO_1331002.out) (Kd.R_base ho0) hb)
                 have n4_ := Aside0.mk (Kd.R_elder' (sR_ HO1356.out) (Kd.R_base ho0) hb)
                 have n5_ := Aside0.mk (Kd.R_lower (Kd.R_new' (Kd.R_new' (Kd.R_new' (Kd.R_new' (Kd.R_new' ho0 (Kd.R_lt (sR_ HO_1313002.out))) (Kd.R_lt (sR_ HO_1319002.out))) (Kd.R_lt (sR_ HO_1325002.out))) (Kd.R_lt (sR_ HO_1331002.out))) (Kd.R_lt (sR_ HO1356.out))) (below_size (sW_ HB.out)))
                 have n6_ := Aside0.mk (blk_below (sB_ BK1293.out) hb)
                 have n7_ := Aside0.mk (blk_below (sB_ BK1294.out) hb)
                 have n8_ := Aside0.mk (blk_below (sB_ BK1312.out) hb)
                 have n9_ := Aside0.mk (blk_below (sB_ BK1318.out) hb)
                 have n10_ := Aside0.mk (blk_below (sB_ BK1324.out) hb)
                 have n11_ := Aside0.mk (blk_below (sB_ BK1330.out) hb)
                 have n12_ := Aside0.mk (below_step (sW_ HB.out) hb)
                 clear HO_1313002 HO_1319002 HO_1325002 HO_1331002 HO1356 BK1293 BK1294 BK1312 BK1318 BK1324 BK1330 HB; have HO_1313002 := n0_; have HO_1319002 := n1_; have HO_1325002 := n2_; have HO_1331002 := n3_; have HO1356 := n4_; have HO1361 := n5_; have BK1293 := n6_; have BK1294 := n7_; have BK1312 := n8_; have BK1318 := n9_; have BK1324 := n10_; have BK1330 := n11_; have HB := n12_; clear n0_ n1_ n2_ n3_ n4_ n5_ n6_ n7_ n8_ n9_ n10_ n11_ n12_
                 (try clear hb)
                 (try clear hb2)
                 (try clear hk)
                 (try clear hi)
                 (try clear ho0)
                 obtain ⟨Ao139, co139, eo139⟩ := Kd.R_slice HO1356.out
                 (first | subst eo139 | (injection eo139 with f1_ f2_ f3_; have f4_ := f1_.symm; have f5_ := f3_.symm; clear f1_ f2_ f3_; subst f4_; subst f5_))
                 obtain ⟨Ao140, co140, eo140⟩ := Kd.R_slice HO1361.out
                 (first | subst eo140 | (injection eo140 with f1_ f2_ f3_; have f4_ := f1_.symm; have f5_ := f3_.symm; clear f1_ f2_ f3_; subst f4_; subst f5_))
                 refine hK.out _ _ ⟨(blk_cell BK1293.out 0).trans rfl, (blk_cell BK1293.out 1).trans rfl, (blk_cell BK1293.out 2).trans rfl, (blk_cell BK1294.out 0).trans rfl, (blk_cell BK1294.out 1).trans rfl, (blk_cell BK1294.out 2).trans rfl⟩ (fun hHeld => ?_)
                 clear hK K
                 refine norm_ (a' := ?_) ?_ ?_
                 rotate_left
                 ·show Act.put _ (some 86) _ = _
                  simp only [Act.put, List.setIfInBounds_toArray, List.set_cons_zero, List.set_cons_succ, i64_w, i32_w]
                  rfl
                 refine two_ (i := 6) (j := 7) (Ni := some 89) (Nj := some 17) #[true, true, true, true, true, true, true, false, false] #[true, true, true, true, true, true, false, true, false] rfl rfl rfl rfl (two_of HT_.out (by kernel_rfl)) (by decide) (by decide) (fun K hK => ?_) (fun K hK => ?_)
                 ·skip
                  refine goes_ Try.func78 (by kernel_rfl) rfl #[.agg #[.int .i64 t1352, .int .i64 t1353, .slice Ao139 t1354.length co139], .agg #[.int .i64 t1357, .int .i64 t1358, .slice Ao140 t1359.length co140], .int .i64 a2, .int .i64 a3] (by rfl) rfl rfl sL_ ?_
                  with_reducible refine (impl_ScreenShifted.calls t1352 t1353 _ _ t1354 t1357 t1358 _ _ t1359 a2 a3 t1362 t1363 t1364 _ ?side1 ?side2 ?side3 ?side4 A121.out).mono ?_
                  (case side1 => repeat (first | exact (Kd.R_reads' HO1356.out).2.2 | (with_reducible refine Kd.C_alloc ?_ _) | (with_reducible refine Kd.C_drewN ?_ _) | (with_reducible refine Kd.C_drew ?_)))
                  (case side2 => exact (Kd.R_reads' HO1356.out).2.1)
                  (case side3 => repeat (first | exact (Kd.R_reads' HO1361.out).2.2 | (with_reducible refine Kd.C_alloc ?_ _) | (with_reducible refine Kd.C_drewN ?_ _) | (with_reducible refine Kd.C_drew ?_)))
                  (case side4 => exact (Kd.R_reads' HO1361.out).2.1)
                  rintro e w141 ⟨v1365, rfl, ho0, hb⟩
                  refine ⟨_, rfl, ?_⟩
                  have n0_ := Aside0.mk (Kd.R_elder' (sR_ HO_1313002.out) (Kd.R_base ho0) hb)
                  have n1_ := Aside0.mk (Kd.R_elder' (sR_ HO_1319002.out) (Kd.R_base ho0) hb)
                  have n2_ := Aside0.mk (Kd.R_elder' (sR_ HO_1325002.out) (Kd.R_base ho0) hb)
                  have n3_ := Aside0.mk (Kd.R_elder' (sR_ HO_1331002.out) (Kd.R_base ho0) hb)
                  have n4_ := Aside0.mk (Kd.R_elder' (sR_ HO1356.out) (Kd.R_base ho0) hb)
                  have n5_ := Aside0.mk (Kd.R_elder' (sR_ HO1361.out) (Kd.R_base ho0) hb)
                  have n6_ := Aside0.mk (Kd.R_lower (Kd.R_new' (Kd.R_new' (Kd.R_new' (Kd.R_new' (Kd.R_new' (Kd.R_new' ho0 (Kd.R_lt (sR_ HO_1313002.out))) (Kd.R_lt (sR_ HO_1319002.out))) (Kd.R_lt (sR_ HO_1325002.out))) (Kd.R_lt (sR_ HO_1331002.out))) (Kd.R_lt (sR_ HO1356.out))) (Kd.R_lt (sR_ HO1361.out))) (below_size (sW_ HB.out)))
                  have n7_ := Aside0.mk (blk_below (sB_ BK1293.out) hb)
                  have n8_ := Aside0.mk (blk_below (sB_ BK1294.out) hb)
                  have n9_ := Aside0.mk (blk_below (sB_ BK1312.out) hb)
                  have n10_ := Aside0.mk (blk_below (sB_ BK1318.out) hb)
                  have n11_ := Aside0.mk (blk_below (sB_ BK1324.out) hb)
                  have n12_ := Aside0.mk (blk_below (sB_ BK1330.out) hb)
                  have n13_ := Aside0.mk (below_step (sW_ HB.out) hb)
                  clear HO_1313002 HO_1319002 HO_1325002 HO_1331002 HO1356 HO1361 BK1293 BK1294 BK1312 BK1318 BK1324 BK1330 HB; have HO_1313002 := n0_; have HO_1319002 := n1_; have HO_1325002 := n2_; have HO_1331002 := n3_; have HO1356 := n4_; have HO1361 := n5_; have HO1366 := n6_; have BK1293 := n7_; have BK1294 := n8_; have BK1312 := n9_; have BK1318 := n10_; have BK1324 := n11_; have BK1330 := n12_; have HB := n13_; clear n0_ n1_ n2_ n3_ n4_ n5_ n6_ n7_ n8_ n9_ n10_ n11_ n12_ n13_
                  (try clear hb)
                  (try clear hb2)
                  (try clear hk)
                  (try clear hi)
                  (try clear ho0)
                  refine hK.out _ _ ⟨(blk_cell BK1293.out 0).trans rfl, (blk_cell BK1293.out 1).trans rfl, (blk_cell BK1293.out 2).trans rfl, (blk_cell BK1294.out 0).trans rfl, (blk_cell BK1294.out 1).trans rfl, (blk_cell BK1294.out 2).trans rfl⟩ (fun hHeld => ?_)
                  clear hK K
                  refine norm_ (a' := ?_) ?_ ?_
                  rotate_left
                  ·show Act.put _ (some 89) _ = _
                   simp only [Act.put, List.setIfInBounds_toArray, List.set_cons_zero, List.set_cons_succ, i64_w, i32_w]
                   rfl
                  refine one_ (i := 7) (N := some 17) #[true, true, true, true, true, true, true, true, false] rfl rfl (one_of HT_.out (by kernel_rfl)) (by decide) (fun K hK => ?_)
                  refine box_step ?hg (N := 17) ?hd (cs := #[.int .i64 0, .int .i64 0, .slice none 0 0]) (t := 41) ?hr ?_; (case hd => rfl); (case hg => rfl); (case hr => first | (go_simp; done) | (go_simp; rfl))
                  intro gb1367 hg w142 hbox hb
                  have n0_ := Aside0.mk (Kd.R_below (sR_ HO_1313002.out) hb)
                  have n1_ := Aside0.mk (Kd.R_below (sR_ HO_1319002.out) hb)
                  have n2_ := Aside0.mk (Kd.R_below (sR_ HO_1325002.out) hb)
                  have n3_ := Aside0.mk (Kd.R_below (sR_ HO_1331002.out) hb)
                  have n4_ := Aside0.mk (Kd.R_below (sR_ HO1356.out) hb)
                  have n5_ := Aside0.mk (Kd.R_below (sR_ HO1361.out) hb)
                  have n6_ := Aside0.mk (Kd.R_below (sR_ HO1366.out) hb)
                  have n7_ := Aside0.mk (blk_below (sB_ BK1293.out) hb)
                  have n8_ := Aside0.mk (blk_below (sB_ BK1294.out) hb)
                  have n9_ := Aside0.mk (blk_below (sB_ BK1312.out) hb)
                  have n10_ := Aside0.mk (blk_below (sB_ BK1318.out) hb)
                  have n11_ := Aside0.mk (blk_below (sB_ BK1324.out) hb)
                  have n12_ := Aside0.mk (blk_below (sB_ BK1330.out) hb)
                  have n13_ := Aside0.mk (below_step (sW_ HB.out) hb)
                  have n14_ := Aside0.mk (hbox)
                  have n15_ := Aside0.mk ((by rw [hg]; exact (below_size (sW_ HB.out)) : w.heap.size ≤ gb1367))
                  have n16_ := Aside0.mk ((by rw [hg]; exact (below_size (sW_ HB.out)) : w.heap.size ≤ gb1367))
                  have n17_ := Aside0.mk ((by rw [hg]; exact Nat.ne_of_lt (blk_lt (sB_ BK1293.out)) : gb1293 ≠ gb1367))
                  have n18_ := Aside0.mk ((by rw [hg]; exact Nat.ne_of_gt (blk_lt (sB_ BK1293.out)) : gb1367 ≠ gb1293))
                  have n19_ := Aside0.mk ((by rw [hg]; exact Nat.ne_of_lt (blk_lt (sB_ BK1294.out)) : gb1294 ≠ gb1367))
                  have n20_ := Aside0.mk ((by rw [hg]; exact Nat.ne_of_gt (blk_lt (sB_ BK1294.out)) : gb1367 ≠ gb1294))
                  have n21_ := Aside0.mk ((by rw [hg]; exact Nat.ne_of_lt (blk_lt (sB_ BK1312.out)) : gb1312 ≠ gb1367))
                  have n22_ := Aside0.mk ((by rw [hg]; exact Nat.ne_of_gt (blk_lt (sB_ BK1312.out)) : gb1367 ≠ gb1312))
                  have n23_ := Aside0.mk ((by rw [hg]; exact Nat.ne_of_lt (blk_lt (sB_ BK1318.out)) : gb1318 ≠ gb1367))
                  have n24_ := Aside0.mk ((by rw [hg]; exact Nat.ne_of_gt (blk_lt (sB_ BK1318.out)) : gb1367 ≠ gb1318))
                  have n25_ := Aside0.mk ((by rw [hg]; exact Nat.ne_of_lt (blk_lt (sB_ BK1324.out)) : gb1324 ≠ gb1367))
                  have n26_ := Aside0.mk ((by rw [hg]; exact Nat.ne_of_gt (blk_lt (sB_ BK1324.out)) : gb1367 ≠ gb1324))
                  have n27_ := Aside0.mk ((by rw [hg]; exact Nat.ne_of_lt (blk_lt (sB_ BK1330.out)) : gb1330 ≠ gb1367))
                  have n28_ := Aside0.mk ((by rw [hg]; exact Nat.ne_of_gt (blk_lt (sB_ BK1330.out)) : gb1367 ≠ gb1330))
                  clear HO_1313002 HO_1319002 HO_1325002 HO_1331002 HO1356 HO1361 HO1366 BK1293 BK1294 BK1312 BK1318 BK1324 BK1330 HB; have HO_1313002 := n0_; have HO_1319002 := n1_; have HO_1325002 := n2_; have HO_1331002 := n3_; have HO1356 := n4_; have HO1361 := n5_; have HO1366 := n6_; have BK1293 := n7_; have BK1294 := n8_; have BK1312 := n9_; have BK1318 := n10_; have BK1324 := n11_; have BK1330 := n12_; have HB := n13_; have BK1367 := n14_; have GW1367 := n15_; have GE1367 := n16_; have NB1293_1367 := n17_; have NB1367_1293 := n18_; have NB1294_1367 := n19_; have NB1367_1294 := n20_; have NB1312_1367 := n21_; have NB1367_1312 := n22_; have NB1318_1367 := n23_; have NB1367_1318 := n24_; have NB1324_1367 := n25_; have NB1367_1324 := n26_; have NB1330_1367 := n27_; have NB1367_1330 := n28_; clear n0_ n1_ n2_ n3_ n4_ n5_ n6_ n7_ n8_ n9_ n10_ n11_ n12_ n13_ n14_ n15_ n16_ n17_ n18_ n19_ n20_ n21_ n22_ n23_ n24_ n25_ n26_ n27_ n28_ hb hbox hg
                  refine hK.out _ _ ⟨(blk_cell BK1293.out 0).trans rfl, (blk_cell BK1293.out 1).trans rfl, (blk_cell BK1293.out 2).trans rfl, (blk_cell BK1294.out 0).trans rfl, (blk_cell BK1294.out 1).trans rfl, (blk_cell BK1294.out 2).trans rfl⟩ (fun hHeld => ?_)
                  clear hK K
                  refine norm_ (a' := ?_) ?_ ?_
                  rotate_left
                  ·show Act.put _ (some 17) _ = _
                   simp only [Act.put, List.setIfInBounds_toArray, List.set_cons_zero, List.set_cons_succ, i64_w, i32_w]
                   rfl
                  exact norm_ sP_ (hCont (.slice Ao139 t1354.length co139, .slice Ao140 t1359.length co140, v1365, gb1367) _ ⟨hHeld, (by (with_reducible repeat (first | apply Kd.R_alloc | apply Kd.R_drewN | apply Kd.R_drew)); exact Kd.R_mono HO1356.out (fun _ hk => ⟨hk.1.2, ⟨hk.2, ⟨hk.1.1.1.1.1.2, ⟨hk.1.1.1.1.2, ⟨hk.1.1.1.2, hk.1.1.2⟩⟩⟩⟩⟩)), (by (with_reducible repeat (first | apply Kd.R_alloc | apply Kd.R_drewN | apply Kd.R_drew)); exact Kd.R_mono HO1361.out (fun _ hk => ⟨hk.1.2, ⟨hk.2, ⟨hk.1.1.1.1.1.2, ⟨hk.1.1.1.1.2, ⟨hk.1.1.1.2, hk.1.1.2⟩⟩⟩⟩⟩)), (by (with_reducible repeat (first | apply Kd.R_alloc | apply Kd.R_drewN | apply Kd.R_drew)); exact Kd.R_mono HO1366.out (fun _ hk => ⟨hk.1.2, ⟨hk.2, ⟨hk.1.1.1.1.1.2, ⟨hk.1.1.1.1.2, ⟨hk.1.1.1.2, hk.1.1.2⟩⟩⟩⟩⟩)), (by (with_reducible repeat (first | apply Kd.R_alloc | apply Kd.R_drewN | apply Kd.R_drew)); exact Kd.R_mono HO_1313002.out (fun _ hk => ⟨hk.1.1.2, ⟨hk.1.2, ⟨hk.2, ⟨hk.1.1.1.1, ⟨hk.1.1.1.2.1, hk.1.1.1.2.2⟩⟩⟩⟩⟩)), (by (with_reducible repeat (first | apply Kd.R_alloc | apply Kd.R_drewN | apply Kd.R_drew)); exact Kd.R_mono HO_1319002.out (fun _ hk => ⟨hk.1.1.2, ⟨hk.1.2, ⟨hk.2, ⟨hk.1.1.1.1, ⟨hk.1.1.1.2.1, hk.1.1.1.2.2⟩⟩⟩⟩⟩)), (by (with_reducible repeat (first | apply Kd.R_alloc | apply Kd.R_drewN | apply Kd.R_drew)); exact Kd.R_mono HO_1325002.out (fun _ hk => ⟨hk.1.1.2, ⟨hk.1.2, ⟨hk.2, ⟨hk.1.1.1.1, ⟨hk.1.1.1.2.1, hk.1.1.1.2.2⟩⟩⟩⟩⟩)), (by (with_reducible repeat (first | apply Kd.R_alloc | apply Kd.R_drewN | apply Kd.R_drew)); exact Kd.R_mono HO_1331002.out (fun _ hk => ⟨hk.1.1.2, ⟨hk.1.2, ⟨hk.2, ⟨hk.1.1.1.1, ⟨hk.1.1.1.2.1, hk.1.1.1.2.2⟩⟩⟩⟩⟩)), (sB_ BK1293.out), (sB_ BK1294.out), (sB_ BK1312.out), (sB_ BK1318.out), (sB_ BK1324.out), (sB_ BK1330.out), (sB_ BK1367.out), GW1367.out, GE1367.out, NB1293_1367.out, NB1367_1293.out, NB1294_1367.out, NB1367_1294.out, NB1312_1367.out, NB1367_1312.out, NB1318_1367.out, NB1367_1318.out, NB1324_1367.out, NB1367_1324.out, NB1330_1367.out, NB1367_1330.out, (sW_ HB.out)⟩)
                 ·skip
                  refine box_step ?hg (N := 17) ?hd (cs := #[.int .i64 0, .int .i64 0, .slice none 0 0]) (t := 41) ?hr ?_; (case hd => rfl); (case hg => rfl); (case hr => first | (go_simp; done) | (go_simp; rfl))
                  intro gb1367 hg w139 hbox hb
                  have n0_ := Aside0.mk (Kd.R_below (sR_ HO_1313002.out) hb)
                  have n1_ := Aside0.mk (Kd.R_below (sR_ HO_1319002.out) hb)
                  have n2_ := Aside0.mk (Kd.R_below (sR_ HO_1325002.out) hb)
                  have n3_ := Aside0.mk (Kd.R_below (sR_ HO_1331002.out) hb)
                  have n4_ := Aside0.mk (Kd.R_below (sR_ HO1356.out) hb)
                  have n5_ := Aside0.mk (Kd.R_below (sR_ HO1361.out) hb)
                  have n6_ := Aside0.mk (blk_below (sB_ BK1293.out) hb)
                  have n7_ := Aside0.mk (blk_below (sB_ BK1294.out) hb)
                  have n8_ := Aside0.mk (blk_below (sB_ BK1312.out) hb)
                  have n9_ := Aside0.mk (blk_below (sB_ BK1318.out) hb)
                  have n10_ := Aside0.mk (blk_below (sB_ BK1324.out) hb)
                  have n11_ := Aside0.mk (blk_below (sB_ BK1330.out) hb)
                  have n12_ := Aside0.mk (below_step (sW_ HB.out) hb)
                  have n13_ := Aside0.mk (hbox)
                  have n14_ := Aside0.mk ((by rw [hg]; exact (below_size (sW_ HB.out)) : w.heap.size ≤ gb1367))
                  have n15_ := Aside0.mk ((by rw [hg]; exact (below_size (sW_ HB.out)) : w.heap.size ≤ gb1367))
                  have n16_ := Aside0.mk ((by rw [hg]; exact Nat.ne_of_lt (blk_lt (sB_ BK1293.out)) : gb1293 ≠ gb1367))
                  have n17_ := Aside0.mk ((by rw [hg]; exact Nat.ne_of_gt (blk_lt (sB_ BK1293.out)) : gb1367 ≠ gb1293))
                  have n18_ := Aside0.mk ((by rw [hg]; exact Nat.ne_of_lt (blk_lt (sB_ BK1294.out)) : gb1294 ≠ gb1367))
                  have n19_ := Aside0.mk ((by rw [hg]; exact Nat.ne_of_gt (blk_lt (sB_ BK1294.out)) : gb1367 ≠ gb1294))
                  have n20_ := Aside0.mk ((by rw [hg]; exact Nat.ne_of_lt (blk_lt (sB_ BK1312.out)) : gb1312 ≠ gb1367))
                  have n21_ := Aside0.mk ((by rw [hg]; exact Nat.ne_of_gt (blk_lt (sB_ BK1312.out)) : gb1367 ≠ gb1312))
                  have n22_ := Aside0.mk ((by rw [hg]; exact Nat.ne_of_lt (blk_lt (sB_ BK1318.out)) : gb1318 ≠ gb1367))
                  have n23_ := Aside0.mk ((by rw [hg]; exact Nat.ne_of_gt (blk_lt (sB_ BK1318.out)) : gb1367 ≠ gb1318))
                  have n24_ := Aside0.mk ((by rw [hg]; exact Nat.ne_of_lt (blk_lt (sB_ BK1324.out)) : gb1324 ≠ gb1367))
                  have n25_ := Aside0.mk ((by rw [hg]; exact Nat.ne_of_gt (blk_lt (sB_ BK1324.out)) : gb1367 ≠ gb1324))
                  have n26_ := Aside0.mk ((by rw [hg]; exact Nat.ne_of_lt (blk_lt (sB_ BK1330.out)) : gb1330 ≠ gb1367))
                  have n27_ := Aside0.mk ((by rw [hg]; exact Nat.ne_of_gt (blk_lt (sB_ BK1330.out)) : gb1367 ≠ gb1330))
                  clear HO_1313002 HO_1319002 HO_1325002 HO_1331002 HO1356 HO1361 BK1293 BK1294 BK1312 BK1318 BK1324 BK1330 HB; have HO_1313002 := n0_; have HO_1319002 := n1_; have HO_1325002 := n2_; have HO_1331002 := n3_; have HO1356 := n4_; have HO1361 := n5_; have BK1293 := n6_; have BK1294 := n7_; have BK1312 := n8_; have BK1318 := n9_; have BK1324 := n10_; have BK1330 := n11_; have HB := n12_; have BK1367 := n13_; have GW1367 := n14_; have GE1367 := n15_; have NB1293_1367 := n16_; have NB1367_1293 := n17_; have NB1294_1367 := n18_; have NB1367_1294 := n19_; have NB1312_1367 := n20_; have NB1367_1312 := n21_; have NB1318_1367 := n22_; have NB1367_1318 := n23_; have NB1324_1367 := n24_; have NB1367_1324 := n25_; have NB1330_1367 := n26_; have NB1367_1330 := n27_; clear n0_ n1_ n2_ n3_ n4_ n5_ n6_ n7_ n8_ n9_ n10_ n11_ n12_ n13_ n14_ n15_ n16_ n17_ n18_ n19_ n20_ n21_ n22_ n23_ n24_ n25_ n26_ n27_ hb hbox hg
                  obtain ⟨Ao140, co140, eo140⟩ := Kd.R_slice HO1356.out
                  (first | subst eo140 | (injection eo140 with f1_ f2_ f3_; have f4_ := f1_.symm; have f5_ := f3_.symm; clear f1_ f2_ f3_; subst f4_; subst f5_))
                  obtain ⟨Ao141, co141, eo141⟩ := Kd.R_slice HO1361.out
                  (first | subst eo141 | (injection eo141 with f1_ f2_ f3_; have f4_ := f1_.symm; have f5_ := f3_.symm; clear f1_ f2_ f3_; subst f4_; subst f5_))
                  refine hK.out _ _ ⟨(blk_cell BK1293.out 0).trans rfl, (blk_cell BK1293.out 1).trans rfl, (blk_cell BK1293.out 2).trans rfl, (blk_cell BK1294.out 0).trans rfl, (blk_cell BK1294.out 1).trans rfl, (blk_cell BK1294.out 2).trans rfl⟩ (fun hHeld => ?_)
                  clear hK K
                  refine norm_ (a' := ?_) ?_ ?_
                  rotate_left
                  ·show Act.put _ (some 17) _ = _
                   simp only [Act.put, List.setIfInBounds_toArray, List.set_cons_zero, List.set_cons_succ, i64_w, i32_w]
                   rfl
                  refine one_ (i := 6) (N := some 89) #[true, true, true, true, true, true, true, true, false] rfl rfl (one_of HT_.out (by kernel_rfl)) (by decide) (fun K hK => ?_)
                  refine goes_ Try.func78 (by kernel_rfl) rfl #[.agg #[.int .i64 t1352, .int .i64 t1353, .slice Ao140 t1354.length co140], .agg #[.int .i64 t1357, .int .i64 t1358, .slice Ao141 t1359.length co141], .int .i64 a2, .int .i64 a3] (by rfl) rfl rfl sL_ ?_
                  with_reducible refine (impl_ScreenShifted.calls t1352 t1353 _ _ t1354 t1357 t1358 _ _ t1359 a2 a3 t1362 t1363 t1364 _ ?side1 ?side2 ?side3 ?side4 A121.out).mono ?_
                  (case side1 => repeat (first | exact (Kd.R_reads' HO1356.out).2.2 | (with_reducible refine Kd.C_alloc ?_ _) | (with_reducible refine Kd.C_drewN ?_ _) | (with_reducible refine Kd.C_drew ?_)))
                  (case side2 => exact (Kd.R_reads' HO1356.out).2.1)
                  (case side3 => repeat (first | exact (Kd.R_reads' HO1361.out).2.2 | (with_reducible refine Kd.C_alloc ?_ _) | (with_reducible refine Kd.C_drewN ?_ _) | (with_reducible refine Kd.C_drew ?_)))
                  (case side4 => exact (Kd.R_reads' HO1361.out).2.1)
                  rintro e w142 ⟨v1365, rfl, ho0, hb⟩
                  refine ⟨_, rfl, ?_⟩
                  have n0_ := Aside0.mk (Kd.R_elder' (sR_ HO_1313002.out) (Kd.R_base ho0) hb)
                  have n1_ := Aside0.mk (Kd.R_elder' (sR_ HO_1319002.out) (Kd.R_base ho0) hb)
                  have n2_ := Aside0.mk (Kd.R_elder' (sR_ HO_1325002.out) (Kd.R_base ho0) hb)
                  have n3_ := Aside0.mk (Kd.R_elder' (sR_ HO_1331002.out) (Kd.R_base ho0) hb)
                  have n4_ := Aside0.mk (Kd.R_elder' (sR_ HO1356.out) (Kd.R_base ho0) hb)
                  have n5_ := Aside0.mk (Kd.R_elder' (sR_ HO1361.out) (Kd.R_base ho0) hb)
                  have n6_ := Aside0.mk (Kd.R_lower (Kd.R_new' (Kd.R_new' (Kd.R_new' (Kd.R_new' (Kd.R_new' (Kd.R_new' ho0 (Kd.R_lt (sR_ HO_1313002.out))) (Kd.R_lt (sR_ HO_1319002.out))) (Kd.R_lt (sR_ HO_1325002.out))) (Kd.R_lt (sR_ HO_1331002.out))) (Kd.R_lt (sR_ HO1356.out))) (Kd.R_lt (sR_ HO1361.out))) (below_size (sW_ HB.out)))
                  have n7_ := Aside0.mk (blk_below (sB_ BK1293.out) hb)
                  have n8_ := Aside0.mk (blk_below (sB_ BK1294.out) hb)
                  have n9_ := Aside0.mk (blk_below (sB_ BK1312.out) hb)
                  have n10_ := Aside0.mk (blk_below (sB_ BK1318.out) hb)
                  have n11_ := Aside0.mk (blk_below (sB_ BK1324.out) hb)
                  have n12_ := Aside0.mk (blk_below (sB_ BK1330.out) hb)
                  have n13_ := Aside0.mk (blk_below (sB_ BK1367.out) hb)
                  have n14_ := Aside0.mk (below_step (sW_ HB.out) hb)
                  clear HO_1313002 HO_1319002 HO_1325002 HO_1331002 HO1356 HO1361 BK1293 BK1294 BK1312 BK1318 BK1324 BK1330 BK1367 HB; have HO_1313002 := n0_; have HO_1319002 := n1_; have HO_1325002 := n2_; have HO_1331002 := n3_; have HO1356 := n4_; have HO1361 := n5_; have HO1366 := n6_; have BK1293 := n7_; have BK1294 := n8_; have BK1312 := n9_; have BK1318 := n10_; have BK1324 := n11_; have BK1330 := n12_; have BK1367 := n13_; have HB := n14_; clear n0_ n1_ n2_ n3_ n4_ n5_ n6_ n7_ n8_ n9_ n10_ n11_ n12_ n13_ n14_
                  (try clear hb)
                  (try clear hb2)
                  (try clear hk)
                  (try clear hi)
                  (try clear ho0)
                  refine hK.out _ _ ⟨(blk_cell BK1293.out 0).trans rfl, (blk_cell BK1293.out 1).trans rfl, (blk_cell BK1293.out 2).trans rfl, (blk_cell BK1294.out 0).trans rfl, (blk_cell BK1294.out 1).trans rfl, (blk_cell BK1294.out 2).trans rfl⟩ (fun hHeld => ?_)
                  clear hK K
                  refine norm_ (a' := ?_) ?_ ?_
                  rotate_left
                  ·show Act.put _ (some 89) _ = _
                   simp only [Act.put, List.setIfInBounds_toArray, List.set_cons_zero, List.set_cons_succ, i64_w, i32_w]
                   rfl
                  exact norm_ sP_ (hCont (.slice Ao140 t1354.length co140, .slice Ao141 t1359.length co141, v1365, gb1367) _ ⟨hHeld, (by (with_reducible repeat (first | apply Kd.R_alloc | apply Kd.R_drewN | apply Kd.R_drew)); exact Kd.R_mono HO1356.out (fun _ hk => ⟨hk.1.2, ⟨hk.2, ⟨hk.1.1.1.1.1.2, ⟨hk.1.1.1.1.2, ⟨hk.1.1.1.2, hk.1.1.2⟩⟩⟩⟩⟩)), (by (with_reducible repeat (first | apply Kd.R_alloc | apply Kd.R_drewN | apply Kd.R_drew)); exact Kd.R_mono HO1361.out (fun _ hk => ⟨hk.1.2, ⟨hk.2, ⟨hk.1.1.1.1.1.2, ⟨hk.1.1.1.1.2, ⟨hk.1.1.1.2, hk.1.1.2⟩⟩⟩⟩⟩)), (by (with_reducible repeat (first | apply Kd.R_alloc | apply Kd.R_drewN | apply Kd.R_drew)); exact Kd.R_mono HO1366.out (fun _ hk => ⟨hk.1.2, ⟨hk.2, ⟨hk.1.1.1.1.1.2, ⟨hk.1.1.1.1.2, ⟨hk.1.1.1.2, hk.1.1.2⟩⟩⟩⟩⟩)), (by (with_reducible repeat (first | apply Kd.R_alloc | apply Kd.R_drewN | apply Kd.R_drew)); exact Kd.R_mono HO_1313002.out (fun _ hk => ⟨hk.1.1.2, ⟨hk.1.2, ⟨hk.2, ⟨hk.1.1.1.1, ⟨hk.1.1.1.2.1, hk.1.1.1.2.2⟩⟩⟩⟩⟩)), (by (with_reducible repeat (first | apply Kd.R_alloc | apply Kd.R_drewN | apply Kd.R_drew)); exact Kd.R_mono HO_1319002.out (fun _ hk => ⟨hk.1.1.2, ⟨hk.1.2, ⟨hk.2, ⟨hk.1.1.1.1, ⟨hk.1.1.1.2.1, hk.1.1.1.2.2⟩⟩⟩⟩⟩)), (by (with_reducible repeat (first | apply Kd.R_alloc | apply Kd.R_drewN | apply Kd.R_drew)); exact Kd.R_mono HO_1325002.out (fun _ hk => ⟨hk.1.1.2, ⟨hk.1.2, ⟨hk.2, ⟨hk.1.1.1.1, ⟨hk.1.1.1.2.1, hk.1.1.1.2.2⟩⟩⟩⟩⟩)), (by (with_reducible repeat (first | apply Kd.R_alloc | apply Kd.R_drewN | apply Kd.R_drew)); exact Kd.R_mono HO_1331002.out (fun _ hk => ⟨hk.1.1.2, ⟨hk.1.2, ⟨hk.2, ⟨hk.1.1.1.1, ⟨hk.1.1.1.2.1, hk.1.1.1.2.2⟩⟩⟩⟩⟩)), (sB_ BK1293.out), (sB_ BK1294.out), (sB_ BK1312.out), (sB_ BK1318.out), (sB_ BK1324.out), (sB_ BK1330.out), (sB_ BK1367.out), GW1367.out, GE1367.out, NB1293_1367.out, NB1367_1293.out, NB1294_1367.out, NB1367_1294.out, NB1312_1367.out, NB1367_1312.out, NB1318_1367.out, NB1367_1318.out, NB1324_1367.out, NB1367_1324.out, NB1330_1367.out, NB1367_1330.out, (sW_ HB.out)⟩)
                ·skip
                 refine box_step ?hg (N := 17) ?hd (cs := #[.int .i64 0, .int .i64 0, .slice none 0 0]) (t := 41) ?hr ?_; (case hd => rfl); (case hg => rfl); (case hr => first | (go_simp; done) | (go_simp; rfl))
                 intro gb1367 hg w138 hbox hb
                 have n0_ := Aside0.mk (Kd.R_below (sR_ HO_1313002.out) hb)
                 have n1_ := Aside0.mk (Kd.R_below (sR_ HO_1319002.out) hb)
                 have n2_ := Aside0.mk (Kd.R_below (sR_ HO_1325002.out) hb)
                 have n3_ := Aside0.mk (Kd.R_below (sR_ HO_1331002.out) hb)
                 have n4_ := Aside0.mk (Kd.R_below (sR_ HO1356.out) hb)
                 have n5_ := Aside0.mk (blk_below (sB_ BK1293.out) hb)
                 have n6_ := Aside0.mk (blk_below (sB_ BK1294.out) hb)
                 have n7_ := Aside0.mk (blk_below (sB_ BK1312.out) hb)
                 have n8_ := Aside0.mk (blk_below (sB_ BK1318.out) hb)
                 have n9_ := Aside0.mk (blk_below (sB_ BK1324.out) hb)
                 have n10_ := Aside0.mk (blk_below (sB_ BK1330.out) hb)
                 have n11_ := Aside0.mk (below_step (sW_ HB.out) hb)
                 have n12_ := Aside0.mk (hbox)
                 have n13_ := Aside0.mk ((by rw [hg]; exact (below_size (sW_ HB.out)) : w.heap.size ≤ gb1367))
                 have n14_ := Aside0.mk ((by rw [hg]; exact (below_size (sW_ HB.out)) : w.heap.size ≤ gb1367))
                 have n15_ := Aside0.mk ((by rw [hg]; exact Nat.ne_of_lt (blk_lt (sB_ BK1293.out)) : gb1293 ≠ gb1367))
                 have n16_ := Aside0.mk ((by rw [hg]; exact Nat.ne_of_gt (blk_lt (sB_ BK1293.out)) : gb1367 ≠ gb1293))
                 have n17_ := Aside0.mk ((by rw [hg]; exact Nat.ne_of_lt (blk_lt (sB_ BK1294.out)) : gb1294 ≠ gb1367))
                 have n18_ := Aside0.mk ((by rw [hg]; exact Nat.ne_of_gt (blk_lt (sB_ BK1294.out)) : gb1367 ≠ gb1294))
                 have n19_ := Aside0.mk ((by rw [hg]; exact Nat.ne_of_lt (blk_lt (sB_ BK1312.out)) : gb1312 ≠ gb1367))
                 have n20_ := Aside0.mk ((by rw [hg]; exact Nat.ne_of_gt (blk_lt (sB_ BK1312.out)) : gb1367 ≠ gb1312))
                 have n21_ := Aside0.mk ((by rw [hg]; exact Nat.ne_of_lt (blk_lt (sB_ BK1318.out)) : gb1318 ≠ gb1367))
                 have n22_ := Aside0.mk ((by rw [hg]; exact Nat.ne_of_gt (blk_lt (sB_ BK1318.out)) : gb1367 ≠ gb1318))
                 have n23_ := Aside0.mk ((by rw [hg]; exact Nat.ne_of_lt (blk_lt (sB_ BK1324.out)) : gb1324 ≠ gb1367))
                 have n24_ := Aside0.mk ((by rw [hg]; exact Nat.ne_of_gt (blk_lt (sB_ BK1324.out)) : gb1367 ≠ gb1324))
                 have n25_ := Aside0.mk ((by rw [hg]; exact Nat.ne_of_lt (blk_lt (sB_ BK1330.out)) : gb1330 ≠ gb1367))
                 have n26_ := Aside0.mk ((by rw [hg]; exact Nat.ne_of_gt (blk_lt (sB_ BK1330.out)) : gb1367 ≠ gb1330))
                 clear HO_1313002 HO_1319002 HO_1325002 HO_1331002 HO1356 BK1293 BK1294 BK1312 BK1318 BK1324 BK1330 HB; have HO_1313002 := n0_; have HO_1319002 := n1_; have HO_1325002 := n2_; have HO_1331002 := n3_; have HO1356 := n4_; have BK1293 := n5_; have BK1294 := n6_; have BK1312 := n7_; have BK1318 := n8_; have BK1324 := n9_; have BK1330 := n10_; have HB := n11_; have BK1367 := n12_; have GW1367 := n13_; have GE1367 := n14_; have NB1293_1367 := n15_; have NB1367_1293 := n16_; have NB1294_1367 := n17_; have NB1367_1294 := n18_; have NB1312_1367 := n19_; have NB1367_1312 := n20_; have NB1318_1367 := n21_; have NB1367_1318 := n22_; have NB1324_1367 := n23_; have NB1367_1324 := n24_; have NB1330_1367 := n25_; have NB1367_1330 := n26_; clear n0_ n1_ n2_ n3_ n4_ n5_ n6_ n7_ n8_ n9_ n10_ n11_ n12_ n13_ n14_ n15_ n16_ n17_ n18_ n19_ n20_ n21_ n22_ n23_ n24_ n25_ n26_ hb hbox hg
                 refine hK.out _ _ ⟨(blk_cell BK1293.out 0).trans rfl, (blk_cell BK1293.out 1).trans rfl, (blk_cell BK1293.out 2).trans rfl, (blk_cell BK1294.out 0).trans rfl, (blk_cell BK1294.out 1).trans rfl, (blk_cell BK1294.out 2).trans rfl⟩ (fun hHeld => ?_)
                 clear hK K
                 refine norm_ (a' := ?_) ?_ ?_
                 rotate_left
                 ·show Act.put _ (some 17) _ = _
                  simp only [Act.put, List.setIfInBounds_toArray, List.set_cons_zero, List.set_cons_succ, i64_w, i32_w]
                  rfl
                 refine one_ (i := 3) (N := some 86) #[true, true, true, true, true, true, false, true, false] rfl rfl (one_of HT_.out (by kernel_rfl)) (by decide) (fun K hK => ?_)
                 refine goes_ Try.func48 (by kernel_rfl) rfl #[.agg #[.int .i64 a1_0, .int .i64 a1_1, .slice A1_2 l1_2.length c1_2]] (by rfl) rfl rfl sL_ ?_
                 with_reducible refine (laws_toPicture.calls kj36 a1_0 a1_1 _ _ l1_2 t1357 t1358 t1359 _ ?side1 ?side2 A120.out).mono ?_
                 (case side1 => repeat (first | exact (Kd.C_below HR1_2.out HB.out) | (with_reducible refine Kd.C_alloc ?_ _) | (with_reducible refine Kd.C_drewN ?_ _) | (with_reducible refine Kd.C_drew ?_)))
                 (case side2 => exact HC1_2.out)
                 rintro e w139 ⟨v1360, rfl, ho0, hb⟩
                 refine ⟨_, rfl, ?_⟩
                 have n0_ := Aside0.mk (Kd.R_elder' (sR_ HO_1313002.out) (Kd.R_base ho0) hb)
                 have n1_ := Aside0.mk (Kd.R_elder' (sR_ HO_1319002.out) (Kd.R_base ho0) hb)
                 have n2_ := Aside0.mk (Kd.R_elder' (sR_ HO_1325002.out) (Kd.R_base ho0) hb)
                 have n3_ := Aside0.mk (Kd.R_elder' (sR_ HO_1331002.out) (Kd.R_base ho0) hb)
                 have n4_ := Aside0.mk (Kd.R_elder' (sR_ HO1356.out) (Kd.R_base ho0) hb)
                 have n5_ := Aside0.mk (Kd.R_lower (Kd.R_new' (Kd.R_new' (Kd.R_new' (Kd.R_new' (Kd.R_new' ho0 (Kd.R_lt (sR_ HO_1313002.out))) (Kd.R_lt (sR_ HO_1319002.out))) (Kd.R_lt (sR_ HO_1325002.out))) (Kd.R_lt (sR_ HO_1331002.out))) (Kd.R_lt (sR_ HO1356.out))) (below_size (sW_ HB.out)))
                 have n6_ := Aside0.mk (blk_below (sB_ BK1293.out) hb)
                 have n7_ := Aside0.mk (blk_below (sB_ BK1294.out) hb)
                 have n8_ := Aside0.mk (blk_below (sB_ BK1312.out) hb)
                 have n9_ := Aside0.mk (blk_below (sB_ BK1318.out) hb)
                 have n10_ := Aside0.mk (blk_below (sB_ BK1324.out) hb)
                 have n11_ := Aside0.mk (blk_below (sB_ BK1330.out) hb)
                 have n12_ := Aside0.mk (blk_below (sB_ BK1367.out) hb)
                 have n13_ := Aside0.mk (below_step (sW_ HB.out) hb)
                 clear HO_1313002 HO_1319002 HO_1325002 HO_1331002 HO1356 BK1293 BK1294 BK1312 BK1318 BK1324 BK1330 BK1367 HB; have HO_1313002 := n0_; have HO_1319002 := n1_; have HO_1325002 := n2_; have HO_1331002 := n3_; have HO1356 := n4_; have HO1361 := n5_; have BK1293 := n6_; have BK1294 := n7_; have BK1312 := n8_; have BK1318 := n9_; have BK1324 := n10_; have BK1330 := n11_; have BK1367 := n12_; have HB := n13_; clear n0_ n1_ n2_ n3_ n4_ n5_ n6_ n7_ n8_ n9_ n10_ n11_ n12_ n13_
                 (try clear hb)
                 (try clear hb2)
                 (try clear hk)
                 (try clear hi)
                 (try clear ho0)
                 obtain ⟨Ao140, co140, eo140⟩ := Kd.R_slice HO1356.out
                 (first | subst eo140 | (injection eo140 with f1_ f2_ f3_; have f4_ := f1_.symm; have f5_ := f3_.symm; clear f1_ f2_ f3_; subst f4_; subst f5_))
                 obtain ⟨Ao141, co141, eo141⟩ := Kd.R_slice HO1361.out
                 (first | subst eo141 | (injection eo141 with f1_ f2_ f3_; have f4_ := f1_.symm; have f5_ := f3_.symm; clear f1_ f2_ f3_; subst f4_; subst f5_))
                 refine hK.out _ _ ⟨(blk_cell BK1293.out 0).trans rfl, (blk_cell BK1293.out 1).trans rfl, (blk_cell BK1293.out 2).trans rfl, (blk_cell BK1294.out 0).trans rfl, (blk_cell BK1294.out 1).trans rfl, (blk_cell BK1294.out 2).trans rfl⟩ (fun hHeld => ?_)
                 clear hK K
                 refine norm_ (a' := ?_) ?_ ?_
                 rotate_left
                 ·show Act.put _ (some 86) _ = _
                  simp only [Act.put, List.setIfInBounds_toArray, List.set_cons_zero, List.set_cons_succ, i64_w, i32_w]
                  rfl
                 refine one_ (i := 6) (N := some 89) #[true, true, true, true, true, true, true, true, false] rfl rfl (one_of HT_.out (by kernel_rfl)) (by decide) (fun K hK => ?_)
                 refine goes_ Try.func78 (by kernel_rfl) rfl #[.agg #[.int .i64 t1352, .int .i64 t1353, .slice Ao140 t1354.length co140], .agg #[.int .i64 t1357, .int .i64 t1358, .slice Ao141 t1359.length co141], .int .i64 a2, .int .i64 a3] (by rfl) rfl rfl sL_ ?_
                 with_reducible refine (impl_ScreenShifted.calls t1352 t1353 _ _ t1354 t1357 t1358 _ _ t1359 a2 a3 t1362 t1363 t1364 _ ?side1 ?side2 ?side3 ?side4 A121.out).mono ?_
                 (case side1 => repeat (first | exact (Kd.R_reads' HO1356.out).2.2 | (with_reducible refine Kd.C_alloc ?_ _) | (with_reducible refine Kd.C_drewN ?_ _) | (with_reducible refine Kd.C_drew ?_)))
                 (case side2 => exact (Kd.R_reads' HO1356.out).2.1)
                 (case side3 => repeat (first | exact (Kd.R_reads' HO1361.out).2.2 | (with_reducible refine Kd.C_alloc ?_ _) | (with_reducible refine Kd.C_drewN ?_ _) | (with_reducible refine Kd.C_drew ?_)))
                 (case side4 => exact (Kd.R_reads' HO1361.out).2.1)
                 rintro e w142 ⟨v1365, rfl, ho0, hb⟩
                 refine ⟨_, rfl, ?_⟩
                 have n0_ := Aside0.mk (Kd.R_elder' (sR_ HO_1313002.out) (Kd.R_base ho0) hb)
                 have n1_ := Aside0.mk (Kd.R_elder' (sR_ HO_1319002.out) (Kd.R_base ho0) hb)
                 have n2_ := Aside0.mk (Kd.R_elder' (sR_ HO_1325002.out) (Kd.R_base ho0) hb)
                 have n3_ := Aside0.mk (Kd.R_elder' (sR_ HO_1331002.out) (Kd.R_base ho0) hb)
                 have n4_ := Aside0.mk (Kd.R_elder' (sR_ HO1356.out) (Kd.R_base ho0) hb)
                 have n5_ := Aside0.mk (Kd.R_elder' (sR_ HO1361.out) (Kd.R_base ho0) hb)
                 have n6_ := Aside0.mk (Kd.R_lower (Kd.R_new' (Kd.R_new' (Kd.R_new' (Kd.R_new' (Kd.R_new' (Kd.R_new' ho0 (Kd.R_lt (sR_ HO_1313002.out))) (Kd.R_lt (sR_ HO_1319002.out))) (Kd.R_lt (sR_ HO_1325002.out))) (Kd.R_lt (sR_ HO_1331002.out))) (Kd.R_lt (sR_ HO1356.out))) (Kd.R_lt (sR_ HO1361.out))) (below_size (sW_ HB.out)))
                 have n7_ := Aside0.mk (blk_below (sB_ BK1293.out) hb)
                 have n8_ := Aside0.mk (blk_below (sB_ BK1294.out) hb)
                 have n9_ := Aside0.mk (blk_below (sB_ BK1312.out) hb)
                 have n10_ := Aside0.mk (blk_below (sB_ BK1318.out) hb)
                 have n11_ := Aside0.mk (blk_below (sB_ BK1324.out) hb)
                 have n12_ := Aside0.mk (blk_below (sB_ BK1330.out) hb)
                 have n13_ := Aside0.mk (blk_below (sB_ BK1367.out) hb)
                 have n14_ := Aside0.mk (below_step (sW_ HB.out) hb)
                 clear HO_1313002 HO_1319002 HO_1325002 HO_1331002 HO1356 HO1361 BK1293 BK1294 BK1312 BK1318 BK1324 BK1330 BK1367 HB; have HO_1313002 := n0_; have HO_1319002 := n1_; have HO_1325002 := n2_; have HO_1331002 := n3_; have HO1356 := n4_; have HO1361 := n5_; have HO1366 := n6_; have BK1293 := n7_; have BK1294 := n8_; have BK1312 := n9_; have BK1318 := n10_; have BK1324 := n11_; have BK1330 := n12_; have BK1367 := n13_; have HB := n14_; clear n0_ n1_ n2_ n3_ n4_ n5_ n6_ n7_ n8_ n9_ n10_ n11_ n12_ n13_ n14_
                 (try clear hb)
                 (try clear hb2)
                 (try clear hk)
                 (try clear hi)
                 (try clear ho0)
                 refine hK.out _ _ ⟨(blk_cell BK1293.out 0).trans rfl, (blk_cell BK1293.out 1).trans rfl, (blk_cell BK1293.out 2).trans rfl, (blk_cell BK1294.out 0).trans rfl, (blk_cell BK1294.out 1).trans rfl, (blk_cell BK1294.out 2).trans rfl⟩ (fun hHeld => ?_)
                 clear hK K
                 refine norm_ (a' := ?_) ?_ ?_
                 rotate_left
                 ·show Act.put _ (some 89) _ = _
                  simp only [Act.put, List.setIfInBounds_toArray, List.set_cons_zero, List.set_cons_succ, i64_w, i32_w]
                  rfl
                 exact norm_ sP_ (hCont (.slice Ao140 t1354.length co140, .slice Ao141 t1359.length co141, v1365, gb1367) _ ⟨hHeld, (by (with_reducible repeat (first | apply Kd.R_alloc | apply Kd.R_drewN | apply Kd.R_drew)); exact Kd.R_mono HO1356.out (fun _ hk => ⟨hk.1.2, ⟨hk.2, ⟨hk.1.1.1.1.1.2, ⟨hk.1.1.1.1.2, ⟨hk.1.1.1.2, hk.1.1.2⟩⟩⟩⟩⟩)), (by (with_reducible repeat (first | apply Kd.R_alloc | apply Kd.R_drewN | apply Kd.R_drew)); exact Kd.R_mono HO1361.out (fun _ hk => ⟨hk.1.2, ⟨hk.2, ⟨hk.1.1.1.1.1.2, ⟨hk.1.1.1.1.2, ⟨hk.1.1.1.2, hk.1.1.2⟩⟩⟩⟩⟩)), (by (with_reducible repeat (first | apply Kd.R_alloc | apply Kd.R_drewN | apply Kd.R_drew)); exact Kd.R_mono HO1366.out (fun _ hk => ⟨hk.1.2, ⟨hk.2, ⟨hk.1.1.1.1.1.2, ⟨hk.1.1.1.1.2, ⟨hk.1.1.1.2, hk.1.1.2⟩⟩⟩⟩⟩)), (by (with_reducible repeat (first | apply Kd.R_alloc | apply Kd.R_drewN | apply Kd.R_drew)); exact Kd.R_mono HO_1313002.out (fun _ hk => ⟨hk.1.1.2, ⟨hk.1.2, ⟨hk.2, ⟨hk.1.1.1.1, ⟨hk.1.1.1.2.1, hk.1.1.1.2.2⟩⟩⟩⟩⟩)), (by (with_reducible repeat (first | apply Kd.R_alloc | apply Kd.R_drewN | apply Kd.R_drew)); exact Kd.R_mono HO_1319002.out (fun _ hk => ⟨hk.1.1.2, ⟨hk.1.2, ⟨hk.2, ⟨hk.1.1.1.1, ⟨hk.1.1.1.2.1, hk.1.1.1.2.2⟩⟩⟩⟩⟩)), (by (with_reducible repeat (first | apply Kd.R_alloc | apply Kd.R_drewN | apply Kd.R_drew)); exact Kd.R_mono HO_1325002.out (fun _ hk => ⟨hk.1.1.2, ⟨hk.1.2, ⟨hk.2, ⟨hk.1.1.1.1, ⟨hk.1.1.1.2.1, hk.1.1.1.2.2⟩⟩⟩⟩⟩)), (by (with_reducible repeat (first | apply Kd.R_alloc | apply Kd.R_drewN | apply Kd.R_drew)); exact Kd.R_mono HO_1331002.out (fun _ hk => ⟨hk.1.1.2, ⟨hk.1.2, ⟨hk.2, ⟨hk.1.1.1.1, ⟨hk.1.1.1.2.1, hk.1.1.1.2.2⟩⟩⟩⟩⟩)), (sB_ BK1293.out), (sB_ BK1294.out), (sB_ BK1312.out), (sB_ BK1318.out), (sB_ BK1324.out), (sB_ BK1330.out), (sB_ BK1367.out), GW1367.out, GE1367.out, NB1293_1367.out, NB1367_1293.out, NB1294_1367.out, NB1367_1294.out, NB1312_1367.out, NB1367_1312.out, NB1318_1367.out, NB1367_1318.out, NB1324_1367.out, NB1367_1324.out, NB1330_1367.out, NB1367_1330.out, (sW_ HB.out)⟩)
               ·skip
                refine box_step ?hg (N := 17) ?hd (cs := #[.int .i64 0, .int .i64 0, .slice none 0 0]) (t := 41) ?hr ?_; (case hd => rfl); (case hg => rfl); (case hr => first | (go_simp; done) | (go_simp; rfl))
                intro gb1367 hg w137 hbox hb
                have n0_ := Aside0.mk (Kd.R_below (sR_ HO_1313002.out) hb)
                have n1_ := Aside0.mk (Kd.R_below (sR_ HO_1319002.out) hb)
                have n2_ := Aside0.mk (Kd.R_below (sR_ HO_1325002.out) hb)
                have n3_ := Aside0.mk (Kd.R_below (sR_ HO_1331002.out) hb)
                have n4_ := Aside0.mk (blk_below (sB_ BK1293.out) hb)
                have n5_ := Aside0.mk (blk_below (sB_ BK1294.out) hb)
                have n6_ := Aside0.mk (blk_below (sB_ BK1312.out) hb)
                have n7_ := Aside0.mk (blk_below (sB_ BK1318.out) hb)
                have n8_ := Aside0.mk (blk_below (sB_ BK1324.out) hb)
                have n9_ := Aside0.mk (blk_below (sB_ BK1330.out) hb)
                have n10_ := Aside0.mk (below_step (sW_ HB.out) hb)
                have n11_ := Aside0.mk (hbox)
                have n12_ := Aside0.mk ((by rw [hg]; exact (below_size (sW_ HB.out)) : w.heap.size ≤ gb1367))
                have n13_ := Aside0.mk ((by rw [hg]; exact (below_size (sW_ HB.out)) : w.heap.size ≤ gb1367))
                have n14_ := Aside0.mk ((by rw [hg]; exact Nat.ne_of_lt (blk_lt (sB_ BK1293.out)) : gb1293 ≠ gb1367))
                have n15_ := Aside0.mk ((by rw [hg]; exact Nat.ne_of_gt (blk_lt (sB_ BK1293.out)) : gb1367 ≠ gb1293))
                have n16_ := Aside0.mk ((by rw [hg]; exact Nat.ne_of_lt (blk_lt (sB_ BK1294.out)) : gb1294 ≠ gb1367))
                have n17_ := Aside0.mk ((by rw [hg]; exact Nat.ne_of_gt (blk_lt (sB_ BK1294.out)) : gb1367 ≠ gb1294))
                have n18_ := Aside0.mk ((by rw [hg]; exact Nat.ne_of_lt (blk_lt (sB_ BK1312.out)) : gb1312 ≠ gb1367))
                have n19_ := Aside0.mk ((by rw [hg]; exact Nat.ne_of_gt (blk_lt (sB_ BK1312.out)) : gb1367 ≠ gb1312))
                have n20_ := Aside0.mk ((by rw [hg]; exact Nat.ne_of_lt (blk_lt (sB_ BK1318.out)) : gb1318 ≠ gb1367))
                have n21_ := Aside0.mk ((by rw [hg]; exact Nat.ne_of_gt (blk_lt (sB_ BK1318.out)) : gb1367 ≠ gb1318))
                have n22_ := Aside0.mk ((by rw [hg]; exact Nat.ne_of_lt (blk_lt (sB_ BK1324.out)) : gb1324 ≠ gb1367))
                have n23_ := Aside0.mk ((by rw [hg]; exact Nat.ne_of_gt (blk_lt (sB_ BK1324.out)) : gb1367 ≠ gb1324))
                have n24_ := Aside0.mk ((by rw [hg]; exact Nat.ne_of_lt (blk_lt (sB_ BK1330.out)) : gb1330 ≠ gb1367))
                have n25_ := Aside0.mk ((by rw [hg]; exact Nat.ne_of_gt (blk_lt (sB_ BK1330.out)) : gb1367 ≠ gb1330))
                clear HO_1313002 HO_1319002 HO_1325002 HO_1331002 BK1293 BK1294 BK1312 BK1318 BK1324 BK1330 HB; have HO_1313002 := n0_; have HO_1319002 := n1_; have HO_1325002 := n2_; have HO_1331002 := n3_; have BK1293 := n4_; have BK1294 := n5_; have BK1312 := n6_; have BK1318 := n7_; have BK1324 := n8_; have BK1330 := n9_; have HB := n10_; have BK1367 := n11_; have GW1367 := n12_; have GE1367 := n13_; have NB1293_1367 := n14_; have NB1367_1293 := n15_; have NB1294_1367 := n16_; have NB1367_1294 := n17_; have NB1312_1367 := n18_; have NB1367_1312 := n19_; have NB1318_1367 := n20_; have NB1367_1318 := n21_; have NB1324_1367 := n22_; have NB1367_1324 := n23_; have NB1330_1367 := n24_; have NB1367_1330 := n25_; clear n0_ n1_ n2_ n3_ n4_ n5_ n6_ n7_ n8_ n9_ n10_ n11_ n12_ n13_ n14_ n15_ n16_ n17_ n18_ n19_ n20_ n21_ n22_ n23_ n24_ n25_ hb hbox hg
                refine hK.out _ _ ⟨(blk_cell BK1293.out 0).trans rfl, (blk_cell BK1293.out 1).trans rfl, (blk_cell BK1293.out 2).trans rfl, (blk_cell BK1294.out 0).trans rfl, (blk_cell BK1294.out 1).trans rfl, (blk_cell BK1294.out 2).trans rfl⟩ (fun hHeld => ?_)
                clear hK K
                refine norm_ (a' := ?_) ?_ ?_
                rotate_left
                ·show Act.put _ (some 17) _ = _
                 simp only [Act.put, List.setIfInBounds_toArray, List.set_cons_zero, List.set_cons_succ, i64_w, i32_w]
                 rfl
                refine one_ (i := 1) (N := some 84) #[true, true, true, false, true, true, false, true, false] rfl rfl (one_of HT_.out (by kernel_rfl)) (by decide) (fun K hK => ?_)
                refine goes_ Try.func58 (by kernel_rfl) rfl #[.agg #[.int .i64 a0_0, .int .i64 a0_1, .slice A0_2 l0_2.length c0_2]] (by rfl) rfl rfl sL_ ?_
                with_reducible refine (laws_toMatrix.calls kj36 a0_0 a0_1 _ _ l0_2 t1352 t1353 t1354 _ ?side1 ?side2 A119.out).mono ?_
                (case side1 => repeat (first | exact (Kd.C_below HR0_2.out HB.out) | (with_reducible refine Kd.C_alloc ?_ _) | (with_reducible refine Kd.C_drewN ?_ _) | (with_reducible refine Kd.C_drew ?_)))
                (case side2 => exact HC0_2.out)
                rintro e w138 ⟨v1355, rfl, ho0, hb⟩
                refine ⟨_, rfl, ?_⟩
                have n0_ := Aside0.mk (Kd.R_elder' (sR_ HO_1313002.out) (Kd.R_base ho0) hb)
                have n1_ := Aside0.mk (Kd.R_elder' (sR_ HO_1319002.out) (Kd.R_base ho0) hb)
                have n2_ := Aside0.mk (Kd.R_elder' (sR_ HO_1325002.out) (Kd.R_base ho0) hb)
                have n3_ := Aside0.mk (Kd.R_elder' (sR_ HO_1331002.out) (Kd.R_base ho0) hb)
                have n4_ := Aside0.mk (Kd.R_lower (Kd.R_new' (Kd.R_new' (Kd.R_new' (Kd.R_new' ho0 (Kd.R_lt (sR_ HO_1313002.out))) (Kd.R_lt (sR_ HO_1319002.out))) (Kd.R_lt (sR_ HO_1325002.out))) (Kd.R_lt (sR_ HO_1331002.out))) (below_size (sW_ HB.out)))
                have n5_ := Aside0.mk (blk_below (sB_ BK1293.out) hb)
                have n6_ := Aside0.mk (blk_below (sB_ BK1294.out) hb)
                have n7_ := Aside0.mk (blk_below (sB_ BK1312.out) hb)
                have n8_ := Aside0.mk (blk_below (sB_ BK1318.out) hb)
                have n9_ := Aside0.mk (blk_below (sB_ BK1324.out) hb)
                have n10_ := Aside0.mk (blk_below (sB_ BK1330.out) hb)
                have n11_ := Aside0.mk (blk_below (sB_ BK1367.out) hb)
                have n12_ := Aside0.mk (below_step (sW_ HB.out) hb)
                clear HO_1313002 HO_1319002 HO_1325002 HO_1331002 BK1293 BK1294 BK1312 BK1318 BK1324 BK1330 BK1367 HB; have HO_1313002 := n0_; have HO_1319002 := n1_; have HO_1325002 := n2_; have HO_1331002 := n3_; have HO1356 := n4_; have BK1293 := n5_; have BK1294 := n6_; have BK1312 := n7_; have BK1318 := n8_; have BK1324 := n9_; have BK1330 := n10_; have BK1367 := n11_; have HB := n12_; clear n0_ n1_ n2_ n3_ n4_ n5_ n6_ n7_ n8_ n9_ n10_ n11_ n12_
                (try clear hb)
                (try clear hb2)
                (try clear hk)
                (try clear hi)
                (try clear ho0)
                refine hK.out _ _ ⟨(blk_cell BK1293.out 0).trans rfl, (blk_cell BK1293.out 1).trans rfl, (blk_cell BK1293.out 2).trans rfl, (blk_cell BK1294.out 0).trans rfl, (blk_cell BK1294.out 1).trans rfl, (blk_cell BK1294.out 2).trans rfl⟩ (fun hHeld => ?_)
                clear hK K
                refine norm_ (a' := ?_) ?_ ?_
                rotate_left
                ·show Act.put _ (some 84) _ = _
                 simp only [Act.put, List.setIfInBounds_toArray, List.set_cons_zero, List.set_cons_succ, i64_w, i32_w]
                 rfl
                refine one_ (i := 3) (N := some 86) #[true, true, true, true, true, true, false, true, false] rfl rfl (one_of HT_.out (by kernel_rfl)) (by decide) (fun K hK => ?_)
                refine goes_ Try.func48 (by kernel_rfl) rfl #[.agg #[.int .i64 a1_0, .int .i64 a1_1, .slice A1_2 l1_2.length c1_2]] (by rfl) rfl rfl sL_ ?_
                with_reducible refine (laws_toPicture.calls kj36 a1_0 a1_1 _ _ l1_2 t1357 t1358 t1359 _ ?side1 ?side2 A120.out).mono ?_
                (case side1 => repeat (first | exact (Kd.C_below HR1_2.out HB.out) | (with_reducible refine Kd.C_alloc ?_ _) | (with_reducible refine Kd.C_drewN ?_ _) | (with_reducible refine Kd.C_drew ?_)))
                (case side2 => exact HC1_2.out)
                rintro e w139 ⟨v1360, rfl, ho0, hb⟩
                refine ⟨_, rfl, ?_⟩
                have n0_ := Aside0.mk (Kd.R_elder' (sR_ HO_1313002.out) (Kd.R_base ho0) hb)
                have n1_ := Aside0.mk (Kd.R_elder' (sR_ HO_1319002.out) (Kd.R_base ho0) hb)
                have n2_ := Aside0.mk (Kd.R_elder' (sR_ HO_1325002.out) (Kd.R_base ho0) hb)
                have n3_ := Aside0.mk (Kd.R_elder' (sR_ HO_1331002.out) (Kd.R_base ho0) hb)
                have n4_ := Aside0.mk (Kd.R_elder' (sR_ HO1356.out) (Kd.R_base ho0) hb)
                have n5_ := Aside0.mk (Kd.R_lower (Kd.R_new' (Kd.R_new' (Kd.R_new' (Kd.R_new' (Kd.R_new' ho0 (Kd.R_lt (sR_ HO_1313002.out))) (Kd.R_lt (sR_ HO_1319002.out))) (Kd.R_lt (sR_ HO_1325002.out))) (Kd.R_lt (sR_ HO_1331002.out))) (Kd.R_lt (sR_ HO1356.out))) (below_size (sW_ HB.out)))
                have n6_ := Aside0.mk (blk_below (sB_ BK1293.out) hb)
                have n7_ := Aside0.mk (blk_below (sB_ BK1294.out) hb)
                have n8_ := Aside0.mk (blk_below (sB_ BK1312.out) hb)
                have n9_ := Aside0.mk (blk_below (sB_ BK1318.out) hb)
                have n10_ := Aside0.mk (blk_below (sB_ BK1324.out) hb)
                have n11_ := Aside0.mk (blk_below (sB_ BK1330.out) hb)
                have n12_ := Aside0.mk (blk_below (sB_ BK1367.out) hb)
                have n13_ := Aside0.mk (below_step (sW_ HB.out) hb)
                clear HO_1313002 HO_1319002 HO_1325002 HO_1331002 HO1356 BK1293 BK1294 BK1312 BK1318 BK1324 BK1330 BK1367 HB; have HO_1313002 := n0_; have HO_1319002 := n1_; have HO_1325002 := n2_; have HO_1331002 := n3_; have HO1356 := n4_; have HO1361 := n5_; have BK1293 := n6_; have BK1294 := n7_; have BK1312 := n8_; have BK1318 := n9_; have BK1324 := n10_; have BK1330 := n11_; have BK1367 := n12_; have HB := n13_; clear n0_ n1_ n2_ n3_ n4_ n5_ n6_ n7_ n8_ n9_ n10_ n11_ n12_ n13_
                (try clear hb)
                (try clear hb2)
                (try clear hk)
                (try clear hi)
                (try clear ho0)
                obtain ⟨Ao140, co140, eo140⟩ := Kd.R_slice HO1356.out
                (first | subst eo140 | (injection eo140 with f1_ f2_ f3_; have f4_ := f1_.symm; have f5_ := f3_.symm; clear f1_ f2_ f3_; subst f4_; subst f5_))
                obtain ⟨Ao141, co141, eo141⟩ := Kd.R_slice HO1361.out
                (first | subst eo141 | (injection eo141 with f1_ f2_ f3_; have f4_ := f1_.symm; have f5_ := f3_.symm; clear f1_ f2_ f3_; subst f4_; subst f5_))
                refine hK.out _ _ ⟨(blk_cell BK1293.out 0).trans rfl, (blk_cell BK1293.out 1).trans rfl, (blk_cell BK1293.out 2).trans rfl, (blk_cell BK1294.out 0).trans rfl, (blk_cell BK1294.out 1).trans rfl, (blk_cell BK1294.out 2).trans rfl⟩ (fun hHeld => ?_)
                clear hK K
                refine norm_ (a' := ?_) ?_ ?_
                rotate_left
                ·show Act.put _ (some 86) _ = _
                 simp only [Act.put, List.setIfInBounds_toArray, List.set_cons_zero, List.set_cons_succ, i64_w, i32_w]
                 rfl
                refine one_ (i := 6) (N := some 89) #[true, true, true, true, true, true, true, true, false] rfl rfl (one_of HT_.out (by kernel_rfl)) (by decide) (fun K hK => ?_)
                refine goes_ Try.func78 (by kernel_rfl) rfl #[.agg #[.int .i64 t1352, .int .i64 t1353, .slice Ao140 t1354.length co140], .agg #[.int .i64 t1357, .int .i64 t1358, .slice Ao141 t1359.length co141], .int .i64 a2, .int .i64 a3] (by rfl) rfl rfl sL_ ?_
                with_reducible refine (impl_ScreenShifted.calls t1352 t1353 _ _ t1354 t1357 t1358 _ _ t1359 a2 a3 t1362 t1363 t1364 _ ?side1 ?side2 ?side3 ?side4 A121.out).mono ?_
                (case side1 => repeat (first | exact (Kd.R_reads' HO1356.out).2.2 | (with_reducible refine Kd.C_alloc ?_ _) | (with_reducible refine Kd.C_drewN ?_ _) | (with_reducible refine Kd.C_drew ?_)))
                (case side2 => exact (Kd.R_reads' HO1356.out).2.1)
                (case side3 => repeat (first | exact (Kd.R_reads' HO1361.out).2.2 | (with_reducible refine Kd.C_alloc ?_ _) | (with_reducible refine Kd.C_drewN ?_ _) | (with_reducible refine Kd.C_drew ?_)))
                (case side4 => exact (Kd.R_reads' HO1361.out).2.1)
                rintro e w142 ⟨v1365, rfl, ho0, hb⟩
                refine ⟨_, rfl, ?_⟩
                have n0_ := Aside0.mk (Kd.R_elder' (sR_ HO_1313002.out) (Kd.R_base ho0) hb)
                have n1_ := Aside0.mk (Kd.R_elder' (sR_ HO_1319002.out) (Kd.R_base ho0) hb)
                have n2_ := Aside0.mk (Kd.R_elder' (sR_ HO_1325002.out) (Kd.R_base ho0) hb)
                have n3_ := Aside0.mk (Kd.R_elder' (sR_ HO_1331002.out) (Kd.R_base ho0) hb)
                have n4_ := Aside0.mk (Kd.R_elder' (sR_ HO1356.out) (Kd.R_base ho0) hb)
                have n5_ := Aside0.mk (Kd.R_elder' (sR_ HO1361.out) (Kd.R_base ho0) hb)
                have n6_ := Aside0.mk (Kd.R_lower (Kd.R_new' (Kd.R_new' (Kd.R_new' (Kd.R_new' (Kd.R_new' (Kd.R_new' ho0 (Kd.R_lt (sR_ HO_1313002.out))) (Kd.R_lt (sR_ HO_1319002.out))) (Kd.R_lt (sR_ HO_1325002.out))) (Kd.R_lt (sR_ HO_1331002.out))) (Kd.R_lt (sR_ HO1356.out))) (Kd.R_lt (sR_ HO1361.out))) (below_size (sW_ HB.out)))
                have n7_ := Aside0.mk (blk_below (sB_ BK1293.out) hb)
                have n8_ := Aside0.mk (blk_below (sB_ BK1294.out) hb)
                have n9_ := Aside0.mk (blk_below (sB_ BK1312.out) hb)
                have n10_ := Aside0.mk (blk_below (sB_ BK1318.out) hb)
                have n11_ := Aside0.mk (blk_below (sB_ BK1324.out) hb)
                have n12_ := Aside0.mk (blk_below (sB_ BK1330.out) hb)
                have n13_ := Aside0.mk (blk_below (sB_ BK1367.out) hb)
                have n14_ := Aside0.mk (below_step (sW_ HB.out) hb)
                clear HO_1313002 HO_1319002 HO_1325002 HO_1331002 HO1356 HO1361 BK1293 BK1294 BK1312 BK1318 BK1324 BK1330 BK1367 HB; have HO_1313002 := n0_; have HO_1319002 := n1_; have HO_1325002 := n2_; have HO_1331002 := n3_; have HO1356 := n4_; have HO1361 := n5_; have HO1366 := n6_; have BK1293 := n7_; have BK1294 := n8_; have BK1312 := n9_; have BK1318 := n10_; have BK1324 := n11_; have BK1330 := n12_; have BK1367 := n13_; have HB := n14_; clear n0_ n1_ n2_ n3_ n4_ n5_ n6_ n7_ n8_ n9_ n10_ n11_ n12_ n13_ n14_
                (try clear hb)
                (try clear hb2)
                (try clear hk)
                (try clear hi)
                (try clear ho0)
                refine hK.out _ _ ⟨(blk_cell BK1293.out 0).trans rfl, (blk_cell BK1293.out 1).trans rfl, (blk_cell BK1293.out 2).trans rfl, (blk_cell BK1294.out 0).trans rfl, (blk_cell BK1294.out 1).trans rfl, (blk_cell BK1294.out 2).trans rfl⟩ (fun hHeld => ?_)
                clear hK K
                refine norm_ (a' := ?_) ?_ ?_
                rotate_left
                ·show Act.put _ (some 89) _ = _
                 simp only [Act.put, List.setIfInBounds_toArray, List.set_cons_zero, List.set_cons_succ, i64_w, i32_w]
                 rfl
                exact norm_ sP_ (hCont (.slice Ao140 t1354.length co140, .slice Ao141 t1359.length co141, v1365, gb1367) _ ⟨hHeld, (by (with_reducible repeat (first | apply Kd.R_alloc | apply Kd.R_drewN | apply Kd.R_drew)); exact Kd.R_mono HO1356.out (fun _ hk => ⟨hk.1.2, ⟨hk.2, ⟨hk.1.1.1.1.1.2, ⟨hk.1.1.1.1.2, ⟨hk.1.1.1.2, hk.1.1.2⟩⟩⟩⟩⟩)), (by (with_reducible repeat (first | apply Kd.R_alloc | apply Kd.R_drewN | apply Kd.R_drew)); exact Kd.R_mono HO1361.out (fun _ hk => ⟨hk.1.2, ⟨hk.2, ⟨hk.1.1.1.1.1.2, ⟨hk.1.1.1.1.2, ⟨hk.1.1.1.2, hk.1.1.2⟩⟩⟩⟩⟩)), (by (with_reducible repeat (first | apply Kd.R_alloc | apply Kd.R_drewN | apply Kd.R_drew)); exact Kd.R_mono HO1366.out (fun _ hk => ⟨hk.1.2, ⟨hk.2, ⟨hk.1.1.1.1.1.2, ⟨hk.1.1.1.1.2, ⟨hk.1.1.1.2, hk.1.1.2⟩⟩⟩⟩⟩)), (by (with_reducible repeat (first | apply Kd.R_alloc | apply Kd.R_drewN | apply Kd.R_drew)); exact Kd.R_mono HO_1313002.out (fun _ hk => ⟨hk.1.1.2, ⟨hk.1.2, ⟨hk.2, ⟨hk.1.1.1.1, ⟨hk.1.1.1.2.1, hk.1.1.1.2.2⟩⟩⟩⟩⟩)), (by (with_reducible repeat (first | apply Kd.R_alloc | apply Kd.R_drewN | apply Kd.R_drew)); exact Kd.R_mono HO_1319002.out (fun _ hk => ⟨hk.1.1.2, ⟨hk.1.2, ⟨hk.2, ⟨hk.1.1.1.1, ⟨hk.1.1.1.2.1, hk.1.1.1.2.2⟩⟩⟩⟩⟩)), (by (with_reducible repeat (first | apply Kd.R_alloc | apply Kd.R_drewN | apply Kd.R_drew)); exact Kd.R_mono HO_1325002.out (fun _ hk => ⟨hk.1.1.2, ⟨hk.1.2, ⟨hk.2, ⟨hk.1.1.1.1, ⟨hk.1.1.1.2.1, hk.1.1.1.2.2⟩⟩⟩⟩⟩)), (by (with_reducible repeat (first | apply Kd.R_alloc | apply Kd.R_drewN | apply Kd.R_drew)); exact Kd.R_mono HO_1331002.out (fun _ hk => ⟨hk.1.1.2, ⟨hk.1.2, ⟨hk.2, ⟨hk.1.1.1.1, ⟨hk.1.1.1.2.1, hk.1.1.1.2.2⟩⟩⟩⟩⟩)), (sB_ BK1293.out), (sB_ BK1294.out), (sB_ BK1312.out), (sB_ BK1318.out), (sB_ BK1324.out), (sB_ BK1330.out), (sB_ BK1367.out), GW1367.out, GE1367.out, NB1293_1367.out, NB1367_1293.out, NB1294_1367.out, NB1367_1294.out, NB1312_1367.out, NB1367_1312.out, NB1318_1367.out, NB1367_1318.out, NB1324_1367.out, NB1367_1324.out, NB1330_1367.out, NB1367_1330.out, (sW_ HB.out)⟩)
              rintro ⟨v1355, v1360, v1365, gb1367⟩ w143 ⟨hS_, h0_, h1_, h2_, h3_, h4_, h5_, h6_, h7_, h8_, h9_, h10_, h11_, h12_, h13_, h14_, h15_, h16_, h17_, h18_, h19_, h20_, h21_, h22_, h23_, h24_, h25_, h26_, h27_, h28_⟩
              have n0_ : Aside0 (Kd.R (Kd.int .i64) 3 w143 w.heap.size (fun k_ => some k_ ≠ (v1360 : Value).ownBlock ∧ some k_ ≠ (v1365 : Value).ownBlock ∧ some k_ ≠ (.slice Ao55 t1309.length co55 : Value).ownBlock ∧ some k_ ≠ (.slice Ao65 t1345.length co65 : Value).ownBlock ∧ some k_ ≠ (.slice Ao75 t1347.length co75 : Value).ownBlock ∧ some k_ ≠ (.slice Ao85 t1327.length co85 : Value).ownBlock) v1355 t1354) := ⟨h0_⟩
              have n1_ : Aside0 (Kd.R (Kd.int .i64) 3 w143 w.heap.size (fun k_ => some k_ ≠ (v1355 : Value).ownBlock ∧ some k_ ≠ (v1365 : Value).ownBlock ∧ some k_ ≠ (.slice Ao55 t1309.length co55 : Value).ownBlock ∧ some k_ ≠ (.slice Ao65 t1345.length co65 : Value).ownBlock ∧ some k_ ≠ (.slice Ao75 t1347.length co75 : Value).ownBlock ∧ some k_ ≠ (.slice Ao85 t1327.length co85 : Value).ownBlock) v1360 t1359) := ⟨h1_⟩
              have n2_ : Aside0 (Kd.R (Kd.int .i64) 3 w143 w.heap.size (fun k_ => some k_ ≠ (v1355 : Value).ownBlock ∧ some k_ ≠ (v1360 : Value).ownBlock ∧ some k_ ≠ (.slice Ao55 t1309.length co55 : Value).ownBlock ∧ some k_ ≠ (.slice Ao65 t1345.length co65 : Value).ownBlock ∧ some k_ ≠ (.slice Ao75 t1347.length co75 : Value).ownBlock ∧ some k_ ≠ (.slice Ao85 t1327.length co85 : Value).ownBlock) v1365 t1364) := ⟨h2_⟩
              have n3_ : Aside0 (Kd.R (Kd.int .i64) 3 w143 w.heap.size (fun k_ => some k_ ≠ (v1355 : Value).ownBlock ∧ some k_ ≠ (v1360 : Value).ownBlock ∧ some k_ ≠ (v1365 : Value).ownBlock ∧ some k_ ≠ (.slice Ao65 t1345.length co65 : Value).ownBlock ∧ some k_ ≠ (.slice Ao75 t1347.length co75 : Value).ownBlock ∧ some k_ ≠ (.slice Ao85 t1327.length co85 : Value).ownBlock) (.slice Ao55 t1309.length co55) t1309) := ⟨h3_⟩
              have n4_ : Aside0 (Kd.R (Kd.int .i64) 3 w143 w.heap.size (fun k_ => some k_ ≠ (v1355 : Value).ownBlock ∧ some k_ ≠ (v1360 : Value).ownBlock ∧ some k_ ≠ (v1365 : Value).ownBlock ∧ some k_ ≠ (.slice Ao55 t1309.length co55 : Value).ownBlock ∧ some k_ ≠ (.slice Ao75 t1347.length co75 : Value).ownBlock ∧ some k_ ≠ (.slice Ao85 t1327.length co85 : Value).ownBlock) (.slice Ao65 t1345.length co65) t1345) := ⟨h4_⟩
              have n5_ : Aside0 (Kd.R (Kd.int .i64) 3 w143 w.heap.size (fun k_ => some k_ ≠ (v1355 : Value).ownBlock ∧ some k_ ≠ (v1360 : Value).ownBlock ∧ some k_ ≠ (v1365 : Value).ownBlock ∧ some k_ ≠ (.slice Ao55 t1309.length co55 : Value).ownBlock ∧ some k_ ≠ (.slice Ao65 t1345.length co65 : Value).ownBlock ∧ some k_ ≠ (.slice Ao85 t1327.length co85 : Value).ownBlock) (.slice Ao75 t1347.length co75) t1347) := ⟨h5_⟩
              have n6_ : Aside0 (Kd.R (Kd.int .i64) 3 w143 w.heap.size (fun k_ => some k_ ≠ (v1355 : Value).ownBlock ∧ some k_ ≠ (v1360 : Value).ownBlock ∧ some k_ ≠ (v1365 : Value).ownBlock ∧ some k_ ≠ (.slice Ao55 t1309.length co55 : Value).ownBlock ∧ some k_ ≠ (.slice Ao65 t1345.length co65 : Value).ownBlock ∧ some k_ ≠ (.slice Ao75 t1347.length co75 : Value).ownBlock) (.slice Ao85 t1327.length co85) t1350) := ⟨h6_⟩
              have n7_ : Aside0 (w143.heap[gb1293]? = some (.cells #[.int .i64 a0_0, .int .i64 a0_1, .slice A0_2 l0_2.length c0_2] 55 (0, 0))) := ⟨h7_⟩
              have n8_ : Aside0 (w143.heap[gb1294]? = some (.cells #[.int .i64 a1_0, .int .i64 a1_1, .slice A1_2 l1_2.length c1_2] 48 (0, 0))) := ⟨h8_⟩
              have n9_ : Aside0 (w143.heap[gb1312]? = some (.cells #[.int .i64 t1307, .int .i64 t1308, .slice Ao55 t1309.length co55] 41 (0, 0))) := ⟨h9_⟩
              have n10_ : Aside0 (w143.heap[gb1318]? = some (.cells #[.int .i64 t1313, .int .i64 t1314, .slice Ao65 t1345.length co65] 26 (0, 0))) := ⟨h10_⟩
              have n11_ : Aside0 (w143.heap[gb1324]? = some (.cells #[.int .i64 t1319, .int .i64 t1320, .slice Ao75 t1347.length co75] 41 (0, 0))) := ⟨h11_⟩
              have n12_ : Aside0 (w143.heap[gb1330]? = some (.cells #[.int .i64 t1325, .int .i64 t1326, .slice Ao85 t1327.length co85] 41 (0, 0))) := ⟨h12_⟩
              have n13_ : Aside0 (w143.heap[gb1367]? = some (.cells #[.int .i64 0, .int .i64 0, .slice none 0 0] 41 (0, 0))) := ⟨h13_⟩
              have n14_ : Aside0 (w.heap.size ≤ gb1367) := ⟨h14_⟩
              have n15_ : Aside0 (w.heap.size ≤ gb1367) := ⟨h15_⟩
              have n16_ : Aside0 (gb1293 ≠ gb1367) := ⟨h16_⟩
              have n17_ : Aside0 (gb1367 ≠ gb1293) := ⟨h17_⟩
              have n18_ : Aside0 (gb1294 ≠ gb1367) := ⟨h18_⟩
              have n19_ : Aside0 (gb1367 ≠ gb1294) := ⟨h19_⟩
              have n20_ : Aside0 (gb1312 ≠ gb1367) := ⟨h20_⟩
              have n21_ : Aside0 (gb1367 ≠ gb1312) := ⟨h21_⟩
              have n22_ : Aside0 (gb1318 ≠ gb1367) := ⟨h22_⟩
              have n23_ : Aside0 (gb1367 ≠ gb1318) := ⟨h23_⟩
              have n24_ : Aside0 (gb1324 ≠ gb1367) := ⟨h24_⟩
              have n25_ : Aside0 (gb1367 ≠ gb1324) := ⟨h25_⟩
              have n26_ : Aside0 (gb1330 ≠ gb1367) := ⟨h26_⟩
              have n27_ : Aside0 (gb1367 ≠ gb1330) := ⟨h27_⟩
              have n28_ : Aside0 (Below w.heap.size w w143) := ⟨h28_⟩
              clear HO_1313002 HO_1319002 HO_1325002 HO_1331002 BK1293 BK1294 BK1312 BK1318 BK1324 BK1330 HB h0_ h1_ h2_ h3_ h4_ h5_ h6_ h7_ h8_ h9_ h10_ h11_ h12_ h13_ h14_ h15_ h16_ h17_ h18_ h19_ h20_ h21_ h22_ h23_ h24_ h25_ h26_ h27_ h28_; have HO1356 := n0_; have HO1361 := n1_; have HO1366 := n2_; have HO_1313002 := n3_; have HO_1319002 := n4_; have HO_1325002 := n5_; have HO_1331002 := n6_; have BK1293 := n7_; have BK1294 := n8_; have BK1312 := n9_; have BK1318 := n10_; have BK1324 := n11_; have BK1330 := n12_; have BK1367 := n13_; have GW1367 := n14_; have GE1367 := n15_; have NB1293_1367 := n16_; have NB1367_1293 := n17_; have NB1294_1367 := n18_; have NB1367_1294 := n19_; have NB1312_1367 := n20_; have NB1367_1312 := n21_; have NB1318_1367 := n22_; have NB1367_1318 := n23_; have NB1324_1367 := n24_; have NB1367_1324 := n25_; have NB1330_1367 := n26_; have NB1367_1330 := n27_; have HB := n28_; clear n0_ n1_ n2_ n3_ n4_ n5_ n6_ n7_ n8_ n9_ n10_ n11_ n12_ n13_ n14_ n15_ n16_ n17_ n18_ n19_ n20_ n21_ n22_ n23_ n24_ n25_ n26_ n27_ n28_
              have hHeld : w143.cell? ⟨gb1293, 0, none⟩ = some (.int .i64 a0_0) ∧ w143.cell? ⟨gb1293, 1, none⟩ = some (.int .i64 a0_1) ∧ w143.cell? ⟨gb1293, 2, none⟩ = some (.slice A0_2 l0_2.length c0_2) ∧ w143.cell? ⟨gb1294, 0, none⟩ = some (.int .i64 a1_0) ∧ w143.cell? ⟨gb1294, 1, none⟩ = some (.int .i64 a1_1) ∧ w143.cell? ⟨gb1294, 2, none⟩ = some (.slice A1_2 l1_2.length c1_2) := hS_
              obtain ⟨Ao146, co146, eo146⟩ := Kd.R_slice HO1366.out
              (first | subst eo146 | (injection eo146 with f1_ f2_ f3_; have f4_ := f1_.symm; have f5_ := f3_.symm; clear f1_ f2_ f3_; subst f4_; subst f5_))
              refine norm_ (a' := ?_) ?_ ?_
              rotate_left
              ·simp only [putAll, Act.put, List.setIfInBounds_toArray, List.set_cons_zero, List.set_cons_succ]
               rfl
              refine one_ (i := 8) (N := none) #[true, true, true, true, true, true, true, true, true] rfl rfl (one_of HT_.out (by kernel_rfl)) (by decide) (fun K hK => ?_)
              have hs144 : w143.cell? ⟨gb1367, 0, none⟩ = some (.int .i64 0) := (blk_cell BK1367.out 0).trans rfl
              have hfs144 := blk_frozen BK1367.out 0
              have hns144_0 := NB1293_1367.out; have hns144_1 := NB1294_1367.out; have hns144_2 := NB1312_1367.out; have hns144_3 := NB1318_1367.out; have hns144_4 := NB1324_1367.out; have hns144_5 := NB1330_1367.out; have hms144_0 := NB1367_1293.out; have hms144_1 := NB1367_1294.out; have hms144_2 := NB1367_1312.out; have hms144_3 := NB1367_1318.out; have hms144_4 := NB1367_1324.out; have hms144_5 := NB1367_1330.out
              have hs145 : w143.cell? ⟨gb1367, 1, none⟩ = some (.int .i64 0) := (blk_cell BK1367.out 1).trans rfl
              have hfs145 := blk_frozen BK1367.out 1
              have hns145_0 := NB1293_1367.out; have hns145_1 := NB1294_1367.out; have hns145_2 := NB1312_1367.out; have hns145_3 := NB1318_1367.out; have hns145_4 := NB1324_1367.out; have hns145_5 := NB1330_1367.out; have hms145_0 := NB1367_1293.out; have hms145_1 := NB1367_1294.out; have hms145_2 := NB1367_1312.out; have hms145_3 := NB1367_1318.out; have hms145_4 := NB1367_1324.out; have hms145_5 := NB1367_1330.out
              have hs147 : w143.cell? ⟨gb1367, 2, none⟩ = some (.slice none 0 0) := (blk_cell BK1367.out 2).trans rfl
              have hfs147 := blk_frozen BK1367.out 2
              have hns147_0 := NB1293_1367.out; have hns147_1 := NB1294_1367.out; have hns147_2 := NB1312_1367.out; have hns147_3 := NB1318_1367.out; have hns147_4 := NB1324_1367.out; have hns147_5 := NB1330_1367.out; have hms147_0 := NB1367_1293.out; have hms147_1 := NB1367_1294.out; have hms147_2 := NB1367_1312.out; have hms147_3 := NB1367_1318.out; have hms147_4 := NB1367_1324.out; have hms147_5 := NB1367_1330.out
              refine skip_ (w1 := ?_) (by rfl) rfl ?_ ?_
              rotate_left
              ·go_simp
               rfl
              refine hK.out _ _ ⟨((cell_far (p := ⟨gb1367, _, none⟩) NB1293_1367.out _).trans (((cell_far (p := ⟨gb1367, _, none⟩) NB1293_1367.out _).trans (((cell_far (p := ⟨gb1367, _, none⟩) NB1293_1367.out _).trans (hHeld.1)))))), ((cell_far (p := ⟨gb1367, _, none⟩) NB1293_1367.out _).trans (((cell_far (p := ⟨gb1367, _, none⟩) NB1293_1367.out _).trans (((cell_far (p := ⟨gb1367, _, none⟩) NB1293_1367.out _).trans (hHeld.2.1)))))), ((cell_far (p := ⟨gb1367, _, none⟩) NB1293_1367.out _).trans (((cell_far (p := ⟨gb1367, _, none⟩) NB1293_1367.out _).trans (((cell_far (p := ⟨gb1367, _, none⟩) NB1293_1367.out _).trans (hHeld.2.2.1)))))), ((cell_far (p := ⟨gb1367, _, none⟩) NB1294_1367.out _).trans (((cell_far (p := ⟨gb1367, _, none⟩) NB1294_1367.out _).trans (((cell_far (p := ⟨gb1367, _, none⟩) NB1294_1367.out _).trans (hHeld.2.2.2.1)))))), ((cell_far (p := ⟨gb1367, _, none⟩) NB1294_1367.out _).trans (((cell_far (p := ⟨gb1367, _, none⟩) NB1294_1367.out _).trans (((cell_far (p := ⟨gb1367, _, none⟩) NB1294_1367.out _).trans (hHeld.2.2.2.2.1)))))), ((cell_far (p := ⟨gb1367, _, none⟩) NB1294_1367.out _).trans (((cell_far (p := ⟨gb1367, _, none⟩) NB1294_1367.out _).trans (((cell_far (p := ⟨gb1367, _, none⟩) NB1294_1367.out _).trans (hHeld.2.2.2.2.2))))))⟩ (fun hHeld => ?_)
              clear hK K
              refine done_ (done_of HT_.out (by kernel_rfl)) ?_
              have hnb148 := NB1367_1293.out; have hnc148 := NB1293_1367.out; have hnb149 := NB1367_1294.out; have hnc149 := NB1294_1367.out; have hnb150 := NB1367_1312.out; have hnc150 := NB1312_1367.out; have hnb151 := NB1367_1318.out; have hnc151 := NB1318_1367.out; have hnb152 := NB1367_1324.out; have hnc152 := NB1324_1367.out; have hnb153 := NB1367_1330.out; have hnc153 := NB1330_1367.out
              have hcz154_0 : w143.cell? ⟨gb1367, 0, none⟩ = some (.int .i64 0) := (blk_cell BK1367.out 0).trans rfl
              have hcz154_1 : w143.cell? ⟨gb1367, 1, none⟩ = some (.int .i64 0) := (blk_cell BK1367.out 1).trans rfl
              have hcz154_2 : w143.cell? ⟨gb1367, 2, none⟩ = some (.slice none 0 0) := (blk_cell BK1367.out 2).trans rfl
              have hfz154_0 := blk_frozen BK1367.out 0
              have hfz154_1 := blk_frozen BK1367.out 1
              have hfz154_2 := blk_frozen BK1367.out 2
              have hnb155 := NB1312_1293.out; have hnc155 := NB1293_1312.out; have hnb156 := NB1312_1294.out; have hnc156 := NB1294_1312.out; have hnb157 := NB1312_1318.out; have hnc157 := NB1318_1312.out; have hnb158 := NB1312_1324.out; have hnc158 := NB1324_1312.out
              have hcz159_0 : w143.cell? ⟨gb1312, 0, none⟩ = some (.int .i64 t1307) := (blk_cell BK1312.out 0).trans rfl
              have hcz159_1 : w143.cell? ⟨gb1312, 1, none⟩ = some (.int .i64 t1308) := (blk_cell BK1312.out 1).trans rfl
              have hcz159_2 : w143.cell? ⟨gb1312, 2, none⟩ = some (.slice Ao55 t1309.length co55) := (blk_cell BK1312.out 2).trans rfl
              have hfz159_0 := blk_frozen BK1312.out 0
              have hfz159_1 := blk_frozen BK1312.out 1
              have hfz159_2 := blk_frozen BK1312.out 2
              try go_wp2_with (first | ((with_reducible refine gate_callee (f := 49) rfl ?_); refine goesL_ (some 92) rfl rfl Try.func49 (by kernel_rfl) rfl #[.agg #[.int .i64 t1362, .int .i64 t1363, .slice Ao146 t1364.length co146], .agg #[.int .i64 t1307, .int .i64 t1308, .slice Ao55 t1309.length co55]] rfl sL_ ?_; (with_reducible refine (laws_eqPicture.calls kj36 t1362 t1363 _ _ t1364 t1307 t1308 _ _ t1309 true _ ?side1 ?side2 ?side3 ?side4 A122.out).mono ?_); (case side1 => refine (Kd.R_reads' (e := 3) (base := w.heap.size) (ok := fun k_ => (some k_ ≠ (v1355 : Value).ownBlock ∧ (some k_ ≠ (v1360 : Value).ownBlock ∧ (some k_ ≠ (.slice Ao55 t1309.length co55 : Value).ownBlock ∧ (some k_ ≠ (.slice Ao65 t1345.length co65 : Value).ownBlock ∧ (some k_ ≠ (.slice Ao75 t1347.length co75 : Value).ownBlock ∧ some k_ ≠ (.slice Ao85 t1327.length co85 : Value).ownBlock)))))) (n := t1364.length) (c := co146) ?_).2.2; exact (by (with_reducible repeat (first | apply Kd.R_alloc | apply Kd.R_drewN | apply Kd.R_drew)); exact (Kd.R_mono (Kd.R_far (p := ⟨gb1367, 2, none⟩) (Kd.R_far (p := ⟨gb1367, 1, none⟩) (Kd.R_far (p := ⟨gb1367, 0, none⟩) (Kd.R_types HO1366.out BK1367.out (by decide)) (fun _ hk => hk.2) (.int .i64 t1362)) (fun _ hk => hk.2) (.int .i64 t1363)) (fun _ hk => hk.2) (.slice Ao146 t1364.length co146)) (fun _ h_ => h_.1)))); (case side2 => exact (Kd.R_reads' HO1366.out).2.1); (case side3 => refine (Kd.R_reads' (e := 3) (base := w.heap.size) (ok := fun k_ => (some k_ ≠ (v1355 : Value).ownBlock ∧ (some k_ ≠ (v1360 : Value).ownBlock ∧ (some k_ ≠ (.slice Ao146 t1364.length co146 : Value).ownBlock ∧ (some k_ ≠ (.slice Ao65 t1345.length co65 : Value).ownBlock ∧ (some k_ ≠ (.slice Ao75 t1347.length co75 : Value).ownBlock ∧ some k_ ≠ (.slice Ao85 t1327.length co85 : Value).ownBlock)))))) (n := t1309.length) (c := co55) ?_).2.2; exact (by (with_reducible repeat (first | apply Kd.R_alloc | apply Kd.R_drewN | apply Kd.R_drew)); exact (Kd.R_mono (Kd.R_far (p := ⟨gb1367, 2, none⟩) (Kd.R_far (p := ⟨gb1367, 1, none⟩) (Kd.R_far (p := ⟨gb1367, 0, none⟩) (Kd.R_types HO_1313002.out BK1367.out (by decide)) (fun _ hk => hk.2) (.int .i64 t1362)) (fun _ hk => hk.2) (.int .i64 t1363)) (fun _ hk => hk.2) (.slice Ao146 t1364.length co146)) (fun _ h_ => h_.1)))); (case side4 => exact (Kd.R_reads' HO_1313002.out).2.1); rintro e w160 ⟨rfl, hb⟩; refine ⟨_, rfl, ?_⟩; have n0_ := Aside0.mk (Kd.R_below (by (with_reducible repeat (first | apply Kd.R_alloc | apply Kd.R_drewN | apply Kd.R_drew)); exact (Kd.R_mono (Kd.R_far (p := ⟨gb1367, 2, none⟩) (Kd.R_far (p := ⟨gb1367, 1, none⟩) (Kd.R_far (p := ⟨gb1367, 0, none⟩) (Kd.R_types HO_1313002.out BK1367.out (by decide)) (fun _ hk => hk.2) (.int .i64 t1362)) (fun _ hk => hk.2) (.int .i64 t1363)) (fun _ hk => hk.2) (.slice Ao146 t1364.length co146)) (fun _ h_ => h_.1))) hb); have n1_ := Aside0.mk (Kd.R_below (by (with_reducible repeat (first | apply Kd.R_alloc | apply Kd.R_drewN | apply Kd.R_drew)); exact (Kd.R_mono (Kd.R_far (p := ⟨gb1367, 2, none⟩) (Kd.R_far (p := ⟨gb1367, 1, none⟩) (Kd.R_far (p := ⟨gb1367, 0, none⟩) (Kd.R_types HO_1319002.out BK1367.out (by decide)) (fun _ hk => hk.2) (.int .i64 t1362)) (fun _ hk => hk.2) (.int .i64 t1363)) (fun _ hk => hk.2) (.slice Ao146 t1364.length co146)) (fun _ h_ => h_.1))) hb); have n2_ := Aside0.mk (Kd.R_below (by (with_reducible repeat (first | apply Kd.R_alloc | apply Kd.R_drewN | apply Kd.R_drew)); exact (Kd.R_mono (Kd.R_far (p := ⟨gb1367, 2, none⟩) (Kd.R_far (p := ⟨gb1367, 1, none⟩) (Kd.R_far (p := ⟨gb1367, 0, none⟩) (Kd.R_types HO_1325002.out BK1367.out (by decide)) (fun _ hk => hk.2) (.int .i64 t1362)) (fun _ hk => hk.2) (.int .i64 t1363)) (fun _ hk => hk.2) (.slice Ao146 t1364.length co146)) (fun _ h_ => h_.1))) hb); have n3_ := Aside0.mk (Kd.R_below (by (with_reducible repeat (first | apply Kd.R_alloc | apply Kd.R_drewN | apply Kd.R_drew)); exact (Kd.R_mono (Kd.R_far (p := ⟨gb1367, 2, none⟩) (Kd.R_far (p := ⟨gb1367, 1, none⟩) (Kd.R_far (p := ⟨gb1367, 0, none⟩) (Kd.R_types HO_1331002.out BK1367.out (by decide)) (fun _ hk => hk.2) (.int .i64 t1362)) (fun _ hk => hk.2) (.int .i64 t1363)) (fun _ hk => hk.2) (.slice Ao146 t1364.length co146)) (fun _ h_ => h_.1))) hb); have n4_ := Aside0.mk (Kd.R_below (by (with_reducible repeat (first | apply Kd.R_alloc | apply Kd.R_drewN | apply Kd.R_drew)); exact (Kd.R_mono (Kd.R_far (p := ⟨gb1367, 2, none⟩) (Kd.R_far (p := ⟨gb1367, 1, none⟩) (Kd.R_far (p := ⟨gb1367, 0, none⟩) (Kd.R_types HO1356.out BK1367.out (by decide)) (fun _ hk => hk.2) (.int .i64 t1362)) (fun _ hk => hk.2) (.int .i64 t1363)) (fun _ hk => hk.2) (.slice Ao146 t1364.length co146)) (fun _ h_ => h_.1))) hb); have n5_ := Aside0.mk (Kd.R_below (by (with_reducible repeat (first | apply Kd.R_alloc | apply Kd.R_drewN | apply Kd.R_drew)); exact (Kd.R_mono (Kd.R_far (p := ⟨gb1367, 2, none⟩) (Kd.R_far (p := ⟨gb1367, 1, none⟩) (Kd.R_far (p := ⟨gb1367, 0, none⟩) (Kd.R_types HO1361.out BK1367.out (by decide)) (fun _ hk => hk.2) (.int .i64 t1362)) (fun _ hk => hk.2) (.int .i64 t1363)) (fun _ hk => hk.2) (.slice Ao146 t1364.length co146)) (fun _ h_ => h_.1))) hb); have n6_ := Aside0.mk (Kd.R_below (by (with_reducible repeat (first | apply Kd.R_alloc | apply Kd.R_drewN | apply Kd.R_drew)); exact (Kd.R_mono (Kd.R_far (p := ⟨gb1367, 2, none⟩) (Kd.R_far (p := ⟨gb1367, 1, none⟩) (Kd.R_far (p := ⟨gb1367, 0, none⟩) (Kd.R_types HO1366.out BK1367.out (by decide)) (fun _ hk => hk.2) (.int .i64 t1362)) (fun _ hk => hk.2) (.int .i64 t1363)) (fun _ hk => hk.2) (.slice Ao146 t1364.length co146)) (fun _ h_ => h_.1))) hb); have n7_ := Aside0.mk (blk_below (g := gb1293) (o := .cells #[.int .i64 a0_0, .int .i64 a0_1, .slice A0_2 l0_2.length c0_2] 55 (0, 0)) (by refine sB_ ?_; refine blk_far ?_ NB1293_1367.out _; refine sB_ ?_; refine blk_far ?_ NB1293_1367.out _; refine sB_ ?_; refine blk_far ?_ NB1293_1367.out _; refine sB_ ?_; exact BK1293.out) hb); have n8_ := Aside0.mk (blk_below (g := gb1294) (o := .cells #[.int .i64 a1_0, .int .i64 a1_1, .slice A1_2 l1_2.length c1_2] 48 (0, 0)) (by refine sB_ ?_; refine blk_far ?_ NB1294_1367.out _; refine sB_ ?_; refine blk_far ?_ NB1294_1367.out _; refine sB_ ?_; refine blk_far ?_ NB1294_1367.out _; refine sB_ ?_; exact BK1294.out) hb); have n9_ := Aside0.mk (blk_below (g := gb1312) (o := .cells #[.int .i64 t1307, .int .i64 t1308, .slice Ao55 t1309.length co55] 41 (0, 0)) (by refine sB_ ?_; refine blk_far ?_ NB1312_1367.out _; refine sB_ ?_; refine blk_far ?_ NB1312_1367.out _; refine sB_ ?_; refine blk_far ?_ NB1312_1367.out _; refine sB_ ?_; exact BK1312.out) hb); have n10_ := Aside0.mk (blk_below (g := gb1318) (o := .cells #[.int .i64 t1313, .int .i64 t1314, .slice Ao65 t1345.length co65] 26 (0, 0)) (by refine sB_ ?_; refine blk_far ?_ NB1318_1367.out _; refine sB_ ?_; refine blk_far ?_ NB1318_1367.out _; refine sB_ ?_; refine blk_far ?_ NB1318_1367.out _; refine sB_ ?_; exact BK1318.out) hb); have n11_ := Aside0.mk (blk_below (g := gb1324) (o := .cells #[.int .i64 t1319, .int .i64 t1320, .slice Ao75 t1347.length co75] 41 (0, 0)) (by refine sB_ ?_; refine blk_far ?_ NB1324_1367.out _; refine sB_ ?_; refine blk_far ?_ NB1324_1367.out _; refine sB_ ?_; refine blk_far ?_ NB1324_1367.out _; refine sB_ ?_; exact BK1324.out) hb); have n12_ := Aside0.mk (blk_below (g := gb1330) (o := .cells #[.int .i64 t1325, .int .i64 t1326, .slice Ao85 t1327.length co85] 41 (0, 0)) (by refine sB_ ?_; refine blk_far ?_ NB1330_1367.out _; refine sB_ ?_; refine blk_far ?_ NB1330_1367.out _; refine sB_ ?_; refine blk_far ?_ NB1330_1367.out _; refine sB_ ?_; exact BK1330.out) hb); have n13_ := Aside0.mk (blk_below (g := gb1367) (o := .cells #[.int .i64 t1362, .int .i64 t1363, .slice Ao146 t1364.length co146] 41 (0, 0)) (by refine sB_ ?_; refine blk_put (cs := #[.int .i64 t1362, .int .i64 t1363, .slice none 0 0]) ?_ 2 _ rfl; refine sB_ ?_; refine blk_put (cs := #[.int .i64 t1362, .int .i64 0, .slice none 0 0]) ?_ 1 _ rfl; refine sB_ ?_; refine blk_put (cs := #[.int .i64 0, .int .i64 0, .slice none 0 0]) ?_ 0 _ rfl; refine sB_ ?_; exact BK1367.out) hb); have n14_ := Aside0.mk (below_step (sW_ HB.out) hb); clear HO_1313002; clear HO_1319002; clear HO_1325002; clear HO_1331002; clear HO1356; clear HO1361; clear HO1366; clear BK1293; clear BK1294; clear BK1312; clear BK1318; clear BK1324; clear BK1330; clear BK1367; clear HB; have HO_1313002 := n0_; have HO_1319002 := n1_; have HO_1325002 := n2_; have HO_1331002 := n3_; have HO1356 := n4_; have HO1361 := n5_; have HO1366 := n6_; have BK1293 := n7_; have BK1294 := n8_; have BK1312 := n9_; have BK1318 := n10_; have BK1324 := n11_; have BK1330 := n12_; have BK1367 := n13_; have HB := n14_; clear n0_ n1_ n2_ n3_ n4_ n5_ n6_ n7_ n8_ n9_ n10_ n11_ n12_ n13_ n14_; (try clear hb); (try clear hb2); (try clear hk); (try clear hi); have hcz161_0 : w160.cell? ⟨gb1330, 0, none⟩ = some (.int .i64 t1325) := (blk_cell BK1330.out 0).trans rfl; have hcz161_1 : w160.cell? ⟨gb1330, 1, none⟩ = some (.int .i64 t1326) := (blk_cell BK1330.out 1).trans rfl; have hcz161_2 : w160.cell? ⟨gb1330, 2, none⟩ = some (.slice Ao85 t1327.length co85) := (blk_cell BK1330.out 2).trans rfl; have hfz161_0 := blk_frozen BK1330.out 0; have hfz161_1 := blk_frozen BK1330.out 1; have hfz161_2 := blk_frozen BK1330.out 2) | ((with_reducible refine gate_callee (f := 51) rfl ?_); refine goesL_ (some 96) rfl rfl Try.func51 (by kernel_rfl) rfl #[.agg #[.int .i64 t1325, .int .i64 t1326, .slice Ao85 t1350.length co85], .int .i64 1] rfl (by (try simp only [List.map_toArray, List.map_cons, List.map_nil]); first | done | (rw [show t1350.length = t1327.length from (Kd.R_reads' HO_1331002.out).1.symm] <;> rfl) | rfl | (simp only [List.length_drop, List.length_take]; rfl)) ?_; (with_reducible refine (laws_heldPicture.calls kj36 t1325 t1326 _ _ t1350 1 t1369 _ ?side1 ?side2 A124.out).mono ?_); (case side1 => repeat (first | exact (Kd.R_reads' HO_1331002.out).2.2 | (with_reducible refine Kd.C_alloc ?_ _) | (with_reducible refine Kd.C_drewN ?_ _) | (with_reducible refine Kd.C_drew ?_))); (case side2 => rw [show t1350.length = t1327.length from (Kd.R_reads' HO_1331002.out).1.symm]; exact (Kd.R_reads' HO_1331002.out).2.1); rintro e w162 ⟨rfl, hb⟩; refine ⟨_, rfl, ?_⟩; have n0_ := Aside0.mk (Kd.R_below (sR_ HO_1313002.out) hb); have n1_ := Aside0.mk (Kd.R_below (sR_ HO_1319002.out) hb); have n2_ := Aside0.mk (Kd.R_below (sR_ HO_1325002.out) hb); have n3_ := Aside0.mk (Kd.R_below (sR_ HO_1331002.out) hb); have n4_ := Aside0.mk (Kd.R_below (sR_ HO1356.out) hb); have n5_ := Aside0.mk (Kd.R_below (sR_ HO1361.out) hb); have n6_ := Aside0.mk (Kd.R_below (sR_ HO1366.out) hb); have n7_ := Aside0.mk (blk_below (sB_ BK1293.out) hb); have n8_ := Aside0.mk (blk_below (sB_ BK1294.out) hb); have n9_ := Aside0.mk (blk_below (sB_ BK1312.out) hb); have n10_ := Aside0.mk (blk_below (sB_ BK1318.out) hb); have n11_ := Aside0.mk (blk_below (sB_ BK1324.out) hb); have n12_ := Aside0.mk (blk_below (sB_ BK1330.out) hb); have n13_ := Aside0.mk (blk_below (sB_ BK1367.out) hb); have n14_ := Aside0.mk (below_step (sW_ HB.out) hb); clear HO_1313002; clear HO_1319002; clear HO_1325002; clear HO_1331002; clear HO1356; clear HO1361; clear HO1366; clear BK1293; clear BK1294; clear BK1312; clear BK1318; clear BK1324; clear BK1330; clear BK1367; clear HB; have HO_1313002 := n0_; have HO_1319002 := n1_; have HO_1325002 := n2_; have HO_1331002 := n3_; have HO1356 := n4_; have HO1361 := n5_; have HO1366 := n6_; have BK1293 := n7_; have BK1294 := n8_; have BK1312 := n9_; have BK1318 := n10_; have BK1324 := n11_; have BK1330 := n12_; have BK1367 := n13_; have HB := n14_; clear n0_ n1_ n2_ n3_ n4_ n5_ n6_ n7_ n8_ n9_ n10_ n11_ n12_ n13_ n14_; (try clear hb); (try clear hb2); (try clear hk); (try clear hi)))
              go_ret
              exact ⟨by first | rfl | (simp [errW_none, errW_some] <;> rfl) | (simp [*, errW_none, errW_some] <;> rfl), by repeat (first | (with_reducible first | exact HB.out | apply below_alloc | apply pw_below_drewN | apply below_drew1 | refine below_set ?_ GE1293.out | refine below_set ?_ GE1294.out | refine below_set ?_ GE1312.out | refine below_set ?_ GE1318.out | refine below_set ?_ GE1324.out | refine below_set ?_ GE1330.out | refine below_set ?_ GE1367.out) | exact HB.out)⟩
             ·rw [if_neg c126] at H
              have c126b0 : (t1369 == t1349) = false := beq_eq_false_iff_ne.mpr c126
              have c126b1 : (t1369 != t1349) = true := bne_iff_ne.mpr c126
              exact absurd ((Option.some.inj H).trans hT.out) (by decide)
           ·replace c123 := Bool.eq_false_iff.mpr c123
            subst c123
            have H1 : (some false) = some r := by rw [if_neg (show ¬ (false = true) by decide)] at H; exact H
            clear H; have H := H1; clear H1
            exact absurd ((Option.some.inj H).trans hT.out) (by decide)
          ·rw [if_neg c118] at H
           have c118b0 : (t1351 == t1349) = false := beq_eq_false_iff_ne.mpr c118
           have c118b1 : (t1351 != t1349) = true := bne_iff_ne.mpr c118
           exact absurd ((Option.some.inj H).trans hT.out) (by decide)
     ·replace c34 := Bool.eq_false_iff.mpr c34
      subst c34
      have H1 : (some false) = some r := by rw [if_neg (show ¬ (false = true) by decide)] at H; exact H
      clear H; have H := H1; clear H1
      exact absurd ((Option.some.inj H).trans hT.out) (by decide)
    ·replace c31 := Bool.eq_false_iff.mpr c31
     subst c31
     have H1 : (some false) = some r := by rw [if_neg (show ¬ (false = true) by decide)] at H; exact H
     clear H; have H := H1; clear H1
     exact absurd ((Option.some.inj H).trans hT.out) (by decide)
   ·replace c28 := Bool.eq_false_iff.mpr c28
    subst c28
    have H1 : (some false) = some r := by rw [if_neg (show ¬ (false = true) by decide)] at H; exact H
    clear H; have H := H1; clear H1
    exact absurd ((Option.some.inj H).trans hT.out) (by decide)

end Go.Proofs.Ytdlehfnlibddcaa.P
