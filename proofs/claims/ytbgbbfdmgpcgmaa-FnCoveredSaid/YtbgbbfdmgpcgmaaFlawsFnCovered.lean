-- Written by tools/seatprint.py (over the kit's print, changed in memory). Not trusted: Lean checks it.
import Derived.Test.YtbgbbfdmgpcgmaaP0
import Derived.Test.YtbgbbfdmgpcgmaaFimplSamePicture
import Derived.Test.YtbgbbfdmgpcgmaaFspecMakePicture
import Derived.Test.YtbgbbfdmgpcgmaaFlawsfresh
import Derived.Test.YtbgbbfdmgpcgmaaFimplCoversPicture
import Derived.Test.YtbgbbfdmgpcgmaaFlawssame
import Derived.Test.YtbgbbfdmgpcgmaaFspecMakeLike
import Derived.Test.YtbgbbfdmgpcgmaaFimplAddPictures
namespace Go.Proofs.Ytbgbbfdmgpcgmaa.P
open Go.RowKit Go.Proofs.YtbgbbfdmgpcgmaaW.PrintWords Go.Proofs.YtbgbbfdmgpcgmaaW.PrintLast Go.Proofs.YtbgbbfdmgpcgmaaW.PrintMore
attribute [local go_sem] max2_int min2_int max_two min_two max_three min_three max_four min_four   -- for this text's walks alone
set_option linter.unusedVariables false
set_option linter.unusedSimpArgs false

/-! ### laws_FnCovered: function 28 -/
def laws_FnCovered.j0 : Nat → Bool → Int → Int → List Int → Int → Int → List Int → Option (Bool)
  | 0, _, _, _, _, _, _, _ => none
  | k + 1, x35, x1317000, x1317001, x1317002, x1333000, x1333001, x1333002 => if x35 = true then (some false) else ((impl_CoversPicture.f k x1317000 x1317001 x1317002 x1333000 x1333001 x1333002).bind fun t1335 => ((laws_same.f k x1317000 x1317001 x1317002 x1333000 x1333001 x1333002).bind fun t1336 => (if (t1335 == t1336) = true then ((impl_SamePicture.f k x1317000 x1317001 x1317002 x1333000 x1333001 x1333002).bind fun t1337 => ((laws_same.f k x1317000 x1317001 x1317002 x1333000 x1333001 x1333002).bind fun t1338 => (some (t1337 == t1338)))) else (some false))))
def laws_FnCovered.f (k : Nat) (l0 : List Int) : Option (Bool) := if (l0.length : Int) > 1048576 then (some true) else ((spec_MakePicture.f k l0 8).bind fun bt1311 => ((laws_fresh.f k l0 3).bind fun t1317 => ((spec_MakeLike.f k t1317 bt1311.1 bt1311.2.1 bt1311.2.2).bind fun bt1320 => ((impl_AddPictures.f bt1311.1 bt1311.2.1 bt1311.2.2 bt1320.1 bt1320.2.1 bt1320.2.2).bind fun bt1326 => (if bt1326.2.2.2 = true then ((impl_CoversPicture.f k bt1326.1 bt1326.2.1 bt1326.2.2.1 bt1311.1 bt1311.2.1 bt1311.2.2).bind fun t1333 => (if t1333 = true then ((impl_CoversPicture.f k bt1326.1 bt1326.2.1 bt1326.2.2.1 bt1320.1 bt1320.2.1 bt1320.2.2).bind fun t1334 => (laws_FnCovered.j0 k (!t1334) bt1311.1 bt1311.2.1 bt1311.2.2 bt1326.1 bt1326.2.1 bt1326.2.2.1)) else (laws_FnCovered.j0 k true bt1311.1 bt1311.2.1 bt1311.2.2 bt1326.1 bt1326.2.1 bt1326.2.2.1))) else (laws_FnCovered.j0 k true bt1311.1 bt1311.2.1 bt1311.2.2 bt1326.1 bt1326.2.1 bt1326.2.2.1))))))
theorem laws_FnCovered.mono_l : ∀ k, (∀ y0 y1 y2 y3 y4 y5 y6, LeO (laws_FnCovered.j0 k y0 y1 y2 y3 y4 y5 y6) (laws_FnCovered.j0 (k + 1) y0 y1 y2 y3 y4 y5 y6))
  | 0 => fun _ _ _ _ _ _ _ r h => by simp [laws_FnCovered.j0] at h
  | k + 1 => by
    have ih0 := laws_FnCovered.mono_l k
    · intro y0 y1 y2 y3 y4 y5 y6
      unfold laws_FnCovered.j0
      repeat' first
      | (with_reducible exact ih0 _ _ _ _ _ _ _)
      | (with_reducible exact impl_CoversPicture.mono _ _ _ _ _ _ _)
      | (with_reducible exact impl_SamePicture.mono _ _ _ _ _ _ _)
      | (with_reducible exact laws_fresh.mono _ _ _)
      | (with_reducible exact laws_same.mono _ _ _ _ _ _ _)
      | (with_reducible exact spec_MakeLike.mono _ _ _ _ _)
      | (with_reducible exact spec_MakePicture.mono _ _ _)
      | (with_reducible exact LeO.refl _)
      | (with_reducible exact LeO.none _)
      | (with_reducible refine LeO.ite ?_ ?_)
      | (with_reducible refine LeO.bind ?_ (fun _ => ?_))
      | exact ih0 _ _ _ _ _ _ _
      | exact impl_CoversPicture.mono _ _ _ _ _ _ _
      | exact impl_SamePicture.mono _ _ _ _ _ _ _
      | exact laws_fresh.mono _ _ _
      | exact laws_same.mono _ _ _ _ _ _ _
      | exact spec_MakeLike.mono _ _ _ _ _
      | exact spec_MakePicture.mono _ _ _
      | exact LeO.none _
      | refine LeO.ite ?_ ?_
      | refine LeO.bind ?_ (fun _ => ?_)
theorem laws_FnCovered.mono : ∀ a0 k, LeO (laws_FnCovered.f k a0) (laws_FnCovered.f (k + 1) a0) := by
  intro a0 k
  have ih0 := laws_FnCovered.mono_l k
  unfold laws_FnCovered.f
  repeat' first
      | (with_reducible exact ih0 _ _ _ _ _ _ _)
      | (with_reducible exact impl_CoversPicture.mono _ _ _ _ _ _ _)
      | (with_reducible exact impl_SamePicture.mono _ _ _ _ _ _ _)
      | (with_reducible exact laws_fresh.mono _ _ _)
      | (with_reducible exact laws_same.mono _ _ _ _ _ _ _)
      | (with_reducible exact spec_MakeLike.mono _ _ _ _ _)
      | (with_reducible exact spec_MakePicture.mono _ _ _)
      | (with_reducible exact LeO.refl _)
      | (with_reducible exact LeO.none _)
      | (with_reducible refine LeO.ite ?_ ?_)
      | (with_reducible refine LeO.bind ?_ (fun _ => ?_))
      | exact ih0 _ _ _ _ _ _ _
      | exact impl_CoversPicture.mono _ _ _ _ _ _ _
      | exact impl_SamePicture.mono _ _ _ _ _ _ _
      | exact laws_fresh.mono _ _ _
      | exact laws_same.mono _ _ _ _ _ _ _
      | exact spec_MakeLike.mono _ _ _ _ _
      | exact spec_MakePicture.mono _ _ _
      | exact LeO.none _
      | refine LeO.ite ?_ ?_
      | refine LeO.bind ?_ (fun _ => ?_)
def laws_FnCovered.T8 : Bool × List (List Nat × List Nat) := (true, [([], []), ([], []), ([0, 1], [0, 1]), ([], []), ([], []), ([3, 4, 2], [3, 4]), ([2, 5], [2, 5]), ([6, 5], [6]), ([7], [7]), ([7], [7]), ([8, 9, 7, 7], [7, 8, 9]), ([7], [7]), ([7], [7]), ([11, 12, 10, 7], [7, 11, 12]), ([10, 13, 7], [7, 10, 13]), ([7, 14], [7, 14]), ([15, 13, 0, 1, 2, 3, 4, 5, 6, 7, 8, 9, 10, 11, 12, 13, 14, 15], [15])])
def laws_FnCovered.B8 : List Nat := [0, 0, 3, 0, 0, 31, 63, 127, 255, 255, 1023, 255, 255, 8191, 16383, 32767, 65535]
theorem laws_FnCovered.tab8 : rtab .any (opsOf Try.f28 8) = laws_FnCovered.T8 := by kernel_rfl
theorem laws_FnCovered.bits8 : waitsOk laws_FnCovered.T8.2 laws_FnCovered.B8 = true := by kernel_rfl
set_option maxHeartbeats 8000000 in
set_option maxRecDepth 100000 in
theorem laws_FnCovered.calls (k : Nat) (A0 : Option Addr) (c0 : Nat) (l0 : List Int) (r : Bool) (w : World) (hr0 : Kd.C (Kd.int .u8) w A0 l0.length l0) (hc0 : l0.length ≤ c0) (hT : Aside0 (r = true)) (h : laws_FnCovered.f k l0 = some r) :
    Calls Try.prog 28 #[.slice A0 l0.length c0] w fun e w' => e = .returned (.bool r) ∧ Below w.heap.size w w' := by
  have hu37 := Try.underlying37
  have HR0 := Aside0.mk hr0
  have HC0 := Aside0.mk hc0
  clear hr0 hc0
  have HB := Aside0.mk (Below.refl w.heap.size w)
  have H : (if (l0.length : Int) > 1048576 then (some true) else ((spec_MakePicture.f k l0 8).bind fun bt1311 => ((laws_fresh.f k l0 3).bind fun t1317 => ((spec_MakeLike.f k t1317 bt1311.1 bt1311.2.1 bt1311.2.2).bind fun bt1320 => ((impl_AddPictures.f bt1311.1 bt1311.2.1 bt1311.2.2 bt1320.1 bt1320.2.1 bt1320.2.2).bind fun bt1326 => (if bt1326.2.2.2 = true then ((impl_CoversPicture.f k bt1326.1 bt1326.2.1 bt1326.2.2.1 bt1311.1 bt1311.2.1 bt1311.2.2).bind fun t1333 => (if t1333 = true then ((impl_CoversPicture.f k bt1326.1 bt1326.2.1 bt1326.2.2.1 bt1320.1 bt1320.2.1 bt1320.2.2).bind fun t1334 => (laws_FnCovered.j0 k (!t1334) bt1311.1 bt1311.2.1 bt1311.2.2 bt1326.1 bt1326.2.1 bt1326.2.2.1)) else (laws_FnCovered.j0 k true bt1311.1 bt1311.2.1 bt1311.2.2 bt1326.1 bt1326.2.1 bt1326.2.2.1))) else (laws_FnCovered.j0 k true bt1311.1 bt1311.2.1 bt1311.2.2 bt1326.1 bt1326.2.1 bt1326.2.2.1))))))) = some r := h
  clear h
  by_cases c2 : (l0.length : Int) > 1048576
  · rw [if_pos c2] at H
    have c2b0 : decide (1048576 < (l0.length : Int)) = true := decide_eq_true c2
    have c2b1 : decide (1048576 < l0.length) = true := decide_eq_true (by omega)
    clear c2
    obtain rfl := Option.some.inj H
    go_enter Try.func28, Try.ntmps28
    go_wp2
    go_ret
    exact ⟨by first | rfl | (simp [errW_none, errW_some] <;> rfl) | (simp [*, errW_none, errW_some] <;> rfl), by repeat (first | (with_reducible first | exact HB.out | apply below_alloc | apply pw_below_drewN | apply below_drew1) | exact HB.out)⟩
  · rw [if_neg c2] at H
    have c2b0 : decide (1048576 < (l0.length : Int)) = false := decide_eq_false c2
    have c2b1 : decide (1048576 < l0.length) = false := decide_eq_false (by omega)
    clear c2
    replace H := Option.bind_eq_some_iff.mp H
    obtain ⟨⟨t1311, t1312, t1313⟩, A30, H⟩ := H
    replace H : ((laws_fresh.f k l0 3).bind fun t1317 => ((spec_MakeLike.f k t1317 t1311 t1312 t1313).bind fun bt1320 => ((impl_AddPictures.f t1311 t1312 t1313 bt1320.1 bt1320.2.1 bt1320.2.2).bind fun bt1326 => (if bt1326.2.2.2 = true then ((impl_CoversPicture.f k bt1326.1 bt1326.2.1 bt1326.2.2.1 t1311 t1312 t1313).bind fun t1333 => (if t1333 = true then ((impl_CoversPicture.f k bt1326.1 bt1326.2.1 bt1326.2.2.1 bt1320.1 bt1320.2.1 bt1320.2.2).bind fun t1334 => (laws_FnCovered.j0 k (!t1334) t1311 t1312 t1313 bt1326.1 bt1326.2.1 bt1326.2.2.1)) else (laws_FnCovered.j0 k true t1311 t1312 t1313 bt1326.1 bt1326.2.1 bt1326.2.2.1))) else (laws_FnCovered.j0 k true t1311 t1312 t1313 bt1326.1 bt1326.2.1 bt1326.2.2.1))))) = some r := H
    have A3 := Aside0.mk A30
    clear A30
    replace H := Option.bind_eq_some_iff.mp H
    obtain ⟨t1317, A40, H⟩ := H
    replace H : ((spec_MakeLike.f k t1317 t1311 t1312 t1313).bind fun bt1320 => ((impl_AddPictures.f t1311 t1312 t1313 bt1320.1 bt1320.2.1 bt1320.2.2).bind fun bt1326 => (if bt1326.2.2.2 = true then ((impl_CoversPicture.f k bt1326.1 bt1326.2.1 bt1326.2.2.1 t1311 t1312 t1313).bind fun t1333 => (if t1333 = true then ((impl_CoversPicture.f k bt1326.1 bt1326.2.1 bt1326.2.2.1 bt1320.1 bt1320.2.1 bt1320.2.2).bind fun t1334 => (laws_FnCovered.j0 k (!t1334) t1311 t1312 t1313 bt1326.1 bt1326.2.1 bt1326.2.2.1)) else (laws_FnCovered.j0 k true t1311 t1312 t1313 bt1326.1 bt1326.2.1 bt1326.2.2.1))) else (laws_FnCovered.j0 k true t1311 t1312 t1313 bt1326.1 bt1326.2.1 bt1326.2.2.1)))) = some r := H
    have A4 := Aside0.mk A40
    clear A40
    replace H := Option.bind_eq_some_iff.mp H
    obtain ⟨⟨t1320, t1321, t1322⟩, A50, H⟩ := H
    replace H : ((impl_AddPictures.f t1311 t1312 t1313 t1320 t1321 t1322).bind fun bt1326 => (if bt1326.2.2.2 = true then ((impl_CoversPicture.f k bt1326.1 bt1326.2.1 bt1326.2.2.1 t1311 t1312 t1313).bind fun t1333 => (if t1333 = true then ((impl_CoversPicture.f k bt1326.1 bt1326.2.1 bt1326.2.2.1 t1320 t1321 t1322).bind fun t1334 => (laws_FnCovered.j0 k (!t1334) t1311 t1312 t1313 bt1326.1 bt1326.2.1 bt1326.2.2.1)) else (laws_FnCovered.j0 k true t1311 t1312 t1313 bt1326.1 bt1326.2.1 bt1326.2.2.1))) else (laws_FnCovered.j0 k true t1311 t1312 t1313 bt1326.1 bt1326.2.1 bt1326.2.2.1))) = some r := H
    have A5 := Aside0.mk A50
    clear A50
    replace H := Option.bind_eq_some_iff.mp H
    obtain ⟨⟨t1326, t1327, t1328, t1331⟩, A60, H⟩ := H
    replace H : (if t1331 = true then ((impl_CoversPicture.f k t1326 t1327 t1328 t1311 t1312 t1313).bind fun t1333 => (if t1333 = true then ((impl_CoversPicture.f k t1326 t1327 t1328 t1320 t1321 t1322).bind fun t1334 => (laws_FnCovered.j0 k (!t1334) t1311 t1312 t1313 t1326 t1327 t1328)) else (laws_FnCovered.j0 k true t1311 t1312 t1313 t1326 t1327 t1328))) else (laws_FnCovered.j0 k true t1311 t1312 t1313 t1326 t1327 t1328)) = some r := H
    have A6 := Aside0.mk A60
    clear A60
    have HC7 := Aside0.mk H
    clear H
    go_enter Try.func28, Try.ntmps28
    try go_wp2_with (first | ((with_reducible refine gate_callee (f := 67) rfl ?_); refine goesL_ (some 11) rfl rfl Try.func67 (by kernel_rfl) rfl #[.slice A0 l0.length c0, .int .i64 8] rfl (by (try simp only [List.map_toArray, List.map_cons, List.map_nil]); first | done | rfl | (simp only [List.length_drop, List.length_take]; rfl)) ?_; (with_reducible refine (spec_MakePicture.calls k _ _ l0 8 t1311 t1312 t1313 _ ?side1 ?side2 A3.out).mono ?_); (case side1 => repeat (first | exact HR0.out | (with_reducible refine Kd.C_alloc ?_ _) | (with_reducible refine Kd.C_drewN ?_ _) | (with_reducible refine Kd.C_drew ?_))); (case side2 => exact HC0.out); rintro e w8 ⟨v1314, rfl, ho0, hb⟩; refine ⟨_, rfl, ?_⟩; have n0_ := Aside0.mk (Kd.R_lower ho0 (below_size (by repeat (first | (with_reducible first | exact HB.out | apply below_alloc | apply pw_below_drewN | apply below_drew1) | exact HB.out)))); have n1_ := Aside0.mk (below_step (by repeat (first | (with_reducible first | exact HB.out | apply below_alloc | apply pw_below_drewN | apply below_drew1) | exact HB.out)) hb); clear HB; have HO1315 := n0_; have HB := n1_; clear n0_ n1_; (try clear hb); (try clear hb2); (try clear hk); (try clear hi); (try clear ho0)) | ((with_reducible refine gate_dst (N := 3) rfl ?_); refine box_event ?hg (N := 3) ?hd (cs := #[.int .i64 0, .int .i64 0, .slice none 0 0]) (t := 37) ?hr ?_; (case hd => rfl); (case hg => rfl); (case hr => first | (go_simp; done) | (go_simp; rfl)); intro gb1316 hg w9 hbox hb; have n0_ := Aside0.mk (Kd.R_below (by (with_reducible repeat (first | apply Kd.R_alloc | apply Kd.R_drewN | apply Kd.R_drew)); exact HO1315.out) hb); have n1_ := Aside0.mk (below_step (by repeat (first | (with_reducible first | exact HB.out | apply below_alloc | apply pw_below_drewN | apply below_drew1) | exact HB.out)) hb); have n2_ := Aside0.mk (hbox); have n3_ := Aside0.mk ((by rw [hg]; exact (below_size (by repeat (first | (with_reducible first | exact HB.out | apply below_alloc | apply pw_below_drewN | apply below_drew1) | exact HB.out))) : w.heap.size ≤ gb1316)); have n4_ := Aside0.mk ((by rw [hg]; exact (below_size (by repeat (first | (with_reducible first | exact HB.out | apply below_alloc | apply pw_below_drewN | apply below_drew1) | exact HB.out))) : w.heap.size ≤ gb1316)); clear HO1315; clear HB; have HO1315 := n0_; have HB := n1_; have BK1316 := n2_; have GW1316 := n3_; have GE1316 := n4_; clear n0_ n1_ n2_ n3_ n4_; clear hb hbox hg; have hcz10_0 : w9.cell? ⟨gb1316, 0, none⟩ = some (.int .i64 0) := (blk_cell BK1316.out 0).trans rfl; have hcz10_1 : w9.cell? ⟨gb1316, 1, none⟩ = some (.int .i64 0) := (blk_cell BK1316.out 1).trans rfl; have hcz10_2 : w9.cell? ⟨gb1316, 2, none⟩ = some (.slice none 0 0) := (blk_cell BK1316.out 2).trans rfl; have hfz10_0 := blk_frozen BK1316.out 0; have hfz10_1 := blk_frozen BK1316.out 1; have hfz10_2 := blk_frozen BK1316.out 2; obtain ⟨Ao11, co11, eo11⟩ := Kd.R_slice HO1315.out; subst eo11))
    have n0_ : Aside0 (Kd.R (Kd.int .i64) 3 (((w9.setCell ⟨gb1316, 0, none⟩ (.int .i64 t1311)).setCell ⟨gb1316, 1, none⟩ (.int .i64 t1312)).setCell ⟨gb1316, 2, none⟩ (.slice Ao11 t1313.length co11)) w.heap.size (fun _ => True) (.slice Ao11 t1313.length co11) t1313) := ⟨by (with_reducible repeat (first | apply Kd.R_alloc | apply Kd.R_drewN | apply Kd.R_drew)); exact Kd.R_mono (Kd.R_far (p := ⟨gb1316, 2, none⟩) (Kd.R_far (p := ⟨gb1316, 1, none⟩) (Kd.R_far (p := ⟨gb1316, 0, none⟩) (Kd.R_types HO1315.out BK1316.out (by decide)) (fun _ hk => hk.2) (.int .i64 t1311)) (fun _ hk => hk.2) (.int .i64 t1312)) (fun _ hk => hk.2) (.slice Ao11 t1313.length co11)) (fun _ hk => trivial)⟩
    have n1_ : Aside0 ((((w9.setCell ⟨gb1316, 0, none⟩ (.int .i64 t1311)).setCell ⟨gb1316, 1, none⟩ (.int .i64 t1312)).setCell ⟨gb1316, 2, none⟩ (.slice Ao11 t1313.length co11)).heap[gb1316]? = some (.cells #[.int .i64 t1311, .int .i64 t1312, .slice Ao11 t1313.length co11] 37 (0, 0))) := ⟨by (with_reducible repeat (first | refine blk_drewN ?_ _ | refine blk_drew ?_ | refine blk_alloc ?_ _)); refine blk_put (cs := #[.int .i64 t1311, .int .i64 t1312, .slice none 0 0]) ?_ 2 _ rfl; (with_reducible repeat (first | refine blk_drewN ?_ _ | refine blk_drew ?_ | refine blk_alloc ?_ _)); refine blk_put (cs := #[.int .i64 t1311, .int .i64 0, .slice none 0 0]) ?_ 1 _ rfl; (with_reducible repeat (first | refine blk_drewN ?_ _ | refine blk_drew ?_ | refine blk_alloc ?_ _)); refine blk_put (cs := #[.int .i64 0, .int .i64 0, .slice none 0 0]) ?_ 0 _ rfl; (with_reducible repeat (first | refine blk_drewN ?_ _ | refine blk_drew ?_ | refine blk_alloc ?_ _)); exact BK1316.out⟩
    have n2_ : Aside0 (Below w.heap.size w (((w9.setCell ⟨gb1316, 0, none⟩ (.int .i64 t1311)).setCell ⟨gb1316, 1, none⟩ (.int .i64 t1312)).setCell ⟨gb1316, 2, none⟩ (.slice Ao11 t1313.length co11))) := ⟨by repeat (first | (with_reducible first | exact HB.out | apply below_alloc | apply pw_below_drewN | apply below_drew1 | refine below_set ?_ GE1316.out) | exact HB.out)⟩
    (try clear HO1315)
    (try clear BK1316)
    (try clear HB)
    generalize (((w9.setCell ⟨gb1316, 0, none⟩ (.int .i64 t1311)).setCell ⟨gb1316, 1, none⟩ (.int .i64 t1312)).setCell ⟨gb1316, 2, none⟩ (.slice Ao11 t1313.length co11)) = w12 at n0_ n1_ n2_ ⊢
    have HO1315 := n0_
    have BK1316 := n1_
    have HB := n2_
    clear n0_ n1_ n2_
    have n0_ := Aside0.mk (Kd.R_drew HO1315.out)
    have n1_ := Aside0.mk (blk_drew BK1316.out)
    have n2_ := Aside0.mk (below_drew1 HB.out)
    clear HO1315
    clear BK1316
    clear HB
    have HO1315 := n0_
    have BK1316 := n1_
    have HB := n2_
    clear n0_ n1_ n2_
    refine start_ (n := 6) (S := fun w' => w'.cell? ⟨gb1316, 0, none⟩ = some (.int .i64 t1311) ∧ w'.cell? ⟨gb1316, 1, none⟩ = some (.int .i64 t1312) ∧ w'.cell? ⟨gb1316, 2, none⟩ = some (.slice Ao11 t1313.length co11)) (ds := []) #[false, false, false, false, false, false] (by kernel_rfl) rfl rfl ⟨(blk_cell BK1316.out 0).trans rfl, (blk_cell BK1316.out 1).trans rfl, (blk_cell BK1316.out 2).trans rfl⟩ (fun hHeld => ?_)
    generalize w12.drew = w13 at HO1315 BK1316 HB hHeld ⊢
    refine pure_ (i := 0) (N := some 12) (v := ?_) (a' := ?_) #[true, false, false, false, false, false] rfl rfl (by kernel_rfl) (fun _ _ _ h => h) (Or.inl ⟨by rfl, ?_⟩) ?_ ?_
    rotate_left
    · intro w'
      go_simp
      with_reducible rfl
    rotate_left
    · simp only [Act.put, List.setIfInBounds_toArray, List.set_cons_zero, List.set_cons_succ, i64_w, i32_w]
      rfl
    refine take_ (i := 2) (N := some 14) (v := ?_) (a' := ?_) #[true, false, true, false, false, false] rfl rfl (by kernel_rfl) (fun _ _ _ h => h) (Or.inl ⟨by rfl, ?_⟩) hHeld ?_ ?_
    rotate_left
    · rintro w' ⟨s0, s1, s2⟩
      go_simp
      with_reducible rfl
    rotate_left
    · simp only [Act.put, List.setIfInBounds_toArray, List.set_cons_zero, List.set_cons_succ, i64_w, i32_w]
      rfl
    refine join_ (σ := Value × Value × Nat) 1 #[true, true, true, true, true, false] (fun s_ => [(13, s_.1), (15, .agg #[.int .i64 t1320, .int .i64 t1321, s_.2.1]), (4, .pointer (some ⟨s_.2.2, 0, none⟩))]) (fun s_ w' => (w'.cell? ⟨gb1316, 0, none⟩ = some (.int .i64 t1311) ∧ w'.cell? ⟨gb1316, 1, none⟩ = some (.int .i64 t1312) ∧ w'.cell? ⟨gb1316, 2, none⟩ = some (.slice Ao11 t1313.length co11)) ∧ (Kd.R (Kd.int .i64) 3 w' w.heap.size (fun k_ => some k_ ≠ (s_.2.1 : Value).ownBlock) (.slice Ao11 t1313.length co11) t1313) ∧ (Kd.R (Kd.int .u8) 5 w' w.heap.size (fun _ => True) s_.1 t1317) ∧ (Kd.R (Kd.int .i64) 3 w' w.heap.size (fun k_ => some k_ ≠ (.slice Ao11 t1313.length co11 : Value).ownBlock) s_.2.1 t1322) ∧ (w'.heap[gb1316]? = some (.cells #[.int .i64 t1311, .int .i64 t1312, .slice Ao11 t1313.length co11] 37 (0, 0))) ∧ (w'.heap[s_.2.2]? = some (.cells #[.int .i64 0, .int .i64 0, .slice none 0 0] 37 (0, 0))) ∧ (w.heap.size ≤ s_.2.2) ∧ (w.heap.size ≤ s_.2.2) ∧ (gb1316 ≠ s_.2.2) ∧ (s_.2.2 ≠ gb1316) ∧ (Below w.heap.size w w')) ?_ ?_
    rotate_left
    · intro hCont
      refine two_ (i := 1) (j := 4) (Ni := some 13) (Nj := some 4) #[true, true, true, false, false, false] #[true, false, true, false, true, false] rfl rfl rfl rfl (by kernel_rfl) (by decide) (by decide) (fun K hK => ?_) (fun K hK => ?_)
      · skip
        refine goes_ Try.func68 (by kernel_rfl) rfl #[.slice A0 l0.length c0, .int .i64 3] (by rfl) rfl rfl (by (try simp only [List.map_toArray, List.map_cons, List.map_nil]); first | done | rfl | (simp only [List.length_drop, List.length_take]; rfl)) ?_
        with_reducible refine (laws_fresh.calls k _ _ l0 3 t1317 _ ?side1 ?side2 A4.out).mono ?_
        (case side1 => repeat (first | exact (Kd.C_below HR0.out HB.out) | (with_reducible refine Kd.C_alloc ?_ _) | (with_reducible refine Kd.C_drewN ?_ _) | (with_reducible refine Kd.C_drew ?_)))
        (case side2 => exact HC0.out)
        rintro e w14 ⟨v1318, rfl, ho0, hb⟩
        refine ⟨_, rfl, ?_⟩
        have n0_ := Aside0.mk (Kd.R_below (by (with_reducible repeat (first | apply Kd.R_alloc | apply Kd.R_drewN | apply Kd.R_drew)); exact HO1315.out) hb)
        have n1_ := Aside0.mk (Kd.R_lower ho0 (below_size (by repeat (first | (with_reducible first | exact HB.out | apply below_alloc | apply pw_below_drewN | apply below_drew1 | refine below_set ?_ GE1316.out) | exact HB.out))))
        have n2_ := Aside0.mk (blk_below (g := gb1316) (o := .cells #[.int .i64 t1311, .int .i64 t1312, .slice Ao11 t1313.length co11] 37 (0, 0)) (by (with_reducible repeat (first | refine blk_drewN ?_ _ | refine blk_drew ?_ | refine blk_alloc ?_ _)); exact BK1316.out) hb)
        have n3_ := Aside0.mk (below_step (by repeat (first | (with_reducible first | exact HB.out | apply below_alloc | apply pw_below_drewN | apply below_drew1 | refine below_set ?_ GE1316.out) | exact HB.out)) hb)
        clear HO1315
        clear BK1316
        clear HB
        have HO1315 := n0_
        have HO1319 := n1_
        have BK1316 := n2_
        have HB := n3_
        clear n0_ n1_ n2_ n3_
        (try clear hb)
        (try clear hb2)
        (try clear hk)
        (try clear hi)
        (try clear ho0)
        obtain ⟨Ao15, co15, eo15⟩ := Kd.R_slice HO1319.out
        (first | subst eo15 | (injection eo15 with f1_ f2_ f3_; have f4_ := f1_.symm; have f5_ := f3_.symm; clear f1_ f2_ f3_; subst f4_; subst f5_))
        refine hK.out _ _ ⟨(blk_cell BK1316.out 0).trans rfl, (blk_cell BK1316.out 1).trans rfl, (blk_cell BK1316.out 2).trans rfl⟩ (fun hHeld => ?_)
        clear hK K
        refine norm_ (a' := ?_) ?_ ?_
        rotate_left
        · show Act.put _ (some 13) _ = _
          simp only [Act.put, List.setIfInBounds_toArray, List.set_cons_zero, List.set_cons_succ, i64_w, i32_w]
          rfl
        refine two_ (i := 3) (j := 4) (Ni := some 15) (Nj := some 4) #[true, true, true, true, false, false] #[true, true, true, false, true, false] rfl rfl rfl rfl (by kernel_rfl) (by decide) (by decide) (fun K hK => ?_) (fun K hK => ?_)
        · skip
          refine goes_ Try.func93 (by kernel_rfl) rfl #[.slice Ao15 t1317.length co15, .agg #[.int .i64 t1311, .int .i64 t1312, .slice Ao11 t1313.length co11]] (by rfl) rfl rfl (by (try simp only [List.map_toArray, List.map_cons, List.map_nil]); first | done | rfl | (simp only [List.length_drop, List.length_take]; rfl)) ?_
          with_reducible refine (spec_MakeLike.calls k _ _ t1317 t1311 t1312 _ _ t1313 t1320 t1321 t1322 _ ?side1 ?side2 ?side3 ?side4 A5.out).mono ?_
          (case side1 => repeat (first | exact (Kd.R_reads' HO1319.out).2.2 | (with_reducible refine Kd.C_alloc ?_ _) | (with_reducible refine Kd.C_drewN ?_ _) | (with_reducible refine Kd.C_drew ?_)))
          (case side2 => exact (Kd.R_reads' HO1319.out).2.1)
          (case side3 => repeat (first | exact (Kd.R_reads' HO1315.out).2.2 | (with_reducible refine Kd.C_alloc ?_ _) | (with_reducible refine Kd.C_drewN ?_ _) | (with_reducible refine Kd.C_drew ?_)))
          (case side4 => exact (Kd.R_reads' HO1315.out).2.1)
          rintro e w16 ⟨v1323, rfl, ho0, hb⟩
          refine ⟨_, rfl, ?_⟩
          have n0_ := Aside0.mk (Kd.R_elder' (by (with_reducible repeat (first | apply Kd.R_alloc | apply Kd.R_drewN | apply Kd.R_drew)); exact HO1315.out) (Kd.R_base ho0) hb)
          have n1_ := Aside0.mk (Kd.R_below (by (with_reducible repeat (first | apply Kd.R_alloc | apply Kd.R_drewN | apply Kd.R_drew)); exact HO1319.out) hb)
          have n2_ := Aside0.mk (Kd.R_lower (Kd.R_new' ho0 (Kd.R_lt (by (with_reducible repeat (first | apply Kd.R_alloc | apply Kd.R_drewN | apply Kd.R_drew)); exact HO1315.out))) (below_size (by repeat (first | (with_reducible first | exact HB.out | apply below_alloc | apply pw_below_drewN | apply below_drew1 | refine below_set ?_ GE1316.out) | exact HB.out))))
          have n3_ := Aside0.mk (blk_below (g := gb1316) (o := .cells #[.int .i64 t1311, .int .i64 t1312, .slice Ao11 t1313.length co11] 37 (0, 0)) (by (with_reducible repeat (first | refine blk_drewN ?_ _ | refine blk_drew ?_ | refine blk_alloc ?_ _)); exact BK1316.out) hb)
          have n4_ := Aside0.mk (below_step (by repeat (first | (with_reducible first | exact HB.out | apply below_alloc | apply pw_below_drewN | apply below_drew1 | refine below_set ?_ GE1316.out) | exact HB.out)) hb)
          clear HO1315
          clear HO1319
          clear BK1316
          clear HB
          have HO1315 := n0_
          have HO1319 := n1_
          have HO1324 := n2_
          have BK1316 := n3_
          have HB := n4_
          clear n0_ n1_ n2_ n3_ n4_
          (try clear hb)
          (try clear hb2)
          (try clear hk)
          (try clear hi)
          (try clear ho0)
          refine hK.out _ _ ⟨(blk_cell BK1316.out 0).trans rfl, (blk_cell BK1316.out 1).trans rfl, (blk_cell BK1316.out 2).trans rfl⟩ (fun hHeld => ?_)
          clear hK K
          refine norm_ (a' := ?_) ?_ ?_
          rotate_left
          · show Act.put _ (some 15) _ = _
            simp only [Act.put, List.setIfInBounds_toArray, List.set_cons_zero, List.set_cons_succ, i64_w, i32_w]
            rfl
          refine one_ (i := 4) (N := some 4) #[true, true, true, true, true, false] rfl rfl (by kernel_rfl) (by decide) (fun K hK => ?_)
          refine box_step ?hg (N := 4) ?hd (cs := #[.int .i64 0, .int .i64 0, .slice none 0 0]) (t := 37) ?hr ?_; (case hd => rfl); (case hg => rfl); (case hr => first | (go_simp; done) | (go_simp; rfl))
          intro gb1325 hg w17 hbox hb
          have n0_ := Aside0.mk (Kd.R_below (by (with_reducible repeat (first | apply Kd.R_alloc | apply Kd.R_drewN | apply Kd.R_drew)); exact HO1315.out) hb)
          have n1_ := Aside0.mk (Kd.R_below (by (with_reducible repeat (first | apply Kd.R_alloc | apply Kd.R_drewN | apply Kd.R_drew)); exact HO1319.out) hb)
          have n2_ := Aside0.mk (Kd.R_below (by (with_reducible repeat (first | apply Kd.R_alloc | apply Kd.R_drewN | apply Kd.R_drew)); exact HO1324.out) hb)
          have n3_ := Aside0.mk (blk_below (g := gb1316) (o := .cells #[.int .i64 t1311, .int .i64 t1312, .slice Ao11 t1313.length co11] 37 (0, 0)) (by (with_reducible repeat (first | refine blk_drewN ?_ _ | refine blk_drew ?_ | refine blk_alloc ?_ _)); exact BK1316.out) hb)
          have n4_ := Aside0.mk (below_step (by repeat (first | (with_reducible first | exact HB.out | apply below_alloc | apply pw_below_drewN | apply below_drew1 | refine below_set ?_ GE1316.out) | exact HB.out)) hb)
          have n5_ := Aside0.mk (hbox)
          have n6_ := Aside0.mk ((by rw [hg]; exact (below_size (by repeat (first | (with_reducible first | exact HB.out | apply below_alloc | apply pw_below_drewN | apply below_drew1 | refine below_set ?_ GE1316.out) | exact HB.out))) : w.heap.size ≤ gb1325))
          have n7_ := Aside0.mk ((by rw [hg]; exact (below_size (by repeat (first | (with_reducible first | exact HB.out | apply below_alloc | apply pw_below_drewN | apply below_drew1 | refine below_set ?_ GE1316.out) | exact HB.out))) : w.heap.size ≤ gb1325))
          have n8_ := Aside0.mk ((by rw [hg]; exact Nat.ne_of_lt (blk_lt (g := gb1316) (o := .cells #[.int .i64 t1311, .int .i64 t1312, .slice Ao11 t1313.length co11] 37 (0, 0)) (by (with_reducible repeat (first | refine blk_drewN ?_ _ | refine blk_drew ?_ | refine blk_alloc ?_ _)); exact BK1316.out)) : gb1316 ≠ gb1325))
          have n9_ := Aside0.mk ((by rw [hg]; exact Nat.ne_of_gt (blk_lt (g := gb1316) (o := .cells #[.int .i64 t1311, .int .i64 t1312, .slice Ao11 t1313.length co11] 37 (0, 0)) (by (with_reducible repeat (first | refine blk_drewN ?_ _ | refine blk_drew ?_ | refine blk_alloc ?_ _)); exact BK1316.out)) : gb1325 ≠ gb1316))
          clear HO1315
          clear HO1319
          clear HO1324
          clear BK1316
          clear HB
          have HO1315 := n0_
          have HO1319 := n1_
          have HO1324 := n2_
          have BK1316 := n3_
          have HB := n4_
          have BK1325 := n5_
          have GW1325 := n6_
          have GE1325 := n7_
          have NB1316_1325 := n8_
          have NB1325_1316 := n9_
          clear n0_ n1_ n2_ n3_ n4_ n5_ n6_ n7_ n8_ n9_
          clear hb hbox hg
          refine hK.out _ _ ⟨(blk_cell BK1316.out 0).trans rfl, (blk_cell BK1316.out 1).trans rfl, (blk_cell BK1316.out 2).trans rfl⟩ (fun hHeld => ?_)
          clear hK K
          refine norm_ (a' := ?_) ?_ ?_
          rotate_left
          · show Act.put _ (some 4) _ = _
            simp only [Act.put, List.setIfInBounds_toArray, List.set_cons_zero, List.set_cons_succ, i64_w, i32_w]
            rfl
          exact norm_ (by simp only [putAll, Act.put, List.setIfInBounds_toArray, List.set_cons_zero, List.set_cons_succ]) (hCont (.slice Ao15 t1317.length co15, v1323, gb1325) _ ⟨hHeld, (by (with_reducible repeat (first | apply Kd.R_alloc | apply Kd.R_drewN | apply Kd.R_drew)); exact Kd.R_mono HO1315.out (fun _ hk => hk.2)), (by (with_reducible repeat (first | apply Kd.R_alloc | apply Kd.R_drewN | apply Kd.R_drew)); exact HO1319.out), (by (with_reducible repeat (first | apply Kd.R_alloc | apply Kd.R_drewN | apply Kd.R_drew)); exact Kd.R_mono HO1324.out (fun _ hk => hk.2)), (by (with_reducible repeat (first | refine blk_drewN ?_ _ | refine blk_drew ?_ | refine blk_alloc ?_ _)); exact BK1316.out), (by (with_reducible repeat (first | refine blk_drewN ?_ _ | refine blk_drew ?_ | refine blk_alloc ?_ _)); exact BK1325.out), GW1325.out, GE1325.out, NB1316_1325.out, NB1325_1316.out, (by repeat (first | (with_reducible first | exact HB.out | apply below_alloc | apply pw_below_drewN | apply below_drew1 | refine below_set ?_ GE1316.out | refine below_set ?_ GE1325.out) | exact HB.out))⟩)
        · skip
          refine box_step ?hg (N := 4) ?hd (cs := #[.int .i64 0, .int .i64 0, .slice none 0 0]) (t := 37) ?hr ?_; (case hd => rfl); (case hg => rfl); (case hr => first | (go_simp; done) | (go_simp; rfl))
          intro gb1325 hg w15 hbox hb
          have n0_ := Aside0.mk (Kd.R_below (by (with_reducible repeat (first | apply Kd.R_alloc | apply Kd.R_drewN | apply Kd.R_drew)); exact HO1315.out) hb)
          have n1_ := Aside0.mk (Kd.R_below (by (with_reducible repeat (first | apply Kd.R_alloc | apply Kd.R_drewN | apply Kd.R_drew)); exact HO1319.out) hb)
          have n2_ := Aside0.mk (blk_below (g := gb1316) (o := .cells #[.int .i64 t1311, .int .i64 t1312, .slice Ao11 t1313.length co11] 37 (0, 0)) (by (with_reducible repeat (first | refine blk_drewN ?_ _ | refine blk_drew ?_ | refine blk_alloc ?_ _)); exact BK1316.out) hb)
          have n3_ := Aside0.mk (below_step (by repeat (first | (with_reducible first | exact HB.out | apply below_alloc | apply pw_below_drewN | apply below_drew1 | refine below_set ?_ GE1316.out) | exact HB.out)) hb)
          have n4_ := Aside0.mk (hbox)
          have n5_ := Aside0.mk ((by rw [hg]; exact (below_size (by repeat (first | (with_reducible first | exact HB.out | apply below_alloc | apply pw_below_drewN | apply below_drew1 | refine below_set ?_ GE1316.out) | exact HB.out))) : w.heap.size ≤ gb1325))
          have n6_ := Aside0.mk ((by rw [hg]; exact (below_size (by repeat (first | (with_reducible first | exact HB.out | apply below_alloc | apply pw_below_drewN | apply below_drew1 | refine below_set ?_ GE1316.out) | exact HB.out))) : w.heap.size ≤ gb1325))
          have n7_ := Aside0.mk ((by rw [hg]; exact Nat.ne_of_lt (blk_lt (g := gb1316) (o := .cells #[.int .i64 t1311, .int .i64 t1312, .slice Ao11 t1313.length co11] 37 (0, 0)) (by (with_reducible repeat (first | refine blk_drewN ?_ _ | refine blk_drew ?_ | refine blk_alloc ?_ _)); exact BK1316.out)) : gb1316 ≠ gb1325))
          have n8_ := Aside0.mk ((by rw [hg]; exact Nat.ne_of_gt (blk_lt (g := gb1316) (o := .cells #[.int .i64 t1311, .int .i64 t1312, .slice Ao11 t1313.length co11] 37 (0, 0)) (by (with_reducible repeat (first | refine blk_drewN ?_ _ | refine blk_drew ?_ | refine blk_alloc ?_ _)); exact BK1316.out)) : gb1325 ≠ gb1316))
          clear HO1315
          clear HO1319
          clear BK1316
          clear HB
          have HO1315 := n0_
          have HO1319 := n1_
          have BK1316 := n2_
          have HB := n3_
          have BK1325 := n4_
          have GW1325 := n5_
          have GE1325 := n6_
          have NB1316_1325 := n7_
          have NB1325_1316 := n8_
          clear n0_ n1_ n2_ n3_ n4_ n5_ n6_ n7_ n8_
          clear hb hbox hg
          obtain ⟨Ao16, co16, eo16⟩ := Kd.R_slice HO1319.out
          (first | subst eo16 | (injection eo16 with f1_ f2_ f3_; have f4_ := f1_.symm; have f5_ := f3_.symm; clear f1_ f2_ f3_; subst f4_; subst f5_))
          refine hK.out _ _ ⟨(blk_cell BK1316.out 0).trans rfl, (blk_cell BK1316.out 1).trans rfl, (blk_cell BK1316.out 2).trans rfl⟩ (fun hHeld => ?_)
          clear hK K
          refine norm_ (a' := ?_) ?_ ?_
          rotate_left
          · show Act.put _ (some 4) _ = _
            simp only [Act.put, List.setIfInBounds_toArray, List.set_cons_zero, List.set_cons_succ, i64_w, i32_w]
            rfl
          refine one_ (i := 3) (N := some 15) #[true, true, true, true, true, false] rfl rfl (by kernel_rfl) (by decide) (fun K hK => ?_)
          refine goes_ Try.func93 (by kernel_rfl) rfl #[.slice Ao16 t1317.length co16, .agg #[.int .i64 t1311, .int .i64 t1312, .slice Ao11 t1313.length co11]] (by rfl) rfl rfl (by (try simp only [List.map_toArray, List.map_cons, List.map_nil]); first | done | rfl | (simp only [List.length_drop, List.length_take]; rfl)) ?_
          with_reducible refine (spec_MakeLike.calls k _ _ t1317 t1311 t1312 _ _ t1313 t1320 t1321 t1322 _ ?side1 ?side2 ?side3 ?side4 A5.out).mono ?_
          (case side1 => repeat (first | exact (Kd.R_reads' HO1319.out).2.2 | (with_reducible refine Kd.C_alloc ?_ _) | (with_reducible refine Kd.C_drewN ?_ _) | (with_reducible refine Kd.C_drew ?_)))
          (case side2 => exact (Kd.R_reads' HO1319.out).2.1)
          (case side3 => repeat (first | exact (Kd.R_reads' HO1315.out).2.2 | (with_reducible refine Kd.C_alloc ?_ _) | (with_reducible refine Kd.C_drewN ?_ _) | (with_reducible refine Kd.C_drew ?_)))
          (case side4 => exact (Kd.R_reads' HO1315.out).2.1)
          rintro e w17 ⟨v1323, rfl, ho0, hb⟩
          refine ⟨_, rfl, ?_⟩
          have n0_ := Aside0.mk (Kd.R_elder' (by (with_reducible repeat (first | apply Kd.R_alloc | apply Kd.R_drewN | apply Kd.R_drew)); exact HO1315.out) (Kd.R_base ho0) hb)
          have n1_ := Aside0.mk (Kd.R_below (by (with_reducible repeat (first | apply Kd.R_alloc | apply Kd.R_drewN | apply Kd.R_drew)); exact HO1319.out) hb)
          have n2_ := Aside0.mk (Kd.R_lower (Kd.R_new' ho0 (Kd.R_lt (by (with_reducible repeat (first | apply Kd.R_alloc | apply Kd.R_drewN | apply Kd.R_drew)); exact HO1315.out))) (below_size (by repeat (first | (with_reducible first | exact HB.out | apply below_alloc | apply pw_below_drewN | apply below_drew1 | refine below_set ?_ GE1316.out | refine below_set ?_ GE1325.out) | exact HB.out))))
          have n3_ := Aside0.mk (blk_below (g := gb1316) (o := .cells #[.int .i64 t1311, .int .i64 t1312, .slice Ao11 t1313.length co11] 37 (0, 0)) (by (with_reducible repeat (first | refine blk_drewN ?_ _ | refine blk_drew ?_ | refine blk_alloc ?_ _)); exact BK1316.out) hb)
          have n4_ := Aside0.mk (blk_below (g := gb1325) (o := .cells #[.int .i64 0, .int .i64 0, .slice none 0 0] 37 (0, 0)) (by (with_reducible repeat (first | refine blk_drewN ?_ _ | refine blk_drew ?_ | refine blk_alloc ?_ _)); exact BK1325.out) hb)
          have n5_ := Aside0.mk (below_step (by repeat (first | (with_reducible first | exact HB.out | apply below_alloc | apply pw_below_drewN | apply below_drew1 | refine below_set ?_ GE1316.out | refine below_set ?_ GE1325.out) | exact HB.out)) hb)
          clear HO1315
          clear HO1319
          clear BK1316
          clear BK1325
          clear HB
          have HO1315 := n0_
          have HO1319 := n1_
          have HO1324 := n2_
          have BK1316 := n3_
          have BK1325 := n4_
          have HB := n5_
          clear n0_ n1_ n2_ n3_ n4_ n5_
          (try clear hb)
          (try clear hb2)
          (try clear hk)
          (try clear hi)
          (try clear ho0)
          refine hK.out _ _ ⟨(blk_cell BK1316.out 0).trans rfl, (blk_cell BK1316.out 1).trans rfl, (blk_cell BK1316.out 2).trans rfl⟩ (fun hHeld => ?_)
          clear hK K
          refine norm_ (a' := ?_) ?_ ?_
          rotate_left
          · show Act.put _ (some 15) _ = _
            simp only [Act.put, List.setIfInBounds_toArray, List.set_cons_zero, List.set_cons_succ, i64_w, i32_w]
            rfl
          exact norm_ (by simp only [putAll, Act.put, List.setIfInBounds_toArray, List.set_cons_zero, List.set_cons_succ]) (hCont (.slice Ao16 t1317.length co16, v1323, gb1325) _ ⟨hHeld, (by (with_reducible repeat (first | apply Kd.R_alloc | apply Kd.R_drewN | apply Kd.R_drew)); exact Kd.R_mono HO1315.out (fun _ hk => hk.2)), (by (with_reducible repeat (first | apply Kd.R_alloc | apply Kd.R_drewN | apply Kd.R_drew)); exact HO1319.out), (by (with_reducible repeat (first | apply Kd.R_alloc | apply Kd.R_drewN | apply Kd.R_drew)); exact Kd.R_mono HO1324.out (fun _ hk => hk.2)), (by (with_reducible repeat (first | refine blk_drewN ?_ _ | refine blk_drew ?_ | refine blk_alloc ?_ _)); exact BK1316.out), (by (with_reducible repeat (first | refine blk_drewN ?_ _ | refine blk_drew ?_ | refine blk_alloc ?_ _)); exact BK1325.out), GW1325.out, GE1325.out, NB1316_1325.out, NB1325_1316.out, (by repeat (first | (with_reducible first | exact HB.out | apply below_alloc | apply pw_below_drewN | apply below_drew1 | refine below_set ?_ GE1316.out | refine below_set ?_ GE1325.out) | exact HB.out))⟩)
      · skip
        refine box_step ?hg (N := 4) ?hd (cs := #[.int .i64 0, .int .i64 0, .slice none 0 0]) (t := 37) ?hr ?_; (case hd => rfl); (case hg => rfl); (case hr => first | (go_simp; done) | (go_simp; rfl))
        intro gb1325 hg w14 hbox hb
        have n0_ := Aside0.mk (Kd.R_below (by (with_reducible repeat (first | apply Kd.R_alloc | apply Kd.R_drewN | apply Kd.R_drew)); exact HO1315.out) hb)
        have n1_ := Aside0.mk (blk_below (g := gb1316) (o := .cells #[.int .i64 t1311, .int .i64 t1312, .slice Ao11 t1313.length co11] 37 (0, 0)) (by (with_reducible repeat (first | refine blk_drewN ?_ _ | refine blk_drew ?_ | refine blk_alloc ?_ _)); exact BK1316.out) hb)
        have n2_ := Aside0.mk (below_step (by repeat (first | (with_reducible first | exact HB.out | apply below_alloc | apply pw_below_drewN | apply below_drew1 | refine below_set ?_ GE1316.out) | exact HB.out)) hb)
        have n3_ := Aside0.mk (hbox)
        have n4_ := Aside0.mk ((by rw [hg]; exact (below_size (by repeat (first | (with_reducible first | exact HB.out | apply below_alloc | apply pw_below_drewN | apply below_drew1 | refine below_set ?_ GE1316.out) | exact HB.out))) : w.heap.size ≤ gb1325))
        have n5_ := Aside0.mk ((by rw [hg]; exact (below_size (by repeat (first | (with_reducible first | exact HB.out | apply below_alloc | apply pw_below_drewN | apply below_drew1 | refine below_set ?_ GE1316.out) | exact HB.out))) : w.heap.size ≤ gb1325))
        have n6_ := Aside0.mk ((by rw [hg]; exact Nat.ne_of_lt (blk_lt (g := gb1316) (o := .cells #[.int .i64 t1311, .int .i64 t1312, .slice Ao11 t1313.length co11] 37 (0, 0)) (by (with_reducible repeat (first | refine blk_drewN ?_ _ | refine blk_drew ?_ | refine blk_alloc ?_ _)); exact BK1316.out)) : gb1316 ≠ gb1325))
        have n7_ := Aside0.mk ((by rw [hg]; exact Nat.ne_of_gt (blk_lt (g := gb1316) (o := .cells #[.int .i64 t1311, .int .i64 t1312, .slice Ao11 t1313.length co11] 37 (0, 0)) (by (with_reducible repeat (first | refine blk_drewN ?_ _ | refine blk_drew ?_ | refine blk_alloc ?_ _)); exact BK1316.out)) : gb1325 ≠ gb1316))
        clear HO1315
        clear BK1316
        clear HB
        have HO1315 := n0_
        have BK1316 := n1_
        have HB := n2_
        have BK1325 := n3_
        have GW1325 := n4_
        have GE1325 := n5_
        have NB1316_1325 := n6_
        have NB1325_1316 := n7_
        clear n0_ n1_ n2_ n3_ n4_ n5_ n6_ n7_
        clear hb hbox hg
        refine hK.out _ _ ⟨(blk_cell BK1316.out 0).trans rfl, (blk_cell BK1316.out 1).trans rfl, (blk_cell BK1316.out 2).trans rfl⟩ (fun hHeld => ?_)
        clear hK K
        refine norm_ (a' := ?_) ?_ ?_
        rotate_left
        · show Act.put _ (some 4) _ = _
          simp only [Act.put, List.setIfInBounds_toArray, List.set_cons_zero, List.set_cons_succ, i64_w, i32_w]
          rfl
        refine one_ (i := 1) (N := some 13) #[true, true, true, false, true, false] rfl rfl (by kernel_rfl) (by decide) (fun K hK => ?_)
        refine goes_ Try.func68 (by kernel_rfl) rfl #[.slice A0 l0.length c0, .int .i64 3] (by rfl) rfl rfl (by (try simp only [List.map_toArray, List.map_cons, List.map_nil]); first | done | rfl | (simp only [List.length_drop, List.length_take]; rfl)) ?_
        with_reducible refine (laws_fresh.calls k _ _ l0 3 t1317 _ ?side1 ?side2 A4.out).mono ?_
        (case side1 => repeat (first | exact (Kd.C_below HR0.out HB.out) | (with_reducible refine Kd.C_alloc ?_ _) | (with_reducible refine Kd.C_drewN ?_ _) | (with_reducible refine Kd.C_drew ?_)))
        (case side2 => exact HC0.out)
        rintro e w15 ⟨v1318, rfl, ho0, hb⟩
        refine ⟨_, rfl, ?_⟩
        have n0_ := Aside0.mk (Kd.R_below (by (with_reducible repeat (first | apply Kd.R_alloc | apply Kd.R_drewN | apply Kd.R_drew)); exact HO1315.out) hb)
        have n1_ := Aside0.mk (Kd.R_lower ho0 (below_size (by repeat (first | (with_reducible first | exact HB.out | apply below_alloc | apply pw_below_drewN | apply below_drew1 | refine below_set ?_ GE1316.out | refine below_set ?_ GE1325.out) | exact HB.out))))
        have n2_ := Aside0.mk (blk_below (g := gb1316) (o := .cells #[.int .i64 t1311, .int .i64 t1312, .slice Ao11 t1313.length co11] 37 (0, 0)) (by (with_reducible repeat (first | refine blk_drewN ?_ _ | refine blk_drew ?_ | refine blk_alloc ?_ _)); exact BK1316.out) hb)
        have n3_ := Aside0.mk (blk_below (g := gb1325) (o := .cells #[.int .i64 0, .int .i64 0, .slice none 0 0] 37 (0, 0)) (by (with_reducible repeat (first | refine blk_drewN ?_ _ | refine blk_drew ?_ | refine blk_alloc ?_ _)); exact BK1325.out) hb)
        have n4_ := Aside0.mk (below_step (by repeat (first | (with_reducible first | exact HB.out | apply below_alloc | apply pw_below_drewN | apply below_drew1 | refine below_set ?_ GE1316.out | refine below_set ?_ GE1325.out) | exact HB.out)) hb)
        clear HO1315
        clear BK1316
        clear BK1325
        clear HB
        have HO1315 := n0_
        have HO1319 := n1_
        have BK1316 := n2_
        have BK1325 := n3_
        have HB := n4_
        clear n0_ n1_ n2_ n3_ n4_
        (try clear hb)
        (try clear hb2)
        (try clear hk)
        (try clear hi)
        (try clear ho0)
        obtain ⟨Ao16, co16, eo16⟩ := Kd.R_slice HO1319.out
        (first | subst eo16 | (injection eo16 with f1_ f2_ f3_; have f4_ := f1_.symm; have f5_ := f3_.symm; clear f1_ f2_ f3_; subst f4_; subst f5_))
        refine hK.out _ _ ⟨(blk_cell BK1316.out 0).trans rfl, (blk_cell BK1316.out 1).trans rfl, (blk_cell BK1316.out 2).trans rfl⟩ (fun hHeld => ?_)
        clear hK K
        refine norm_ (a' := ?_) ?_ ?_
        rotate_left
        · show Act.put _ (some 13) _ = _
          simp only [Act.put, List.setIfInBounds_toArray, List.set_cons_zero, List.set_cons_succ, i64_w, i32_w]
          rfl
        refine one_ (i := 3) (N := some 15) #[true, true, true, true, true, false] rfl rfl (by kernel_rfl) (by decide) (fun K hK => ?_)
        refine goes_ Try.func93 (by kernel_rfl) rfl #[.slice Ao16 t1317.length co16, .agg #[.int .i64 t1311, .int .i64 t1312, .slice Ao11 t1313.length co11]] (by rfl) rfl rfl (by (try simp only [List.map_toArray, List.map_cons, List.map_nil]); first | done | rfl | (simp only [List.length_drop, List.length_take]; rfl)) ?_
        with_reducible refine (spec_MakeLike.calls k _ _ t1317 t1311 t1312 _ _ t1313 t1320 t1321 t1322 _ ?side1 ?side2 ?side3 ?side4 A5.out).mono ?_
        (case side1 => repeat (first | exact (Kd.R_reads' HO1319.out).2.2 | (with_reducible refine Kd.C_alloc ?_ _) | (with_reducible refine Kd.C_drewN ?_ _) | (with_reducible refine Kd.C_drew ?_)))
        (case side2 => exact (Kd.R_reads' HO1319.out).2.1)
        (case side3 => repeat (first | exact (Kd.R_reads' HO1315.out).2.2 | (with_reducible refine Kd.C_alloc ?_ _) | (with_reducible refine Kd.C_drewN ?_ _) | (with_reducible refine Kd.C_drew ?_)))
        (case side4 => exact (Kd.R_reads' HO1315.out).2.1)
        rintro e w17 ⟨v1323, rfl, ho0, hb⟩
        refine ⟨_, rfl, ?_⟩
        have n0_ := Aside0.mk (Kd.R_elder' (by (with_reducible repeat (first | apply Kd.R_alloc | apply Kd.R_drewN | apply Kd.R_drew)); exact HO1315.out) (Kd.R_base ho0) hb)
        have n1_ := Aside0.mk (Kd.R_below (by (with_reducible repeat (first | apply Kd.R_alloc | apply Kd.R_drewN | apply Kd.R_drew)); exact HO1319.out) hb)
        have n2_ := Aside0.mk (Kd.R_lower (Kd.R_new' ho0 (Kd.R_lt (by (with_reducible repeat (first | apply Kd.R_alloc | apply Kd.R_drewN | apply Kd.R_drew)); exact HO1315.out))) (below_size (by repeat (first | (with_reducible first | exact HB.out | apply below_alloc | apply pw_below_drewN | apply below_drew1 | refine below_set ?_ GE1316.out | refine below_set ?_ GE1325.out) | exact HB.out))))
        have n3_ := Aside0.mk (blk_below (g := gb1316) (o := .cells #[.int .i64 t1311, .int .i64 t1312, .slice Ao11 t1313.length co11] 37 (0, 0)) (by (with_reducible repeat (first | refine blk_drewN ?_ _ | refine blk_drew ?_ | refine blk_alloc ?_ _)); exact BK1316.out) hb)
        have n4_ := Aside0.mk (blk_below (g := gb1325) (o := .cells #[.int .i64 0, .int .i64 0, .slice none 0 0] 37 (0, 0)) (by (with_reducible repeat (first | refine blk_drewN ?_ _ | refine blk_drew ?_ | refine blk_alloc ?_ _)); exact BK1325.out) hb)
        have n5_ := Aside0.mk (below_step (by repeat (first | (with_reducible first | exact HB.out | apply below_alloc | apply pw_below_drewN | apply below_drew1 | refine below_set ?_ GE1316.out | refine below_set ?_ GE1325.out) | exact HB.out)) hb)
        clear HO1315
        clear HO1319
        clear BK1316
        clear BK1325
        clear HB
        have HO1315 := n0_
        have HO1319 := n1_
        have HO1324 := n2_
        have BK1316 := n3_
        have BK1325 := n4_
        have HB := n5_
        clear n0_ n1_ n2_ n3_ n4_ n5_
        (try clear hb)
        (try clear hb2)
        (try clear hk)
        (try clear hi)
        (try clear ho0)
        refine hK.out _ _ ⟨(blk_cell BK1316.out 0).trans rfl, (blk_cell BK1316.out 1).trans rfl, (blk_cell BK1316.out 2).trans rfl⟩ (fun hHeld => ?_)
        clear hK K
        refine norm_ (a' := ?_) ?_ ?_
        rotate_left
        · show Act.put _ (some 15) _ = _
          simp only [Act.put, List.setIfInBounds_toArray, List.set_cons_zero, List.set_cons_succ, i64_w, i32_w]
          rfl
        exact norm_ (by simp only [putAll, Act.put, List.setIfInBounds_toArray, List.set_cons_zero, List.set_cons_succ]) (hCont (.slice Ao16 t1317.length co16, v1323, gb1325) _ ⟨hHeld, (by (with_reducible repeat (first | apply Kd.R_alloc | apply Kd.R_drewN | apply Kd.R_drew)); exact Kd.R_mono HO1315.out (fun _ hk => hk.2)), (by (with_reducible repeat (first | apply Kd.R_alloc | apply Kd.R_drewN | apply Kd.R_drew)); exact HO1319.out), (by (with_reducible repeat (first | apply Kd.R_alloc | apply Kd.R_drewN | apply Kd.R_drew)); exact Kd.R_mono HO1324.out (fun _ hk => hk.2)), (by (with_reducible repeat (first | refine blk_drewN ?_ _ | refine blk_drew ?_ | refine blk_alloc ?_ _)); exact BK1316.out), (by (with_reducible repeat (first | refine blk_drewN ?_ _ | refine blk_drew ?_ | refine blk_alloc ?_ _)); exact BK1325.out), GW1325.out, GE1325.out, NB1316_1325.out, NB1325_1316.out, (by repeat (first | (with_reducible first | exact HB.out | apply below_alloc | apply pw_below_drewN | apply below_drew1 | refine below_set ?_ GE1316.out | refine below_set ?_ GE1325.out) | exact HB.out))⟩)
    rintro ⟨v1318, v1323, gb1325⟩ w18 ⟨hS_, h0_, h1_, h2_, h3_, h4_, h5_, h6_, h7_, h8_, h9_⟩
    have n0_ : Aside0 (Kd.R (Kd.int .i64) 3 w18 w.heap.size (fun k_ => some k_ ≠ (v1323 : Value).ownBlock) (.slice Ao11 t1313.length co11) t1313) := ⟨h0_⟩
    have n1_ : Aside0 (Kd.R (Kd.int .u8) 5 w18 w.heap.size (fun _ => True) v1318 t1317) := ⟨h1_⟩
    have n2_ : Aside0 (Kd.R (Kd.int .i64) 3 w18 w.heap.size (fun k_ => some k_ ≠ (.slice Ao11 t1313.length co11 : Value).ownBlock) v1323 t1322) := ⟨h2_⟩
    have n3_ : Aside0 (w18.heap[gb1316]? = some (.cells #[.int .i64 t1311, .int .i64 t1312, .slice Ao11 t1313.length co11] 37 (0, 0))) := ⟨h3_⟩
    have n4_ : Aside0 (w18.heap[gb1325]? = some (.cells #[.int .i64 0, .int .i64 0, .slice none 0 0] 37 (0, 0))) := ⟨h4_⟩
    have n5_ : Aside0 (w.heap.size ≤ gb1325) := ⟨h5_⟩
    have n6_ : Aside0 (w.heap.size ≤ gb1325) := ⟨h6_⟩
    have n7_ : Aside0 (gb1316 ≠ gb1325) := ⟨h7_⟩
    have n8_ : Aside0 (gb1325 ≠ gb1316) := ⟨h8_⟩
    have n9_ : Aside0 (Below w.heap.size w w18) := ⟨h9_⟩
    clear HO1315
    clear BK1316
    clear HB
    clear h0_ h1_ h2_ h3_ h4_ h5_ h6_ h7_ h8_ h9_
    have HO1315 := n0_
    have HO1319 := n1_
    have HO1324 := n2_
    have BK1316 := n3_
    have BK1325 := n4_
    have GW1325 := n5_
    have GE1325 := n6_
    have NB1316_1325 := n7_
    have NB1325_1316 := n8_
    have HB := n9_
    clear n0_ n1_ n2_ n3_ n4_ n5_ n6_ n7_ n8_ n9_
    have hHeld : w18.cell? ⟨gb1316, 0, none⟩ = some (.int .i64 t1311) ∧ w18.cell? ⟨gb1316, 1, none⟩ = some (.int .i64 t1312) ∧ w18.cell? ⟨gb1316, 2, none⟩ = some (.slice Ao11 t1313.length co11) := hS_
    obtain ⟨Ao21, co21, eo21⟩ := Kd.R_slice HO1324.out
    (first | subst eo21 | (injection eo21 with f1_ f2_ f3_; have f4_ := f1_.symm; have f5_ := f3_.symm; clear f1_ f2_ f3_; subst f4_; subst f5_))
    refine norm_ (a' := ?_) ?_ ?_
    rotate_left
    · simp only [putAll, Act.put, List.setIfInBounds_toArray, List.set_cons_zero, List.set_cons_succ]
      rfl
    refine one_ (i := 5) (N := none) #[true, true, true, true, true, true] rfl rfl (by kernel_rfl) (by decide) (fun K hK => ?_)
    have hs19 : w18.cell? ⟨gb1325, 0, none⟩ = some (.int .i64 0) := (blk_cell BK1325.out 0).trans rfl
    have hfs19 := blk_frozen BK1325.out 0
    have hns19_0 := NB1316_1325.out
    have hms19_0 := NB1325_1316.out
    have hs20 : w18.cell? ⟨gb1325, 1, none⟩ = some (.int .i64 0) := (blk_cell BK1325.out 1).trans rfl
    have hfs20 := blk_frozen BK1325.out 1
    have hns20_0 := NB1316_1325.out
    have hms20_0 := NB1325_1316.out
    have hs22 : w18.cell? ⟨gb1325, 2, none⟩ = some (.slice none 0 0) := (blk_cell BK1325.out 2).trans rfl
    have hfs22 := blk_frozen BK1325.out 2
    have hns22_0 := NB1316_1325.out
    have hms22_0 := NB1325_1316.out
    refine skip_ (w1 := ?_) (by rfl) rfl ?_ ?_
    rotate_left
    · go_simp
      rfl
    refine hK.out _ _ ⟨((cell_far (p := ⟨gb1325, _, none⟩) NB1316_1325.out _).trans (((cell_far (p := ⟨gb1325, _, none⟩) NB1316_1325.out _).trans (((cell_far (p := ⟨gb1325, _, none⟩) NB1316_1325.out _).trans (hHeld.1)))))), ((cell_far (p := ⟨gb1325, _, none⟩) NB1316_1325.out _).trans (((cell_far (p := ⟨gb1325, _, none⟩) NB1316_1325.out _).trans (((cell_far (p := ⟨gb1325, _, none⟩) NB1316_1325.out _).trans (hHeld.2.1)))))), ((cell_far (p := ⟨gb1325, _, none⟩) NB1316_1325.out _).trans (((cell_far (p := ⟨gb1325, _, none⟩) NB1316_1325.out _).trans (((cell_far (p := ⟨gb1325, _, none⟩) NB1316_1325.out _).trans (hHeld.2.2))))))⟩ (fun hHeld => ?_)
    clear hK K
    refine done_ (by kernel_rfl) ?_
    have hnb23 := NB1316_1325.out
    have hnc23 := NB1325_1316.out
    have hcz24_0 : w18.cell? ⟨gb1316, 0, none⟩ = some (.int .i64 t1311) := (blk_cell BK1316.out 0).trans rfl
    have hcz24_1 : w18.cell? ⟨gb1316, 1, none⟩ = some (.int .i64 t1312) := (blk_cell BK1316.out 1).trans rfl
    have hcz24_2 : w18.cell? ⟨gb1316, 2, none⟩ = some (.slice Ao11 t1313.length co11) := (blk_cell BK1316.out 2).trans rfl
    have hfz24_0 := blk_frozen BK1316.out 0
    have hfz24_1 := blk_frozen BK1316.out 1
    have hfz24_2 := blk_frozen BK1316.out 2
    have hcz25_0 : w18.cell? ⟨gb1325, 0, none⟩ = some (.int .i64 0) := (blk_cell BK1325.out 0).trans rfl
    have hcz25_1 : w18.cell? ⟨gb1325, 1, none⟩ = some (.int .i64 0) := (blk_cell BK1325.out 1).trans rfl
    have hcz25_2 : w18.cell? ⟨gb1325, 2, none⟩ = some (.slice none 0 0) := (blk_cell BK1325.out 2).trans rfl
    have hfz25_0 := blk_frozen BK1325.out 0
    have hfz25_1 := blk_frozen BK1325.out 1
    have hfz25_2 := blk_frozen BK1325.out 2
    go_upto_region 6 with (first | ((with_reducible refine gate_callee (f := 94) rfl ?_); refine goesL_ (some 19) rfl rfl Try.func94 (by kernel_rfl) rfl #[.agg #[.int .i64 t1311, .int .i64 t1312, .slice Ao11 t1313.length co11], .agg #[.int .i64 t1320, .int .i64 t1321, .slice Ao21 t1322.length co21]] rfl (by (try simp only [List.map_toArray, List.map_cons, List.map_nil]); first | done | rfl | (simp only [List.length_drop, List.length_take]; rfl)) ?_; (with_reducible refine (impl_AddPictures.calls t1311 t1312 _ _ t1313 t1320 t1321 _ _ t1322 t1326 t1327 t1328 t1331 _ ?side1 ?side2 ?side3 ?side4 A6.out).mono ?_); (case side1 => refine (Kd.R_reads' (e := 3) (base := w.heap.size) (ok := fun k_ => some k_ ≠ (.slice Ao21 t1322.length co21 : Value).ownBlock) (n := t1313.length) (c := co11) ?_).2.2; exact (by (with_reducible repeat (first | apply Kd.R_alloc | apply Kd.R_drewN | apply Kd.R_drew)); exact (Kd.R_mono (Kd.R_far (p := ⟨gb1325, 2, none⟩) (Kd.R_far (p := ⟨gb1325, 1, none⟩) (Kd.R_far (p := ⟨gb1325, 0, none⟩) (Kd.R_types HO1315.out BK1325.out (by decide)) (fun _ hk => hk.2) (.int .i64 t1320)) (fun _ hk => hk.2) (.int .i64 t1321)) (fun _ hk => hk.2) (.slice Ao21 t1322.length co21)) (fun _ h_ => h_.1)))); (case side2 => exact (Kd.R_reads' HO1315.out).2.1); (case side3 => refine (Kd.R_reads' (e := 3) (base := w.heap.size) (ok := fun k_ => some k_ ≠ (.slice Ao11 t1313.length co11 : Value).ownBlock) (n := t1322.length) (c := co21) ?_).2.2; exact (by (with_reducible repeat (first | apply Kd.R_alloc | apply Kd.R_drewN | apply Kd.R_drew)); exact (Kd.R_mono (Kd.R_far (p := ⟨gb1325, 2, none⟩) (Kd.R_far (p := ⟨gb1325, 1, none⟩) (Kd.R_far (p := ⟨gb1325, 0, none⟩) (Kd.R_types HO1324.out BK1325.out (by decide)) (fun _ hk => hk.2) (.int .i64 t1320)) (fun _ hk => hk.2) (.int .i64 t1321)) (fun _ hk => hk.2) (.slice Ao21 t1322.length co21)) (fun _ h_ => h_.1)))); (case side4 => exact (Kd.R_reads' HO1324.out).2.1); rintro e w26 ⟨v1329, rfl, ho0, hb⟩; refine ⟨_, rfl, ?_⟩; have n0_ := Aside0.mk (Kd.R_elder' (by (with_reducible repeat (first | apply Kd.R_alloc | apply Kd.R_drewN | apply Kd.R_drew)); exact (Kd.R_mono (Kd.R_far (p := ⟨gb1325, 2, none⟩) (Kd.R_far (p := ⟨gb1325, 1, none⟩) (Kd.R_far (p := ⟨gb1325, 0, none⟩) (Kd.R_types HO1315.out BK1325.out (by decide)) (fun _ hk => hk.2) (.int .i64 t1320)) (fun _ hk => hk.2) (.int .i64 t1321)) (fun _ hk => hk.2) (.slice Ao21 t1322.length co21)) (fun _ h_ => h_.1))) (Kd.R_base ho0) hb); have n1_ := Aside0.mk (Kd.R_below (by (with_reducible repeat (first | apply Kd.R_alloc | apply Kd.R_drewN | apply Kd.R_drew)); exact (Kd.R_mono (Kd.R_far (p := ⟨gb1325, 2, none⟩) (Kd.R_far (p := ⟨gb1325, 1, none⟩) (Kd.R_far (p := ⟨gb1325, 0, none⟩) (Kd.R_types HO1319.out BK1325.out (by decide)) (fun _ hk => hk.2) (.int .i64 t1320)) (fun _ hk => hk.2) (.int .i64 t1321)) (fun _ hk => hk.2) (.slice Ao21 t1322.length co21)) (fun _ h_ => h_.1))) hb); have n2_ := Aside0.mk (Kd.R_elder' (by (with_reducible repeat (first | apply Kd.R_alloc | apply Kd.R_drewN | apply Kd.R_drew)); exact (Kd.R_mono (Kd.R_far (p := ⟨gb1325, 2, none⟩) (Kd.R_far (p := ⟨gb1325, 1, none⟩) (Kd.R_far (p := ⟨gb1325, 0, none⟩) (Kd.R_types HO1324.out BK1325.out (by decide)) (fun _ hk => hk.2) (.int .i64 t1320)) (fun _ hk => hk.2) (.int .i64 t1321)) (fun _ hk => hk.2) (.slice Ao21 t1322.length co21)) (fun _ h_ => h_.1))) (Kd.R_base ho0) hb); have n3_ := Aside0.mk (Kd.R_lower (Kd.R_new' (Kd.R_new' ho0 (Kd.R_lt (by (with_reducible repeat (first | apply Kd.R_alloc | apply Kd.R_drewN | apply Kd.R_drew)); exact (Kd.R_mono (Kd.R_far (p := ⟨gb1325, 2, none⟩) (Kd.R_far (p := ⟨gb1325, 1, none⟩) (Kd.R_far (p := ⟨gb1325, 0, none⟩) (Kd.R_types HO1315.out BK1325.out (by decide)) (fun _ hk => hk.2) (.int .i64 t1320)) (fun _ hk => hk.2) (.int .i64 t1321)) (fun _ hk => hk.2) (.slice Ao21 t1322.length co21)) (fun _ h_ => h_.1))))) (Kd.R_lt (by (with_reducible repeat (first | apply Kd.R_alloc | apply Kd.R_drewN | apply Kd.R_drew)); exact (Kd.R_mono (Kd.R_far (p := ⟨gb1325, 2, none⟩) (Kd.R_far (p := ⟨gb1325, 1, none⟩) (Kd.R_far (p := ⟨gb1325, 0, none⟩) (Kd.R_types HO1324.out BK1325.out (by decide)) (fun _ hk => hk.2) (.int .i64 t1320)) (fun _ hk => hk.2) (.int .i64 t1321)) (fun _ hk => hk.2) (.slice Ao21 t1322.length co21)) (fun _ h_ => h_.1))))) (below_size (by repeat (first | (with_reducible first | exact HB.out | apply below_alloc | apply pw_below_drewN | apply below_drew1 | refine below_set ?_ GE1316.out | refine below_set ?_ GE1325.out) | exact HB.out)))); have n4_ := Aside0.mk (blk_below (g := gb1316) (o := .cells #[.int .i64 t1311, .int .i64 t1312, .slice Ao11 t1313.length co11] 37 (0, 0)) (by (with_reducible repeat (first | refine blk_drewN ?_ _ | refine blk_drew ?_ | refine blk_alloc ?_ _)); refine blk_far ?_ NB1316_1325.out _; (with_reducible repeat (first | refine blk_drewN ?_ _ | refine blk_drew ?_ | refine blk_alloc ?_ _)); refine blk_far ?_ NB1316_1325.out _; (with_reducible repeat (first | refine blk_drewN ?_ _ | refine blk_drew ?_ | refine blk_alloc ?_ _)); refine blk_far ?_ NB1316_1325.out _; (with_reducible repeat (first | refine blk_drewN ?_ _ | refine blk_drew ?_ | refine blk_alloc ?_ _)); exact BK1316.out) hb); have n5_ := Aside0.mk (blk_below (g := gb1325) (o := .cells #[.int .i64 t1320, .int .i64 t1321, .slice Ao21 t1322.length co21] 37 (0, 0)) (by (with_reducible repeat (first | refine blk_drewN ?_ _ | refine blk_drew ?_ | refine blk_alloc ?_ _)); refine blk_put (cs := #[.int .i64 t1320, .int .i64 t1321, .slice none 0 0]) ?_ 2 _ rfl; (with_reducible repeat (first | refine blk_drewN ?_ _ | refine blk_drew ?_ | refine blk_alloc ?_ _)); refine blk_put (cs := #[.int .i64 t1320, .int .i64 0, .slice none 0 0]) ?_ 1 _ rfl; (with_reducible repeat (first | refine blk_drewN ?_ _ | refine blk_drew ?_ | refine blk_alloc ?_ _)); refine blk_put (cs := #[.int .i64 0, .int .i64 0, .slice none 0 0]) ?_ 0 _ rfl; (with_reducible repeat (first | refine blk_drewN ?_ _ | refine blk_drew ?_ | refine blk_alloc ?_ _)); exact BK1325.out) hb); have n6_ := Aside0.mk (below_step (by repeat (first | (with_reducible first | exact HB.out | apply below_alloc | apply pw_below_drewN | apply below_drew1 | refine below_set ?_ GE1316.out | refine below_set ?_ GE1325.out) | exact HB.out)) hb); clear HO1315; clear HO1319; clear HO1324; clear BK1316; clear BK1325; clear HB; have HO1315 := n0_; have HO1319 := n1_; have HO1324 := n2_; have HO1330 := n3_; have BK1316 := n4_; have BK1325 := n5_; have HB := n6_; clear n0_ n1_ n2_ n3_ n4_ n5_ n6_; (try clear hb); (try clear hb2); (try clear hk); (try clear hi); (try clear ho0)) | ((with_reducible refine gate_dst (N := 5) rfl ?_); refine box_event ?hg (N := 5) ?hd (cs := #[.int .i64 0, .int .i64 0, .slice none 0 0]) (t := 37) ?hr ?_; (case hd => rfl); (case hg => rfl); (case hr => first | (go_simp; done) | (go_simp; rfl)); intro gb1332 hg w27 hbox hb; have n0_ := Aside0.mk (Kd.R_below (by (with_reducible repeat (first | apply Kd.R_alloc | apply Kd.R_drewN | apply Kd.R_drew)); exact HO1315.out) hb); have n1_ := Aside0.mk (Kd.R_below (by (with_reducible repeat (first | apply Kd.R_alloc | apply Kd.R_drewN | apply Kd.R_drew)); exact HO1319.out) hb); have n2_ := Aside0.mk (Kd.R_below (by (with_reducible repeat (first | apply Kd.R_alloc | apply Kd.R_drewN | apply Kd.R_drew)); exact HO1324.out) hb); have n3_ := Aside0.mk (Kd.R_below (by (with_reducible repeat (first | apply Kd.R_alloc | apply Kd.R_drewN | apply Kd.R_drew)); exact HO1330.out) hb); have n4_ := Aside0.mk (blk_below (g := gb1316) (o := .cells #[.int .i64 t1311, .int .i64 t1312, .slice Ao11 t1313.length co11] 37 (0, 0)) (by (with_reducible repeat (first | refine blk_drewN ?_ _ | refine blk_drew ?_ | refine blk_alloc ?_ _)); exact BK1316.out) hb); have n5_ := Aside0.mk (blk_below (g := gb1325) (o := .cells #[.int .i64 t1320, .int .i64 t1321, .slice Ao21 t1322.length co21] 37 (0, 0)) (by (with_reducible repeat (first | refine blk_drewN ?_ _ | refine blk_drew ?_ | refine blk_alloc ?_ _)); exact BK1325.out) hb); have n6_ := Aside0.mk (below_step (by repeat (first | (with_reducible first | exact HB.out | apply below_alloc | apply pw_below_drewN | apply below_drew1 | refine below_set ?_ GE1316.out | refine below_set ?_ GE1325.out) | exact HB.out)) hb); have n7_ := Aside0.mk (hbox); have n8_ := Aside0.mk ((by rw [hg]; exact (below_size (by repeat (first | (with_reducible first | exact HB.out | apply below_alloc | apply pw_below_drewN | apply below_drew1 | refine below_set ?_ GE1316.out | refine below_set ?_ GE1325.out) | exact HB.out))) : w.heap.size ≤ gb1332)); have n9_ := Aside0.mk ((by rw [hg]; exact (below_size (by repeat (first | (with_reducible first | exact HB.out | apply below_alloc | apply pw_below_drewN | apply below_drew1 | refine below_set ?_ GE1316.out | refine below_set ?_ GE1325.out) | exact HB.out))) : w.heap.size ≤ gb1332)); have n10_ := Aside0.mk ((by rw [hg]; exact Nat.ne_of_lt (blk_lt (g := gb1316) (o := .cells #[.int .i64 t1311, .int .i64 t1312, .slice Ao11 t1313.length co11] 37 (0, 0)) (by (with_reducible repeat (first | refine blk_drewN ?_ _ | refine blk_drew ?_ | refine blk_alloc ?_ _)); exact BK1316.out)) : gb1316 ≠ gb1332)); have n11_ := Aside0.mk ((by rw [hg]; exact Nat.ne_of_gt (blk_lt (g := gb1316) (o := .cells #[.int .i64 t1311, .int .i64 t1312, .slice Ao11 t1313.length co11] 37 (0, 0)) (by (with_reducible repeat (first | refine blk_drewN ?_ _ | refine blk_drew ?_ | refine blk_alloc ?_ _)); exact BK1316.out)) : gb1332 ≠ gb1316)); have n12_ := Aside0.mk ((by rw [hg]; exact Nat.ne_of_lt (blk_lt (g := gb1325) (o := .cells #[.int .i64 t1320, .int .i64 t1321, .slice Ao21 t1322.length co21] 37 (0, 0)) (by (with_reducible repeat (first | refine blk_drewN ?_ _ | refine blk_drew ?_ | refine blk_alloc ?_ _)); exact BK1325.out)) : gb1325 ≠ gb1332)); have n13_ := Aside0.mk ((by rw [hg]; exact Nat.ne_of_gt (blk_lt (g := gb1325) (o := .cells #[.int .i64 t1320, .int .i64 t1321, .slice Ao21 t1322.length co21] 37 (0, 0)) (by (with_reducible repeat (first | refine blk_drewN ?_ _ | refine blk_drew ?_ | refine blk_alloc ?_ _)); exact BK1325.out)) : gb1332 ≠ gb1325)); clear HO1315; clear HO1319; clear HO1324; clear HO1330; clear BK1316; clear BK1325; clear HB; have HO1315 := n0_; have HO1319 := n1_; have HO1324 := n2_; have HO1330 := n3_; have BK1316 := n4_; have BK1325 := n5_; have HB := n6_; have BK1332 := n7_; have GW1332 := n8_; have GE1332 := n9_; have NB1316_1332 := n10_; have NB1332_1316 := n11_; have NB1325_1332 := n12_; have NB1332_1325 := n13_; clear n0_ n1_ n2_ n3_ n4_ n5_ n6_ n7_ n8_ n9_ n10_ n11_ n12_ n13_; clear hb hbox hg; have hnb28 := NB1332_1316.out; have hnc28 := NB1316_1332.out; have hnb29 := NB1332_1325.out; have hnc29 := NB1325_1332.out; have hcz30_0 : w27.cell? ⟨gb1332, 0, none⟩ = some (.int .i64 0) := (blk_cell BK1332.out 0).trans rfl; have hcz30_1 : w27.cell? ⟨gb1332, 1, none⟩ = some (.int .i64 0) := (blk_cell BK1332.out 1).trans rfl; have hcz30_2 : w27.cell? ⟨gb1332, 2, none⟩ = some (.slice none 0 0) := (blk_cell BK1332.out 2).trans rfl; have hfz30_0 := blk_frozen BK1332.out 0; have hfz30_1 := blk_frozen BK1332.out 1; have hfz30_2 := blk_frozen BK1332.out 2; obtain ⟨Ao31, co31, eo31⟩ := Kd.R_slice HO1330.out; subst eo31))
    (try simp only [Act.put, List.setIfInBounds_toArray, List.set_cons_zero, List.set_cons_succ])
    go_cut [35] (fun v35 wc => ∃ (kq : Nat) (x35_6 : Bool), v35 = .bool x35_6 ∧ Aside0 (laws_FnCovered.j0 kq x35_6 t1311 t1312 t1313 t1326 t1327 t1328 = some r) ∧ Aside0 (kq ≤ k) ∧ Aside0 (Kd.R (Kd.int .i64) 3 wc w.heap.size (fun k_ => some k_ ≠ ((.slice Ao21 t1322.length co21) : Value).ownBlock ∧ some k_ ≠ ((.slice Ao31 t1328.length co31) : Value).ownBlock) (.slice Ao11 t1313.length co11) t1313) ∧ Aside0 (Kd.R (Kd.int .i64) 3 wc w.heap.size (fun k_ => some k_ ≠ ((.slice Ao11 t1313.length co11) : Value).ownBlock ∧ some k_ ≠ ((.slice Ao31 t1328.length co31) : Value).ownBlock) (.slice Ao21 t1322.length co21) t1322) ∧ Aside0 (Kd.R (Kd.int .i64) 3 wc w.heap.size (fun k_ => some k_ ≠ ((.slice Ao11 t1313.length co11) : Value).ownBlock ∧ some k_ ≠ ((.slice Ao21 t1322.length co21) : Value).ownBlock) (.slice Ao31 t1328.length co31) t1328) ∧ Aside0 (wc.heap[gb1316]? = some (.cells #[.int .i64 t1311, .int .i64 t1312, (.slice Ao11 t1313.length co11)] 37 (0, 0))) ∧ Aside0 (wc.heap[gb1325]? = some (.cells #[.int .i64 t1320, .int .i64 t1321, (.slice Ao21 t1322.length co21)] 37 (0, 0))) ∧ Aside0 (wc.heap[gb1332]? = some (.cells #[.int .i64 t1326, .int .i64 t1327, (.slice Ao31 t1328.length co31)] 37 (0, 0))) ∧ Aside0 (Below w.heap.size w wc))
    case first =>
      have H := HC7.out
      clear HC7
      by_cases c32 : t1331 = true
      · subst c32
        have H1 : ((impl_CoversPicture.f k t1326 t1327 t1328 t1311 t1312 t1313).bind fun t1333 => (if t1333 = true then ((impl_CoversPicture.f k t1326 t1327 t1328 t1320 t1321 t1322).bind fun t1334 => (laws_FnCovered.j0 k (!t1334) t1311 t1312 t1313 t1326 t1327 t1328)) else (laws_FnCovered.j0 k true t1311 t1312 t1313 t1326 t1327 t1328))) = some r := by rw [if_pos rfl] at H; exact H
        clear H
        have H := H1
        clear H1
        replace H := Option.bind_eq_some_iff.mp H
        obtain ⟨t1333, A330, H⟩ := H
        replace H : (if t1333 = true then ((impl_CoversPicture.f k t1326 t1327 t1328 t1320 t1321 t1322).bind fun t1334 => (laws_FnCovered.j0 k (!t1334) t1311 t1312 t1313 t1326 t1327 t1328)) else (laws_FnCovered.j0 k true t1311 t1312 t1313 t1326 t1327 t1328)) = some r := H
        have A33 := Aside0.mk A330
        clear A330
        by_cases c34 : t1333 = true
        · subst c34
          have H1 : ((impl_CoversPicture.f k t1326 t1327 t1328 t1320 t1321 t1322).bind fun t1334 => (laws_FnCovered.j0 k (!t1334) t1311 t1312 t1313 t1326 t1327 t1328)) = some r := by rw [if_pos rfl] at H; exact H
          clear H
          have H := H1
          clear H1
          replace H := Option.bind_eq_some_iff.mp H
          obtain ⟨t1334, A350, H⟩ := H
          replace H : (laws_FnCovered.j0 k (!t1334) t1311 t1312 t1313 t1326 t1327 t1328) = some r := H
          have A35 := Aside0.mk A350
          clear A350
          have H' := Aside0.mk H
          clear H
          have hnb36 := NB1332_1316.out
          have hnc36 := NB1316_1332.out
          have hnb37 := NB1332_1325.out
          have hnc37 := NB1325_1332.out
          have hcz38_0 : w27.cell? ⟨gb1332, 0, none⟩ = some (.int .i64 0) := (blk_cell BK1332.out 0).trans rfl
          have hcz38_1 : w27.cell? ⟨gb1332, 1, none⟩ = some (.int .i64 0) := (blk_cell BK1332.out 1).trans rfl
          have hcz38_2 : w27.cell? ⟨gb1332, 2, none⟩ = some (.slice none 0 0) := (blk_cell BK1332.out 2).trans rfl
          have hfz38_0 := blk_frozen BK1332.out 0
          have hfz38_1 := blk_frozen BK1332.out 1
          have hfz38_2 := blk_frozen BK1332.out 2
          have hnb39 := NB1316_1325.out
          have hnc39 := NB1325_1316.out
          have hcz40_0 : w27.cell? ⟨gb1316, 0, none⟩ = some (.int .i64 t1311) := (blk_cell BK1316.out 0).trans rfl
          have hcz40_1 : w27.cell? ⟨gb1316, 1, none⟩ = some (.int .i64 t1312) := (blk_cell BK1316.out 1).trans rfl
          have hcz40_2 : w27.cell? ⟨gb1316, 2, none⟩ = some (.slice Ao11 t1313.length co11) := (blk_cell BK1316.out 2).trans rfl
          have hfz40_0 := blk_frozen BK1316.out 0
          have hfz40_1 := blk_frozen BK1316.out 1
          have hfz40_2 := blk_frozen BK1316.out 2
          go_wp2_with (first | (go_at_call 79; (with_reducible refine (impl_CoversPicture.calls k t1326 t1327 _ _ t1328 t1311 t1312 _ _ t1313 true _ ?side1 ?side2 ?side3 ?side4 A33.out).mono ?_); (case side1 => refine (Kd.R_reads' (e := 3) (base := w.heap.size) (ok := fun k_ => ((True ∧ some k_ ≠ (.slice Ao11 t1313.length co11 : Value).ownBlock) ∧ some k_ ≠ (.slice Ao21 t1322.length co21 : Value).ownBlock)) (n := t1328.length) (c := co31) ?_).2.2; exact (by (with_reducible repeat (first | apply Kd.R_alloc | apply Kd.R_drewN | apply Kd.R_drew)); exact (Kd.R_mono (Kd.R_far (p := ⟨gb1332, 2, none⟩) (Kd.R_far (p := ⟨gb1332, 1, none⟩) (Kd.R_far (p := ⟨gb1332, 0, none⟩) (Kd.R_types HO1330.out BK1332.out (by decide)) (fun _ hk => hk.2) (.int .i64 t1326)) (fun _ hk => hk.2) (.int .i64 t1327)) (fun _ hk => hk.2) (.slice Ao31 t1328.length co31)) (fun _ h_ => h_.1)))); (case side2 => exact (Kd.R_reads' HO1330.out).2.1); (case side3 => refine (Kd.R_reads' (e := 3) (base := w.heap.size) (ok := fun k_ => (some k_ ≠ (.slice Ao21 t1322.length co21 : Value).ownBlock ∧ some k_ ≠ (.slice Ao31 t1328.length co31 : Value).ownBlock)) (n := t1313.length) (c := co11) ?_).2.2; exact (by (with_reducible repeat (first | apply Kd.R_alloc | apply Kd.R_drewN | apply Kd.R_drew)); exact (Kd.R_mono (Kd.R_far (p := ⟨gb1332, 2, none⟩) (Kd.R_far (p := ⟨gb1332, 1, none⟩) (Kd.R_far (p := ⟨gb1332, 0, none⟩) (Kd.R_types HO1315.out BK1332.out (by decide)) (fun _ hk => hk.2) (.int .i64 t1326)) (fun _ hk => hk.2) (.int .i64 t1327)) (fun _ hk => hk.2) (.slice Ao31 t1328.length co31)) (fun _ h_ => h_.1)))); (case side4 => exact (Kd.R_reads' HO1315.out).2.1); rintro e w41 ⟨rfl, hb⟩; have n0_ := Aside0.mk (Kd.R_below (by (with_reducible repeat (first | apply Kd.R_alloc | apply Kd.R_drewN | apply Kd.R_drew)); exact (Kd.R_mono (Kd.R_far (p := ⟨gb1332, 2, none⟩) (Kd.R_far (p := ⟨gb1332, 1, none⟩) (Kd.R_far (p := ⟨gb1332, 0, none⟩) (Kd.R_types HO1315.out BK1332.out (by decide)) (fun _ hk => hk.2) (.int .i64 t1326)) (fun _ hk => hk.2) (.int .i64 t1327)) (fun _ hk => hk.2) (.slice Ao31 t1328.length co31)) (fun _ h_ => h_.1))) hb); have n1_ := Aside0.mk (Kd.R_below (by (with_reducible repeat (first | apply Kd.R_alloc | apply Kd.R_drewN | apply Kd.R_drew)); exact (Kd.R_mono (Kd.R_far (p := ⟨gb1332, 2, none⟩) (Kd.R_far (p := ⟨gb1332, 1, none⟩) (Kd.R_far (p := ⟨gb1332, 0, none⟩) (Kd.R_types HO1319.out BK1332.out (by decide)) (fun _ hk => hk.2) (.int .i64 t1326)) (fun _ hk => hk.2) (.int .i64 t1327)) (fun _ hk => hk.2) (.slice Ao31 t1328.length co31)) (fun _ h_ => h_.1))) hb); have n2_ := Aside0.mk (Kd.R_below (by (with_reducible repeat (first | apply Kd.R_alloc | apply Kd.R_drewN | apply Kd.R_drew)); exact (Kd.R_mono (Kd.R_far (p := ⟨gb1332, 2, none⟩) (Kd.R_far (p := ⟨gb1332, 1, none⟩) (Kd.R_far (p := ⟨gb1332, 0, none⟩) (Kd.R_types HO1324.out BK1332.out (by decide)) (fun _ hk => hk.2) (.int .i64 t1326)) (fun _ hk => hk.2) (.int .i64 t1327)) (fun _ hk => hk.2) (.slice Ao31 t1328.length co31)) (fun _ h_ => h_.1))) hb); have n3_ := Aside0.mk (Kd.R_below (by (with_reducible repeat (first | apply Kd.R_alloc | apply Kd.R_drewN | apply Kd.R_drew)); exact (Kd.R_mono (Kd.R_far (p := ⟨gb1332, 2, none⟩) (Kd.R_far (p := ⟨gb1332, 1, none⟩) (Kd.R_far (p := ⟨gb1332, 0, none⟩) (Kd.R_types HO1330.out BK1332.out (by decide)) (fun _ hk => hk.2) (.int .i64 t1326)) (fun _ hk => hk.2) (.int .i64 t1327)) (fun _ hk => hk.2) (.slice Ao31 t1328.length co31)) (fun _ h_ => h_.1))) hb); have n4_ := Aside0.mk (blk_below (g := gb1316) (o := .cells #[.int .i64 t1311, .int .i64 t1312, .slice Ao11 t1313.length co11] 37 (0, 0)) (by (with_reducible repeat (first | refine blk_drewN ?_ _ | refine blk_drew ?_ | refine blk_alloc ?_ _)); refine blk_far ?_ NB1316_1332.out _; (with_reducible repeat (first | refine blk_drewN ?_ _ | refine blk_drew ?_ | refine blk_alloc ?_ _)); refine blk_far ?_ NB1316_1332.out _; (with_reducible repeat (first | refine blk_drewN ?_ _ | refine blk_drew ?_ | refine blk_alloc ?_ _)); refine blk_far ?_ NB1316_1332.out _; (with_reducible repeat (first | refine blk_drewN ?_ _ | refine blk_drew ?_ | refine blk_alloc ?_ _)); exact BK1316.out) hb); have n5_ := Aside0.mk (blk_below (g := gb1325) (o := .cells #[.int .i64 t1320, .int .i64 t1321, .slice Ao21 t1322.length co21] 37 (0, 0)) (by (with_reducible repeat (first | refine blk_drewN ?_ _ | refine blk_drew ?_ | refine blk_alloc ?_ _)); refine blk_far ?_ NB1325_1332.out _; (with_reducible repeat (first | refine blk_drewN ?_ _ | refine blk_drew ?_ | refine blk_alloc ?_ _)); refine blk_far ?_ NB1325_1332.out _; (with_reducible repeat (first | refine blk_drewN ?_ _ | refine blk_drew ?_ | refine blk_alloc ?_ _)); refine blk_far ?_ NB1325_1332.out _; (with_reducible repeat (first | refine blk_drewN ?_ _ | refine blk_drew ?_ | refine blk_alloc ?_ _)); exact BK1325.out) hb); have n6_ := Aside0.mk (blk_below (g := gb1332) (o := .cells #[.int .i64 t1326, .int .i64 t1327, .slice Ao31 t1328.length co31] 37 (0, 0)) (by (with_reducible repeat (first | refine blk_drewN ?_ _ | refine blk_drew ?_ | refine blk_alloc ?_ _)); refine blk_put (cs := #[.int .i64 t1326, .int .i64 t1327, .slice none 0 0]) ?_ 2 _ rfl; (with_reducible repeat (first | refine blk_drewN ?_ _ | refine blk_drew ?_ | refine blk_alloc ?_ _)); refine blk_put (cs := #[.int .i64 t1326, .int .i64 0, .slice none 0 0]) ?_ 1 _ rfl; (with_reducible repeat (first | refine blk_drewN ?_ _ | refine blk_drew ?_ | refine blk_alloc ?_ _)); refine blk_put (cs := #[.int .i64 0, .int .i64 0, .slice none 0 0]) ?_ 0 _ rfl; (with_reducible repeat (first | refine blk_drewN ?_ _ | refine blk_drew ?_ | refine blk_alloc ?_ _)); exact BK1332.out) hb); have n7_ := Aside0.mk (below_step (by repeat (first | (with_reducible first | exact HB.out | apply below_alloc | apply pw_below_drewN | apply below_drew1 | refine below_set ?_ GE1316.out | refine below_set ?_ GE1325.out | refine below_set ?_ GE1332.out) | exact HB.out)) hb); clear HO1315; clear HO1319; clear HO1324; clear HO1330; clear BK1316; clear BK1325; clear BK1332; clear HB; have HO1315 := n0_; have HO1319 := n1_; have HO1324 := n2_; have HO1330 := n3_; have BK1316 := n4_; have BK1325 := n5_; have BK1332 := n6_; have HB := n7_; clear n0_ n1_ n2_ n3_ n4_ n5_ n6_ n7_; (try clear hb); (try clear hb2); (try clear hk); (try clear hi); have hcz42_0 : w41.cell? ⟨gb1332, 0, none⟩ = some (.int .i64 t1326) := (blk_cell BK1332.out 0).trans rfl; have hcz42_1 : w41.cell? ⟨gb1332, 1, none⟩ = some (.int .i64 t1327) := (blk_cell BK1332.out 1).trans rfl; have hcz42_2 : w41.cell? ⟨gb1332, 2, none⟩ = some (.slice Ao31 t1328.length co31) := (blk_cell BK1332.out 2).trans rfl; have hfz42_0 := blk_frozen BK1332.out 0; have hfz42_1 := blk_frozen BK1332.out 1; have hfz42_2 := blk_frozen BK1332.out 2; have hcz43_0 : w41.cell? ⟨gb1325, 0, none⟩ = some (.int .i64 t1320) := (blk_cell BK1325.out 0).trans rfl; have hcz43_1 : w41.cell? ⟨gb1325, 1, none⟩ = some (.int .i64 t1321) := (blk_cell BK1325.out 1).trans rfl; have hcz43_2 : w41.cell? ⟨gb1325, 2, none⟩ = some (.slice Ao21 t1322.length co21) := (blk_cell BK1325.out 2).trans rfl; have hfz43_0 := blk_frozen BK1325.out 0; have hfz43_1 := blk_frozen BK1325.out 1; have hfz43_2 := blk_frozen BK1325.out 2) | (go_at_call 79; (with_reducible refine (impl_CoversPicture.calls k t1326 t1327 _ _ t1328 t1320 t1321 _ _ t1322 t1334 _ ?side1 ?side2 ?side3 ?side4 A35.out).mono ?_); (case side1 => repeat (first | exact (Kd.R_reads' HO1330.out).2.2 | (with_reducible refine Kd.C_alloc ?_ _) | (with_reducible refine Kd.C_drewN ?_ _) | (with_reducible refine Kd.C_drew ?_))); (case side2 => exact (Kd.R_reads' HO1330.out).2.1); (case side3 => repeat (first | exact (Kd.R_reads' HO1324.out).2.2 | (with_reducible refine Kd.C_alloc ?_ _) | (with_reducible refine Kd.C_drewN ?_ _) | (with_reducible refine Kd.C_drew ?_))); (case side4 => exact (Kd.R_reads' HO1324.out).2.1); rintro e w44 ⟨rfl, hb⟩; have n0_ := Aside0.mk (Kd.R_below (by (with_reducible repeat (first | apply Kd.R_alloc | apply Kd.R_drewN | apply Kd.R_drew)); exact HO1315.out) hb); have n1_ := Aside0.mk (Kd.R_below (by (with_reducible repeat (first | apply Kd.R_alloc | apply Kd.R_drewN | apply Kd.R_drew)); exact HO1319.out) hb); have n2_ := Aside0.mk (Kd.R_below (by (with_reducible repeat (first | apply Kd.R_alloc | apply Kd.R_drewN | apply Kd.R_drew)); exact HO1324.out) hb); have n3_ := Aside0.mk (Kd.R_below (by (with_reducible repeat (first | apply Kd.R_alloc | apply Kd.R_drewN | apply Kd.R_drew)); exact HO1330.out) hb); have n4_ := Aside0.mk (blk_below (g := gb1316) (o := .cells #[.int .i64 t1311, .int .i64 t1312, .slice Ao11 t1313.length co11] 37 (0, 0)) (by (with_reducible repeat (first | refine blk_drewN ?_ _ | refine blk_drew ?_ | refine blk_alloc ?_ _)); exact BK1316.out) hb); have n5_ := Aside0.mk (blk_below (g := gb1325) (o := .cells #[.int .i64 t1320, .int .i64 t1321, .slice Ao21 t1322.length co21] 37 (0, 0)) (by (with_reducible repeat (first | refine blk_drewN ?_ _ | refine blk_drew ?_ | refine blk_alloc ?_ _)); exact BK1325.out) hb); have n6_ := Aside0.mk (blk_below (g := gb1332) (o := .cells #[.int .i64 t1326, .int .i64 t1327, .slice Ao31 t1328.length co31] 37 (0, 0)) (by (with_reducible repeat (first | refine blk_drewN ?_ _ | refine blk_drew ?_ | refine blk_alloc ?_ _)); exact BK1332.out) hb); have n7_ := Aside0.mk (below_step (by repeat (first | (with_reducible first | exact HB.out | apply below_alloc | apply pw_below_drewN | apply below_drew1 | refine below_set ?_ GE1316.out | refine below_set ?_ GE1325.out | refine below_set ?_ GE1332.out) | exact HB.out)) hb); clear HO1315; clear HO1319; clear HO1324; clear HO1330; clear BK1316; clear BK1325; clear BK1332; clear HB; have HO1315 := n0_; have HO1319 := n1_; have HO1324 := n2_; have HO1330 := n3_; have BK1316 := n4_; have BK1325 := n5_; have BK1332 := n6_; have HB := n7_; clear n0_ n1_ n2_ n3_ n4_ n5_ n6_ n7_; (try clear hb); (try clear hb2); (try clear hk); (try clear hi)))
          go_meet
          case rel => exact ⟨_, (!t1334), (by first | rfl | (simp; done) | (simp [*]; done)), H', ⟨by first | omega | exact Nat.le_refl _⟩, ⟨by (with_reducible repeat (first | apply Kd.R_alloc | apply Kd.R_drewN | apply Kd.R_drew)); exact HO1315.out⟩, ⟨by (with_reducible repeat (first | apply Kd.R_alloc | apply Kd.R_drewN | apply Kd.R_drew)); exact HO1324.out⟩, ⟨by (with_reducible repeat (first | apply Kd.R_alloc | apply Kd.R_drewN | apply Kd.R_drew)); exact Kd.R_mono HO1330.out (fun _ hk => ⟨hk.1.2, hk.2⟩)⟩, ⟨by (with_reducible repeat (first | refine blk_drewN ?_ _ | refine blk_drew ?_ | refine blk_alloc ?_ _)); exact BK1316.out⟩, ⟨by (with_reducible repeat (first | refine blk_drewN ?_ _ | refine blk_drew ?_ | refine blk_alloc ?_ _)); exact BK1325.out⟩, ⟨by (with_reducible repeat (first | refine blk_drewN ?_ _ | refine blk_drew ?_ | refine blk_alloc ?_ _)); exact BK1332.out⟩, ⟨by repeat (first | (with_reducible first | exact HB.out | apply below_alloc | apply pw_below_drewN | apply below_drew1 | refine below_set ?_ GE1316.out | refine below_set ?_ GE1325.out | refine below_set ?_ GE1332.out) | exact HB.out)⟩⟩
        · replace c34 := Bool.eq_false_iff.mpr c34
          subst c34
          have H1 : (laws_FnCovered.j0 k true t1311 t1312 t1313 t1326 t1327 t1328) = some r := by rw [if_neg (show ¬ (false = true) by decide)] at H; exact H
          clear H
          have H := H1
          clear H1
          have H' := Aside0.mk H
          clear H
          have hnb45 := NB1332_1316.out
          have hnc45 := NB1316_1332.out
          have hnb46 := NB1332_1325.out
          have hnc46 := NB1325_1332.out
          have hcz47_0 : w27.cell? ⟨gb1332, 0, none⟩ = some (.int .i64 0) := (blk_cell BK1332.out 0).trans rfl
          have hcz47_1 : w27.cell? ⟨gb1332, 1, none⟩ = some (.int .i64 0) := (blk_cell BK1332.out 1).trans rfl
          have hcz47_2 : w27.cell? ⟨gb1332, 2, none⟩ = some (.slice none 0 0) := (blk_cell BK1332.out 2).trans rfl
          have hfz47_0 := blk_frozen BK1332.out 0
          have hfz47_1 := blk_frozen BK1332.out 1
          have hfz47_2 := blk_frozen BK1332.out 2
          have hnb48 := NB1316_1325.out
          have hnc48 := NB1325_1316.out
          have hcz49_0 : w27.cell? ⟨gb1316, 0, none⟩ = some (.int .i64 t1311) := (blk_cell BK1316.out 0).trans rfl
          have hcz49_1 : w27.cell? ⟨gb1316, 1, none⟩ = some (.int .i64 t1312) := (blk_cell BK1316.out 1).trans rfl
          have hcz49_2 : w27.cell? ⟨gb1316, 2, none⟩ = some (.slice Ao11 t1313.length co11) := (blk_cell BK1316.out 2).trans rfl
          have hfz49_0 := blk_frozen BK1316.out 0
          have hfz49_1 := blk_frozen BK1316.out 1
          have hfz49_2 := blk_frozen BK1316.out 2
          go_wp2_with (first | (go_at_call 79; (with_reducible refine (impl_CoversPicture.calls k t1326 t1327 _ _ t1328 t1311 t1312 _ _ t1313 false _ ?side1 ?side2 ?side3 ?side4 A33.out).mono ?_); (case side1 => refine (Kd.R_reads' (e := 3) (base := w.heap.size) (ok := fun k_ => ((True ∧ some k_ ≠ (.slice Ao11 t1313.length co11 : Value).ownBlock) ∧ some k_ ≠ (.slice Ao21 t1322.length co21 : Value).ownBlock)) (n := t1328.length) (c := co31) ?_).2.2; exact (by (with_reducible repeat (first | apply Kd.R_alloc | apply Kd.R_drewN | apply Kd.R_drew)); exact (Kd.R_mono (Kd.R_far (p := ⟨gb1332, 2, none⟩) (Kd.R_far (p := ⟨gb1332, 1, none⟩) (Kd.R_far (p := ⟨gb1332, 0, none⟩) (Kd.R_types HO1330.out BK1332.out (by decide)) (fun _ hk => hk.2) (.int .i64 t1326)) (fun _ hk => hk.2) (.int .i64 t1327)) (fun _ hk => hk.2) (.slice Ao31 t1328.length co31)) (fun _ h_ => h_.1)))); (case side2 => exact (Kd.R_reads' HO1330.out).2.1); (case side3 => refine (Kd.R_reads' (e := 3) (base := w.heap.size) (ok := fun k_ => (some k_ ≠ (.slice Ao21 t1322.length co21 : Value).ownBlock ∧ some k_ ≠ (.slice Ao31 t1328.length co31 : Value).ownBlock)) (n := t1313.length) (c := co11) ?_).2.2; exact (by (with_reducible repeat (first | apply Kd.R_alloc | apply Kd.R_drewN | apply Kd.R_drew)); exact (Kd.R_mono (Kd.R_far (p := ⟨gb1332, 2, none⟩) (Kd.R_far (p := ⟨gb1332, 1, none⟩) (Kd.R_far (p := ⟨gb1332, 0, none⟩) (Kd.R_types HO1315.out BK1332.out (by decide)) (fun _ hk => hk.2) (.int .i64 t1326)) (fun _ hk => hk.2) (.int .i64 t1327)) (fun _ hk => hk.2) (.slice Ao31 t1328.length co31)) (fun _ h_ => h_.1)))); (case side4 => exact (Kd.R_reads' HO1315.out).2.1); rintro e w50 ⟨rfl, hb⟩; have n0_ := Aside0.mk (Kd.R_below (by (with_reducible repeat (first | apply Kd.R_alloc | apply Kd.R_drewN | apply Kd.R_drew)); exact (Kd.R_mono (Kd.R_far (p := ⟨gb1332, 2, none⟩) (Kd.R_far (p := ⟨gb1332, 1, none⟩) (Kd.R_far (p := ⟨gb1332, 0, none⟩) (Kd.R_types HO1315.out BK1332.out (by decide)) (fun _ hk => hk.2) (.int .i64 t1326)) (fun _ hk => hk.2) (.int .i64 t1327)) (fun _ hk => hk.2) (.slice Ao31 t1328.length co31)) (fun _ h_ => h_.1))) hb); have n1_ := Aside0.mk (Kd.R_below (by (with_reducible repeat (first | apply Kd.R_alloc | apply Kd.R_drewN | apply Kd.R_drew)); exact (Kd.R_mono (Kd.R_far (p := ⟨gb1332, 2, none⟩) (Kd.R_far (p := ⟨gb1332, 1, none⟩) (Kd.R_far (p := ⟨gb1332, 0, none⟩) (Kd.R_types HO1319.out BK1332.out (by decide)) (fun _ hk => hk.2) (.int .i64 t1326)) (fun _ hk => hk.2) (.int .i64 t1327)) (fun _ hk => hk.2) (.slice Ao31 t1328.length co31)) (fun _ h_ => h_.1))) hb); have n2_ := Aside0.mk (Kd.R_below (by (with_reducible repeat (first | apply Kd.R_alloc | apply Kd.R_drewN | apply Kd.R_drew)); exact (Kd.R_mono (Kd.R_far (p := ⟨gb1332, 2, none⟩) (Kd.R_far (p := ⟨gb1332, 1, none⟩) (Kd.R_far (p := ⟨gb1332, 0, none⟩) (Kd.R_types HO1324.out BK1332.out (by decide)) (fun _ hk => hk.2) (.int .i64 t1326)) (fun _ hk => hk.2) (.int .i64 t1327)) (fun _ hk => hk.2) (.slice Ao31 t1328.length co31)) (fun _ h_ => h_.1))) hb); have n3_ := Aside0.mk (Kd.R_below (by (with_reducible repeat (first | apply Kd.R_alloc | apply Kd.R_drewN | apply Kd.R_drew)); exact (Kd.R_mono (Kd.R_far (p := ⟨gb1332, 2, none⟩) (Kd.R_far (p := ⟨gb1332, 1, none⟩) (Kd.R_far (p := ⟨gb1332, 0, none⟩) (Kd.R_types HO1330.out BK1332.out (by decide)) (fun _ hk => hk.2) (.int .i64 t1326)) (fun _ hk => hk.2) (.int .i64 t1327)) (fun _ hk => hk.2) (.slice Ao31 t1328.length co31)) (fun _ h_ => h_.1))) hb); have n4_ := Aside0.mk (blk_below (g := gb1316) (o := .cells #[.int .i64 t1311, .int .i64 t1312, .slice Ao11 t1313.length co11] 37 (0, 0)) (by (with_reducible repeat (first | refine blk_drewN ?_ _ | refine blk_drew ?_ | refine blk_alloc ?_ _)); refine blk_far ?_ NB1316_1332.out _; (with_reducible repeat (first | refine blk_drewN ?_ _ | refine blk_drew ?_ | refine blk_alloc ?_ _)); refine blk_far ?_ NB1316_1332.out _; (with_reducible repeat (first | refine blk_drewN ?_ _ | refine blk_drew ?_ | refine blk_alloc ?_ _)); refine blk_far ?_ NB1316_1332.out _; (with_reducible repeat (first | refine blk_drewN ?_ _ | refine blk_drew ?_ | refine blk_alloc ?_ _)); exact BK1316.out) hb); have n5_ := Aside0.mk (blk_below (g := gb1325) (o := .cells #[.int .i64 t1320, .int .i64 t1321, .slice Ao21 t1322.length co21] 37 (0, 0)) (by (with_reducible repeat (first | refine blk_drewN ?_ _ | refine blk_drew ?_ | refine blk_alloc ?_ _)); refine blk_far ?_ NB1325_1332.out _; (with_reducible repeat (first | refine blk_drewN ?_ _ | refine blk_drew ?_ | refine blk_alloc ?_ _)); refine blk_far ?_ NB1325_1332.out _; (with_reducible repeat (first | refine blk_drewN ?_ _ | refine blk_drew ?_ | refine blk_alloc ?_ _)); refine blk_far ?_ NB1325_1332.out _; (with_reducible repeat (first | refine blk_drewN ?_ _ | refine blk_drew ?_ | refine blk_alloc ?_ _)); exact BK1325.out) hb); have n6_ := Aside0.mk (blk_below (g := gb1332) (o := .cells #[.int .i64 t1326, .int .i64 t1327, .slice Ao31 t1328.length co31] 37 (0, 0)) (by (with_reducible repeat (first | refine blk_drewN ?_ _ | refine blk_drew ?_ | refine blk_alloc ?_ _)); refine blk_put (cs := #[.int .i64 t1326, .int .i64 t1327, .slice none 0 0]) ?_ 2 _ rfl; (with_reducible repeat (first | refine blk_drewN ?_ _ | refine blk_drew ?_ | refine blk_alloc ?_ _)); refine blk_put (cs := #[.int .i64 t1326, .int .i64 0, .slice none 0 0]) ?_ 1 _ rfl; (with_reducible repeat (first | refine blk_drewN ?_ _ | refine blk_drew ?_ | refine blk_alloc ?_ _)); refine blk_put (cs := #[.int .i64 0, .int .i64 0, .slice none 0 0]) ?_ 0 _ rfl; (with_reducible repeat (first | refine blk_drewN ?_ _ | refine blk_drew ?_ | refine blk_alloc ?_ _)); exact BK1332.out) hb); have n7_ := Aside0.mk (below_step (by repeat (first | (with_reducible first | exact HB.out | apply below_alloc | apply pw_below_drewN | apply below_drew1 | refine below_set ?_ GE1316.out | refine below_set ?_ GE1325.out | refine below_set ?_ GE1332.out) | exact HB.out)) hb); clear HO1315; clear HO1319; clear HO1324; clear HO1330; clear BK1316; clear BK1325; clear BK1332; clear HB; have HO1315 := n0_; have HO1319 := n1_; have HO1324 := n2_; have HO1330 := n3_; have BK1316 := n4_; have BK1325 := n5_; have BK1332 := n6_; have HB := n7_; clear n0_ n1_ n2_ n3_ n4_ n5_ n6_ n7_; (try clear hb); (try clear hb2); (try clear hk); (try clear hi)))
          go_meet
          case rel => exact ⟨_, (true), (by first | rfl | (simp; done) | (simp [*]; done)), H', ⟨by first | omega | exact Nat.le_refl _⟩, ⟨by (with_reducible repeat (first | apply Kd.R_alloc | apply Kd.R_drewN | apply Kd.R_drew)); exact HO1315.out⟩, ⟨by (with_reducible repeat (first | apply Kd.R_alloc | apply Kd.R_drewN | apply Kd.R_drew)); exact HO1324.out⟩, ⟨by (with_reducible repeat (first | apply Kd.R_alloc | apply Kd.R_drewN | apply Kd.R_drew)); exact Kd.R_mono HO1330.out (fun _ hk => ⟨hk.1.2, hk.2⟩)⟩, ⟨by (with_reducible repeat (first | refine blk_drewN ?_ _ | refine blk_drew ?_ | refine blk_alloc ?_ _)); exact BK1316.out⟩, ⟨by (with_reducible repeat (first | refine blk_drewN ?_ _ | refine blk_drew ?_ | refine blk_alloc ?_ _)); exact BK1325.out⟩, ⟨by (with_reducible repeat (first | refine blk_drewN ?_ _ | refine blk_drew ?_ | refine blk_alloc ?_ _)); exact BK1332.out⟩, ⟨by repeat (first | (with_reducible first | exact HB.out | apply below_alloc | apply pw_below_drewN | apply below_drew1 | refine below_set ?_ GE1316.out | refine below_set ?_ GE1325.out | refine below_set ?_ GE1332.out) | exact HB.out)⟩⟩
      · replace c32 := Bool.eq_false_iff.mpr c32
        subst c32
        have H1 : (laws_FnCovered.j0 k true t1311 t1312 t1313 t1326 t1327 t1328) = some r := by rw [if_neg (show ¬ (false = true) by decide)] at H; exact H
        clear H
        have H := H1
        clear H1
        have H' := Aside0.mk H
        clear H
        go_wp2
        go_meet
        case rel => exact ⟨_, (true), (by first | rfl | (simp; done) | (simp [*]; done)), H', ⟨by first | omega | exact Nat.le_refl _⟩, ⟨by (with_reducible repeat (first | apply Kd.R_alloc | apply Kd.R_drewN | apply Kd.R_drew)); exact Kd.R_mono (Kd.R_far (p := ⟨gb1332, 2, none⟩) (Kd.R_far (p := ⟨gb1332, 1, none⟩) (Kd.R_far (p := ⟨gb1332, 0, none⟩) (Kd.R_types HO1315.out BK1332.out (by decide)) (fun _ hk => hk.2) (.int .i64 t1326)) (fun _ hk => hk.2) (.int .i64 t1327)) (fun _ hk => hk.2) (.slice Ao31 t1328.length co31)) (fun _ hk => ⟨hk.1.1, hk.1.2⟩)⟩, ⟨by (with_reducible repeat (first | apply Kd.R_alloc | apply Kd.R_drewN | apply Kd.R_drew)); exact Kd.R_mono (Kd.R_far (p := ⟨gb1332, 2, none⟩) (Kd.R_far (p := ⟨gb1332, 1, none⟩) (Kd.R_far (p := ⟨gb1332, 0, none⟩) (Kd.R_types HO1324.out BK1332.out (by decide)) (fun _ hk => hk.2) (.int .i64 t1326)) (fun _ hk => hk.2) (.int .i64 t1327)) (fun _ hk => hk.2) (.slice Ao31 t1328.length co31)) (fun _ hk => ⟨hk.1.1, hk.1.2⟩)⟩, ⟨by (with_reducible repeat (first | apply Kd.R_alloc | apply Kd.R_drewN | apply Kd.R_drew)); exact Kd.R_mono (Kd.R_far (p := ⟨gb1332, 2, none⟩) (Kd.R_far (p := ⟨gb1332, 1, none⟩) (Kd.R_far (p := ⟨gb1332, 0, none⟩) (Kd.R_types HO1330.out BK1332.out (by decide)) (fun _ hk => hk.2) (.int .i64 t1326)) (fun _ hk => hk.2) (.int .i64 t1327)) (fun _ hk => hk.2) (.slice Ao31 t1328.length co31)) (fun _ hk => ⟨hk.1.1.2, hk.1.2⟩)⟩, ⟨by (with_reducible repeat (first | refine blk_drewN ?_ _ | refine blk_drew ?_ | refine blk_alloc ?_ _)); refine blk_far ?_ NB1316_1332.out _; (with_reducible repeat (first | refine blk_drewN ?_ _ | refine blk_drew ?_ | refine blk_alloc ?_ _)); refine blk_far ?_ NB1316_1332.out _; (with_reducible repeat (first | refine blk_drewN ?_ _ | refine blk_drew ?_ | refine blk_alloc ?_ _)); refine blk_far ?_ NB1316_1332.out _; (with_reducible repeat (first | refine blk_drewN ?_ _ | refine blk_drew ?_ | refine blk_alloc ?_ _)); exact BK1316.out⟩, ⟨by (with_reducible repeat (first | refine blk_drewN ?_ _ | refine blk_drew ?_ | refine blk_alloc ?_ _)); refine blk_far ?_ NB1325_1332.out _; (with_reducible repeat (first | refine blk_drewN ?_ _ | refine blk_drew ?_ | refine blk_alloc ?_ _)); refine blk_far ?_ NB1325_1332.out _; (with_reducible repeat (first | refine blk_drewN ?_ _ | refine blk_drew ?_ | refine blk_alloc ?_ _)); refine blk_far ?_ NB1325_1332.out _; (with_reducible repeat (first | refine blk_drewN ?_ _ | refine blk_drew ?_ | refine blk_alloc ?_ _)); exact BK1325.out⟩, ⟨by (with_reducible repeat (first | refine blk_drewN ?_ _ | refine blk_drew ?_ | refine blk_alloc ?_ _)); refine blk_put (cs := #[.int .i64 t1326, .int .i64 t1327, .slice none 0 0]) ?_ 2 _ rfl; (with_reducible repeat (first | refine blk_drewN ?_ _ | refine blk_drew ?_ | refine blk_alloc ?_ _)); refine blk_put (cs := #[.int .i64 t1326, .int .i64 0, .slice none 0 0]) ?_ 1 _ rfl; (with_reducible repeat (first | refine blk_drewN ?_ _ | refine blk_drew ?_ | refine blk_alloc ?_ _)); refine blk_put (cs := #[.int .i64 0, .int .i64 0, .slice none 0 0]) ?_ 0 _ rfl; (with_reducible repeat (first | refine blk_drewN ?_ _ | refine blk_drew ?_ | refine blk_alloc ?_ _)); exact BK1332.out⟩, ⟨by repeat (first | (with_reducible first | exact HB.out | apply below_alloc | apply pw_below_drewN | apply below_drew1 | refine below_set ?_ GE1316.out | refine below_set ?_ GE1325.out | refine below_set ?_ GE1332.out) | exact HB.out)⟩⟩
    case rest =>
      clear HC7
      try clear c2
      try clear c2b0
      try clear c2b1
      try clear p2
      try clear c3
      try clear c4
      try clear c6
      try clear c9
      try clear c23
      try clear c28
      try clear c29
      try clear c32
      try clear c34
      try clear c36
      try clear c37
      try clear c39
      try clear c45
      try clear c46
      try clear c48
      try clear hcz10_0
      try clear hcz10_1
      try clear hcz10_2
      try clear hcz24_0
      try clear hcz24_1
      try clear hcz24_2
      try clear hcz25_0
      try clear hcz25_1
      try clear hcz25_2
      try clear hcz30_0
      try clear hcz30_1
      try clear hcz30_2
      try clear hcz38_0
      try clear hcz38_1
      try clear hcz38_2
      try clear hcz40_0
      try clear hcz40_1
      try clear hcz40_2
      try clear hcz42_0
      try clear hcz42_1
      try clear hcz42_2
      try clear hcz43_0
      try clear hcz43_1
      try clear hcz43_2
      try clear hcz47_0
      try clear hcz47_1
      try clear hcz47_2
      try clear hcz49_0
      try clear hcz49_1
      try clear hcz49_2
      try clear hfz10_0
      try clear hfz10_1
      try clear hfz10_2
      try clear hfz24_0
      try clear hfz24_1
      try clear hfz24_2
      try clear hfz25_0
      try clear hfz25_1
      try clear hfz25_2
      try clear hfz30_0
      try clear hfz30_1
      try clear hfz30_2
      try clear hfz38_0
      try clear hfz38_1
      try clear hfz38_2
      try clear hfz40_0
      try clear hfz40_1
      try clear hfz40_2
      try clear hfz42_0
      try clear hfz42_1
      try clear hfz42_2
      try clear hfz43_0
      try clear hfz43_1
      try clear hfz43_2
      try clear hfz47_0
      try clear hfz47_1
      try clear hfz47_2
      try clear hfz49_0
      try clear hfz49_1
      try clear hfz49_2
      obtain ⟨kq, x35_6, rfl, HA, HJ6, HO_1317002, HO_1326002, HO_1333002, BK1316, BK1325, BK1332, HB⟩ := hcut
      cases kq with
      | zero => exact absurd HA.out (by simp [laws_FnCovered.j0])
      | succ kj6 =>
        have H := HA.out
        clear HA
        simp only [laws_FnCovered.j0] at H
        by_cases c51 : x35_6 = true
        · subst c51
          have H1 : (some false) = some r := by rw [if_pos rfl] at H; exact H
          clear H
          have H := H1
          clear H1
          exact absurd ((Option.some.inj H).trans hT.out) (by decide)
        · replace c51 := Bool.eq_false_iff.mpr c51
          subst c51
          have H1 : ((impl_CoversPicture.f kj6 t1311 t1312 t1313 t1326 t1327 t1328).bind fun t1335 => ((laws_same.f kj6 t1311 t1312 t1313 t1326 t1327 t1328).bind fun t1336 => (if (t1335 == t1336) = true then ((impl_SamePicture.f kj6 t1311 t1312 t1313 t1326 t1327 t1328).bind fun t1337 => ((laws_same.f kj6 t1311 t1312 t1313 t1326 t1327 t1328).bind fun t1338 => (some (t1337 == t1338)))) else (some false)))) = some r := by rw [if_neg (show ¬ (false = true) by decide)] at H; exact H
          clear H
          have H := H1
          clear H1
          replace H := Option.bind_eq_some_iff.mp H
          obtain ⟨t1335, A520, H⟩ := H
          replace H : ((laws_same.f kj6 t1311 t1312 t1313 t1326 t1327 t1328).bind fun t1336 => (if (t1335 == t1336) = true then ((impl_SamePicture.f kj6 t1311 t1312 t1313 t1326 t1327 t1328).bind fun t1337 => ((laws_same.f kj6 t1311 t1312 t1313 t1326 t1327 t1328).bind fun t1338 => (some (t1337 == t1338)))) else (some false))) = some r := H
          have A52 := Aside0.mk A520
          clear A520
          replace H := Option.bind_eq_some_iff.mp H
          obtain ⟨t1336, A530, H⟩ := H
          replace H : (if (t1335 == t1336) = true then ((impl_SamePicture.f kj6 t1311 t1312 t1313 t1326 t1327 t1328).bind fun t1337 => ((laws_same.f kj6 t1311 t1312 t1313 t1326 t1327 t1328).bind fun t1338 => (some (t1337 == t1338)))) else (some false)) = some r := H
          have A53 := Aside0.mk A530
          clear A530
          by_cases c54 : (t1335 == t1336) = true
          · rw [if_pos c54] at H
            have c54b0 : (t1335 == t1336) = true := c54
            (try (have c54b1 : decide (t1335 = t1336) = true := by simpa using c54))
            (try (have c54b2 : (t1335 == t1336) = true := by simpa using c54))
            clear c54
            replace H := Option.bind_eq_some_iff.mp H
            obtain ⟨t1337, A550, H⟩ := H
            replace H : ((laws_same.f kj6 t1311 t1312 t1313 t1326 t1327 t1328).bind fun t1338 => (some (t1337 == t1338))) = some r := H
            have A55 := Aside0.mk A550
            clear A550
            replace H := Option.bind_eq_some_iff.mp H
            obtain ⟨t1338, A560, H⟩ := H
            replace H : (some (t1337 == t1338)) = some r := H
            have A56 := Aside0.mk A560
            clear A560
            obtain rfl := Option.some.inj H
            try go_wp2
            have n0_ := Aside0.mk (Kd.R_drew HO_1317002.out)
            have n1_ := Aside0.mk (Kd.R_drew HO_1326002.out)
            have n2_ := Aside0.mk (Kd.R_drew HO_1333002.out)
            have n3_ := Aside0.mk (blk_drew BK1316.out)
            have n4_ := Aside0.mk (blk_drew BK1325.out)
            have n5_ := Aside0.mk (blk_drew BK1332.out)
            have n6_ := Aside0.mk (below_drew1 HB.out)
            clear HO_1317002
            clear HO_1326002
            clear HO_1333002
            clear BK1316
            clear BK1325
            clear BK1332
            clear HB
            have HO_1317002 := n0_
            have HO_1326002 := n1_
            have HO_1333002 := n2_
            have BK1316 := n3_
            have BK1325 := n4_
            have BK1332 := n5_
            have HB := n6_
            clear n0_ n1_ n2_ n3_ n4_ n5_ n6_
            refine start_ (n := 17) (S := fun w' => w'.cell? ⟨gb1316, 0, none⟩ = some (.int .i64 t1311) ∧ w'.cell? ⟨gb1316, 1, none⟩ = some (.int .i64 t1312) ∧ w'.cell? ⟨gb1316, 2, none⟩ = some (.slice Ao11 t1313.length co11) ∧ w'.cell? ⟨gb1332, 0, none⟩ = some (.int .i64 t1326) ∧ w'.cell? ⟨gb1332, 1, none⟩ = some (.int .i64 t1327) ∧ w'.cell? ⟨gb1332, 2, none⟩ = some (.slice Ao31 t1328.length co31)) (ds := []) #[false, false, false, false, false, false, false, false, false, false, false, false, false, false, false, false, false] (by kernel_rfl) rfl rfl ⟨(blk_cell BK1316.out 0).trans rfl, (blk_cell BK1316.out 1).trans rfl, (blk_cell BK1316.out 2).trans rfl, (blk_cell BK1332.out 0).trans rfl, (blk_cell BK1332.out 1).trans rfl, (blk_cell BK1332.out 2).trans rfl⟩ (fun hHeld => ?_); refine with_tabW laws_FnCovered.tab8 laws_FnCovered.bits8 (fun HT_ HW_ => ?_)
            generalize wc.drew = w57 at HO_1317002 HO_1326002 HO_1333002 BK1316 BK1325 BK1332 HB hHeld ⊢
            refine take_ (i := 0) (N := some 36) (v := ?_) (a' := ?_) #[true, false, false, false, false, false, false, false, false, false, false, false, false, false, false, false, false] rfl rfl (take_ofW HT_.out HW_.out (by kernel_rfl)) (fun _ _ _ h => h) (Or.inl ⟨by rfl, ?_⟩) hHeld ?_ ?_
            rotate_left
            · rintro w' ⟨s0, s1, s2, s3, s4, s5⟩
              go_simp
              with_reducible rfl
            rotate_left
            · simp only [Act.put, List.setIfInBounds_toArray, List.set_cons_zero, List.set_cons_succ, i64_w, i32_w]
              rfl
            refine take_ (i := 1) (N := some 37) (v := ?_) (a' := ?_) #[true, true, false, false, false, false, false, false, false, false, false, false, false, false, false, false, false] rfl rfl (take_ofW HT_.out HW_.out (by kernel_rfl)) (fun _ _ _ h => h) (Or.inl ⟨by rfl, ?_⟩) hHeld ?_ ?_
            rotate_left
            · rintro w' ⟨s0, s1, s2, s3, s4, s5⟩
              go_simp
              with_reducible rfl
            rotate_left
            · simp only [Act.put, List.setIfInBounds_toArray, List.set_cons_zero, List.set_cons_succ, i64_w, i32_w]
              rfl
            refine take_ (i := 3) (N := some 39) (v := ?_) (a' := ?_) #[true, true, false, true, false, false, false, false, false, false, false, false, false, false, false, false, false] rfl rfl (take_ofW HT_.out HW_.out (by kernel_rfl)) (fun _ _ _ h => h) (Or.inl ⟨by rfl, ?_⟩) hHeld ?_ ?_
            rotate_left
            · rintro w' ⟨s0, s1, s2, s3, s4, s5⟩
              go_simp
              with_reducible rfl
            rotate_left
            · simp only [Act.put, List.setIfInBounds_toArray, List.set_cons_zero, List.set_cons_succ, i64_w, i32_w]
              rfl
            refine take_ (i := 4) (N := some 40) (v := ?_) (a' := ?_) #[true, true, false, true, true, false, false, false, false, false, false, false, false, false, false, false, false] rfl rfl (take_ofW HT_.out HW_.out (by kernel_rfl)) (fun _ _ _ h => h) (Or.inl ⟨by rfl, ?_⟩) hHeld ?_ ?_
            rotate_left
            · rintro w' ⟨s0, s1, s2, s3, s4, s5⟩
              go_simp
              with_reducible rfl
            rotate_left
            · simp only [Act.put, List.setIfInBounds_toArray, List.set_cons_zero, List.set_cons_succ, i64_w, i32_w]
              rfl
            refine one_ (i := 2) (N := some 38) #[true, true, true, true, true, false, false, false, false, false, false, false, false, false, false, false, false] rfl rfl (one_of HT_.out (by kernel_rfl)) (by decide) (fun K hK => ?_)
            refine goes_ Try.func79 (by kernel_rfl) rfl #[.agg #[.int .i64 t1311, .int .i64 t1312, .slice Ao11 t1313.length co11], .agg #[.int .i64 t1326, .int .i64 t1327, .slice Ao31 t1328.length co31]] (by rfl) rfl rfl (by (try simp only [List.map_toArray, List.map_cons, List.map_nil]); first | done | rfl | (simp only [List.length_drop, List.length_take]; rfl)) ?_
            with_reducible refine (impl_CoversPicture.calls kj6 t1311 t1312 _ _ t1313 t1326 t1327 _ _ t1328 t1335 _ ?side1 ?side2 ?side3 ?side4 A52.out).mono ?_
            (case side1 => repeat (first | exact (Kd.R_reads' HO_1317002.out).2.2 | (with_reducible refine Kd.C_alloc ?_ _) | (with_reducible refine Kd.C_drewN ?_ _) | (with_reducible refine Kd.C_drew ?_)))
            (case side2 => exact (Kd.R_reads' HO_1317002.out).2.1)
            (case side3 => repeat (first | exact (Kd.R_reads' HO_1333002.out).2.2 | (with_reducible refine Kd.C_alloc ?_ _) | (with_reducible refine Kd.C_drewN ?_ _) | (with_reducible refine Kd.C_drew ?_)))
            (case side4 => exact (Kd.R_reads' HO_1333002.out).2.1)
            rintro e w58 ⟨rfl, hb⟩
            refine ⟨_, rfl, ?_⟩
            have n0_ := Aside0.mk (Kd.R_below (by (with_reducible repeat (first | apply Kd.R_alloc | apply Kd.R_drewN | apply Kd.R_drew)); exact HO_1317002.out) hb)
            have n1_ := Aside0.mk (Kd.R_below (by (with_reducible repeat (first | apply Kd.R_alloc | apply Kd.R_drewN | apply Kd.R_drew)); exact HO_1326002.out) hb)
            have n2_ := Aside0.mk (Kd.R_below (by (with_reducible repeat (first | apply Kd.R_alloc | apply Kd.R_drewN | apply Kd.R_drew)); exact HO_1333002.out) hb)
            have n3_ := Aside0.mk (blk_below (g := gb1316) (o := .cells #[.int .i64 t1311, .int .i64 t1312, .slice Ao11 t1313.length co11] 37 (0, 0)) (by (with_reducible repeat (first | refine blk_drewN ?_ _ | refine blk_drew ?_ | refine blk_alloc ?_ _)); exact BK1316.out) hb)
            have n4_ := Aside0.mk (blk_below (g := gb1325) (o := .cells #[.int .i64 t1320, .int .i64 t1321, .slice Ao21 t1322.length co21] 37 (0, 0)) (by (with_reducible repeat (first | refine blk_drewN ?_ _ | refine blk_drew ?_ | refine blk_alloc ?_ _)); exact BK1325.out) hb)
            have n5_ := Aside0.mk (blk_below (g := gb1332) (o := .cells #[.int .i64 t1326, .int .i64 t1327, .slice Ao31 t1328.length co31] 37 (0, 0)) (by (with_reducible repeat (first | refine blk_drewN ?_ _ | refine blk_drew ?_ | refine blk_alloc ?_ _)); exact BK1332.out) hb)
            have n6_ := Aside0.mk (below_step (by repeat (first | (with_reducible first | exact HB.out | apply below_alloc | apply pw_below_drewN | apply below_drew1 | refine below_set ?_ GE1316.out | refine below_set ?_ GE1325.out | refine below_set ?_ GE1332.out) | exact HB.out)) hb)
            clear HO_1317002
            clear HO_1326002
            clear HO_1333002
            clear BK1316
            clear BK1325
            clear BK1332
            clear HB
            have HO_1317002 := n0_
            have HO_1326002 := n1_
            have HO_1333002 := n2_
            have BK1316 := n3_
            have BK1325 := n4_
            have BK1332 := n5_
            have HB := n6_
            clear n0_ n1_ n2_ n3_ n4_ n5_ n6_
            (try clear hb)
            (try clear hb2)
            (try clear hk)
            (try clear hi)
            refine hK.out _ _ ⟨(blk_cell BK1316.out 0).trans rfl, (blk_cell BK1316.out 1).trans rfl, (blk_cell BK1316.out 2).trans rfl, (blk_cell BK1332.out 0).trans rfl, (blk_cell BK1332.out 1).trans rfl, (blk_cell BK1332.out 2).trans rfl⟩ (fun hHeld => ?_)
            clear hK K
            refine norm_ (a' := ?_) ?_ ?_
            rotate_left
            · show Act.put _ (some 38) _ = _
              simp only [Act.put, List.setIfInBounds_toArray, List.set_cons_zero, List.set_cons_succ, i64_w, i32_w]
              rfl
            refine one_ (i := 5) (N := some 41) #[true, true, true, true, true, true, false, false, false, false, false, false, false, false, false, false, false] rfl rfl (one_of HT_.out (by kernel_rfl)) (by decide) (fun K hK => ?_)
            refine goes_ Try.func85 (by kernel_rfl) rfl #[.agg #[.int .i64 t1311, .int .i64 t1312, .slice Ao11 t1313.length co11], .agg #[.int .i64 t1326, .int .i64 t1327, .slice Ao31 t1328.length co31]] (by rfl) rfl rfl (by (try simp only [List.map_toArray, List.map_cons, List.map_nil]); first | done | rfl | (simp only [List.length_drop, List.length_take]; rfl)) ?_
            with_reducible refine (laws_same.calls kj6 t1311 t1312 _ _ t1313 t1326 t1327 _ _ t1328 t1336 _ ?side1 ?side2 ?side3 ?side4 A53.out).mono ?_
            (case side1 => repeat (first | exact (Kd.R_reads' HO_1317002.out).2.2 | (with_reducible refine Kd.C_alloc ?_ _) | (with_reducible refine Kd.C_drewN ?_ _) | (with_reducible refine Kd.C_drew ?_)))
            (case side2 => exact (Kd.R_reads' HO_1317002.out).2.1)
            (case side3 => repeat (first | exact (Kd.R_reads' HO_1333002.out).2.2 | (with_reducible refine Kd.C_alloc ?_ _) | (with_reducible refine Kd.C_drewN ?_ _) | (with_reducible refine Kd.C_drew ?_)))
            (case side4 => exact (Kd.R_reads' HO_1333002.out).2.1)
            rintro e w59 ⟨rfl, hb⟩
            refine ⟨_, rfl, ?_⟩
            have n0_ := Aside0.mk (Kd.R_below (by (with_reducible repeat (first | apply Kd.R_alloc | apply Kd.R_drewN | apply Kd.R_drew)); exact HO_1317002.out) hb)
            have n1_ := Aside0.mk (Kd.R_below (by (with_reducible repeat (first | apply Kd.R_alloc | apply Kd.R_drewN | apply Kd.R_drew)); exact HO_1326002.out) hb)
            have n2_ := Aside0.mk (Kd.R_below (by (with_reducible repeat (first | apply Kd.R_alloc | apply Kd.R_drewN | apply Kd.R_drew)); exact HO_1333002.out) hb)
            have n3_ := Aside0.mk (blk_below (g := gb1316) (o := .cells #[.int .i64 t1311, .int .i64 t1312, .slice Ao11 t1313.length co11] 37 (0, 0)) (by (with_reducible repeat (first | refine blk_drewN ?_ _ | refine blk_drew ?_ | refine blk_alloc ?_ _)); exact BK1316.out) hb)
            have n4_ := Aside0.mk (blk_below (g := gb1325) (o := .cells #[.int .i64 t1320, .int .i64 t1321, .slice Ao21 t1322.length co21] 37 (0, 0)) (by (with_reducible repeat (first | refine blk_drewN ?_ _ | refine blk_drew ?_ | refine blk_alloc ?_ _)); exact BK1325.out) hb)
            have n5_ := Aside0.mk (blk_below (g := gb1332) (o := .cells #[.int .i64 t1326, .int .i64 t1327, .slice Ao31 t1328.length co31] 37 (0, 0)) (by (with_reducible repeat (first | refine blk_drewN ?_ _ | refine blk_drew ?_ | refine blk_alloc ?_ _)); exact BK1332.out) hb)
            have n6_ := Aside0.mk (below_step (by repeat (first | (with_reducible first | exact HB.out | apply below_alloc | apply pw_below_drewN | apply below_drew1 | refine below_set ?_ GE1316.out | refine below_set ?_ GE1325.out | refine below_set ?_ GE1332.out) | exact HB.out)) hb)
            clear HO_1317002
            clear HO_1326002
            clear HO_1333002
            clear BK1316
            clear BK1325
            clear BK1332
            clear HB
            have HO_1317002 := n0_
            have HO_1326002 := n1_
            have HO_1333002 := n2_
            have BK1316 := n3_
            have BK1325 := n4_
            have BK1332 := n5_
            have HB := n6_
            clear n0_ n1_ n2_ n3_ n4_ n5_ n6_
            (try clear hb)
            (try clear hb2)
            (try clear hk)
            (try clear hi)
            refine hK.out _ _ ⟨(blk_cell BK1316.out 0).trans rfl, (blk_cell BK1316.out 1).trans rfl, (blk_cell BK1316.out 2).trans rfl, (blk_cell BK1332.out 0).trans rfl, (blk_cell BK1332.out 1).trans rfl, (blk_cell BK1332.out 2).trans rfl⟩ (fun hHeld => ?_)
            clear hK K
            refine norm_ (a' := ?_) ?_ ?_
            rotate_left
            · show Act.put _ (some 41) _ = _
              simp only [Act.put, List.setIfInBounds_toArray, List.set_cons_zero, List.set_cons_succ, i64_w, i32_w]
              rfl
            refine pure_ (i := 6) (N := some 42) (v := ?_) (a' := ?_) #[true, true, true, true, true, true, true, false, false, false, false, false, false, false, false, false, false] rfl rfl (any_of HT_.out (by kernel_rfl)) (fun _ _ _ h => h) (Or.inl ⟨by rfl, ?_⟩) ?_ ?_
            rotate_left
            · intro w'
              go_simp
              with_reducible rfl
            rotate_left
            · simp only [Act.put, List.setIfInBounds_toArray, List.set_cons_zero, List.set_cons_succ, i64_w, i32_w]
              rfl
            refine pure_ (i := 7) (N := some 43) (v := ?_) (a' := ?_) #[true, true, true, true, true, true, true, true, false, false, false, false, false, false, false, false, false] rfl rfl (any_of HT_.out (by kernel_rfl)) (fun _ _ _ h => h) (Or.inl ⟨by rfl, ?_⟩) ?_ ?_
            rotate_left
            · intro w'
              go_simp
              with_reducible rfl
            rotate_left
            · simp only [Act.put, List.setIfInBounds_toArray, List.set_cons_zero, List.set_cons_succ, i64_w, i32_w]
              rfl
            refine take_ (i := 8) (N := some 44) (v := ?_) (a' := ?_) #[true, true, true, true, true, true, true, true, true, false, false, false, false, false, false, false, false] rfl rfl (take_ofW HT_.out HW_.out (by kernel_rfl)) (fun _ _ _ h => h) (Or.inl ⟨by rfl, ?_⟩) hHeld ?_ ?_
            rotate_left
            · rintro w' ⟨s0, s1, s2, s3, s4, s5⟩
              go_simp
              with_reducible rfl
            rotate_left
            · simp only [Act.put, List.setIfInBounds_toArray, List.set_cons_zero, List.set_cons_succ, i64_w, i32_w]
              rfl
            refine take_ (i := 9) (N := some 45) (v := ?_) (a' := ?_) #[true, true, true, true, true, true, true, true, true, true, false, false, false, false, false, false, false] rfl rfl (take_ofW HT_.out HW_.out (by kernel_rfl)) (fun _ _ _ h => h) (Or.inl ⟨by rfl, ?_⟩) hHeld ?_ ?_
            rotate_left
            · rintro w' ⟨s0, s1, s2, s3, s4, s5⟩
              go_simp
              with_reducible rfl
            rotate_left
            · simp only [Act.put, List.setIfInBounds_toArray, List.set_cons_zero, List.set_cons_succ, i64_w, i32_w]
              rfl
            refine take_ (i := 11) (N := some 47) (v := ?_) (a' := ?_) #[true, true, true, true, true, true, true, true, true, true, false, true, false, false, false, false, false] rfl rfl (take_ofW HT_.out HW_.out (by kernel_rfl)) (fun _ _ _ h => h) (Or.inl ⟨by rfl, ?_⟩) hHeld ?_ ?_
            rotate_left
            · rintro w' ⟨s0, s1, s2, s3, s4, s5⟩
              go_simp
              with_reducible rfl
            rotate_left
            · simp only [Act.put, List.setIfInBounds_toArray, List.set_cons_zero, List.set_cons_succ, i64_w, i32_w]
              rfl
            refine take_ (i := 12) (N := some 48) (v := ?_) (a' := ?_) #[true, true, true, true, true, true, true, true, true, true, false, true, true, false, false, false, false] rfl rfl (take_ofW HT_.out HW_.out (by kernel_rfl)) (fun _ _ _ h => h) (Or.inl ⟨by rfl, ?_⟩) hHeld ?_ ?_
            rotate_left
            · rintro w' ⟨s0, s1, s2, s3, s4, s5⟩
              go_simp
              with_reducible rfl
            rotate_left
            · simp only [Act.put, List.setIfInBounds_toArray, List.set_cons_zero, List.set_cons_succ, i64_w, i32_w]
              rfl
            refine one_ (i := 10) (N := some 46) #[true, true, true, true, true, true, true, true, true, true, true, true, true, false, false, false, false] rfl rfl (one_of HT_.out (by kernel_rfl)) (by decide) (fun K hK => ?_)
            refine goes_ Try.func49 (by kernel_rfl) rfl #[.agg #[.int .i64 t1311, .int .i64 t1312, .slice Ao11 t1313.length co11], .agg #[.int .i64 t1326, .int .i64 t1327, .slice Ao31 t1328.length co31]] (by rfl) rfl rfl (by (try simp only [List.map_toArray, List.map_cons, List.map_nil]); first | done | rfl | (simp only [List.length_drop, List.length_take]; rfl)) ?_
            with_reducible refine (impl_SamePicture.calls kj6 t1311 t1312 _ _ t1313 t1326 t1327 _ _ t1328 t1337 _ ?side1 ?side2 ?side3 ?side4 A55.out).mono ?_
            (case side1 => repeat (first | exact (Kd.R_reads' HO_1317002.out).2.2 | (with_reducible refine Kd.C_alloc ?_ _) | (with_reducible refine Kd.C_drewN ?_ _) | (with_reducible refine Kd.C_drew ?_)))
            (case side2 => exact (Kd.R_reads' HO_1317002.out).2.1)
            (case side3 => repeat (first | exact (Kd.R_reads' HO_1333002.out).2.2 | (with_reducible refine Kd.C_alloc ?_ _) | (with_reducible refine Kd.C_drewN ?_ _) | (with_reducible refine Kd.C_drew ?_)))
            (case side4 => exact (Kd.R_reads' HO_1333002.out).2.1)
            rintro e w60 ⟨rfl, hb⟩
            refine ⟨_, rfl, ?_⟩
            have n0_ := Aside0.mk (Kd.R_below (by (with_reducible repeat (first | apply Kd.R_alloc | apply Kd.R_drewN | apply Kd.R_drew)); exact HO_1317002.out) hb)
            have n1_ := Aside0.mk (Kd.R_below (by (with_reducible repeat (first | apply Kd.R_alloc | apply Kd.R_drewN | apply Kd.R_drew)); exact HO_1326002.out) hb)
            have n2_ := Aside0.mk (Kd.R_below (by (with_reducible repeat (first | apply Kd.R_alloc | apply Kd.R_drewN | apply Kd.R_drew)); exact HO_1333002.out) hb)
            have n3_ := Aside0.mk (blk_below (g := gb1316) (o := .cells #[.int .i64 t1311, .int .i64 t1312, .slice Ao11 t1313.length co11] 37 (0, 0)) (by (with_reducible repeat (first | refine blk_drewN ?_ _ | refine blk_drew ?_ | refine blk_alloc ?_ _)); exact BK1316.out) hb)
            have n4_ := Aside0.mk (blk_below (g := gb1325) (o := .cells #[.int .i64 t1320, .int .i64 t1321, .slice Ao21 t1322.length co21] 37 (0, 0)) (by (with_reducible repeat (first | refine blk_drewN ?_ _ | refine blk_drew ?_ | refine blk_alloc ?_ _)); exact BK1325.out) hb)
            have n5_ := Aside0.mk (blk_below (g := gb1332) (o := .cells #[.int .i64 t1326, .int .i64 t1327, .slice Ao31 t1328.length co31] 37 (0, 0)) (by (with_reducible repeat (first | refine blk_drewN ?_ _ | refine blk_drew ?_ | refine blk_alloc ?_ _)); exact BK1332.out) hb)
            have n6_ := Aside0.mk (below_step (by repeat (first | (with_reducible first | exact HB.out | apply below_alloc | apply pw_below_drewN | apply below_drew1 | refine below_set ?_ GE1316.out | refine below_set ?_ GE1325.out | refine below_set ?_ GE1332.out) | exact HB.out)) hb)
            clear HO_1317002
            clear HO_1326002
            clear HO_1333002
            clear BK1316
            clear BK1325
            clear BK1332
            clear HB
            have HO_1317002 := n0_
            have HO_1326002 := n1_
            have HO_1333002 := n2_
            have BK1316 := n3_
            have BK1325 := n4_
            have BK1332 := n5_
            have HB := n6_
            clear n0_ n1_ n2_ n3_ n4_ n5_ n6_
            (try clear hb)
            (try clear hb2)
            (try clear hk)
            (try clear hi)
            refine hK.out _ _ ⟨(blk_cell BK1316.out 0).trans rfl, (blk_cell BK1316.out 1).trans rfl, (blk_cell BK1316.out 2).trans rfl, (blk_cell BK1332.out 0).trans rfl, (blk_cell BK1332.out 1).trans rfl, (blk_cell BK1332.out 2).trans rfl⟩ (fun hHeld => ?_)
            clear hK K
            refine norm_ (a' := ?_) ?_ ?_
            rotate_left
            · show Act.put _ (some 46) _ = _
              simp only [Act.put, List.setIfInBounds_toArray, List.set_cons_zero, List.set_cons_succ, i64_w, i32_w]
              rfl
            refine one_ (i := 13) (N := some 49) #[true, true, true, true, true, true, true, true, true, true, true, true, true, true, false, false, false] rfl rfl (one_of HT_.out (by kernel_rfl)) (by decide) (fun K hK => ?_)
            refine goes_ Try.func85 (by kernel_rfl) rfl #[.agg #[.int .i64 t1311, .int .i64 t1312, .slice Ao11 t1313.length co11], .agg #[.int .i64 t1326, .int .i64 t1327, .slice Ao31 t1328.length co31]] (by rfl) rfl rfl (by (try simp only [List.map_toArray, List.map_cons, List.map_nil]); first | done | rfl | (simp only [List.length_drop, List.length_take]; rfl)) ?_
            with_reducible refine (laws_same.calls kj6 t1311 t1312 _ _ t1313 t1326 t1327 _ _ t1328 t1338 _ ?side1 ?side2 ?side3 ?side4 A56.out).mono ?_
            (case side1 => repeat (first | exact (Kd.R_reads' HO_1317002.out).2.2 | (with_reducible refine Kd.C_alloc ?_ _) | (with_reducible refine Kd.C_drewN ?_ _) | (with_reducible refine Kd.C_drew ?_)))
            (case side2 => exact (Kd.R_reads' HO_1317002.out).2.1)
            (case side3 => repeat (first | exact (Kd.R_reads' HO_1333002.out).2.2 | (with_reducible refine Kd.C_alloc ?_ _) | (with_reducible refine Kd.C_drewN ?_ _) | (with_reducible refine Kd.C_drew ?_)))
            (case side4 => exact (Kd.R_reads' HO_1333002.out).2.1)
            rintro e w61 ⟨rfl, hb⟩
            refine ⟨_, rfl, ?_⟩
            have n0_ := Aside0.mk (Kd.R_below (by (with_reducible repeat (first | apply Kd.R_alloc | apply Kd.R_drewN | apply Kd.R_drew)); exact HO_1317002.out) hb)
            have n1_ := Aside0.mk (Kd.R_below (by (with_reducible repeat (first | apply Kd.R_alloc | apply Kd.R_drewN | apply Kd.R_drew)); exact HO_1326002.out) hb)
            have n2_ := Aside0.mk (Kd.R_below (by (with_reducible repeat (first | apply Kd.R_alloc | apply Kd.R_drewN | apply Kd.R_drew)); exact HO_1333002.out) hb)
            have n3_ := Aside0.mk (blk_below (g := gb1316) (o := .cells #[.int .i64 t1311, .int .i64 t1312, .slice Ao11 t1313.length co11] 37 (0, 0)) (by (with_reducible repeat (first | refine blk_drewN ?_ _ | refine blk_drew ?_ | refine blk_alloc ?_ _)); exact BK1316.out) hb)
            have n4_ := Aside0.mk (blk_below (g := gb1325) (o := .cells #[.int .i64 t1320, .int .i64 t1321, .slice Ao21 t1322.length co21] 37 (0, 0)) (by (with_reducible repeat (first | refine blk_drewN ?_ _ | refine blk_drew ?_ | refine blk_alloc ?_ _)); exact BK1325.out) hb)
            have n5_ := Aside0.mk (blk_below (g := gb1332) (o := .cells #[.int .i64 t1326, .int .i64 t1327, .slice Ao31 t1328.length co31] 37 (0, 0)) (by (with_reducible repeat (first | refine blk_drewN ?_ _ | refine blk_drew ?_ | refine blk_alloc ?_ _)); exact BK1332.out) hb)
            have n6_ := Aside0.mk (below_step (by repeat (first | (with_reducible first | exact HB.out | apply below_alloc | apply pw_below_drewN | apply below_drew1 | refine below_set ?_ GE1316.out | refine below_set ?_ GE1325.out | refine below_set ?_ GE1332.out) | exact HB.out)) hb)
            clear HO_1317002
            clear HO_1326002
            clear HO_1333002
            clear BK1316
            clear BK1325
            clear BK1332
            clear HB
            have HO_1317002 := n0_
            have HO_1326002 := n1_
            have HO_1333002 := n2_
            have BK1316 := n3_
            have BK1325 := n4_
            have BK1332 := n5_
            have HB := n6_
            clear n0_ n1_ n2_ n3_ n4_ n5_ n6_
            (try clear hb)
            (try clear hb2)
            (try clear hk)
            (try clear hi)
            refine hK.out _ _ ⟨(blk_cell BK1316.out 0).trans rfl, (blk_cell BK1316.out 1).trans rfl, (blk_cell BK1316.out 2).trans rfl, (blk_cell BK1332.out 0).trans rfl, (blk_cell BK1332.out 1).trans rfl, (blk_cell BK1332.out 2).trans rfl⟩ (fun hHeld => ?_)
            clear hK K
            refine norm_ (a' := ?_) ?_ ?_
            rotate_left
            · show Act.put _ (some 49) _ = _
              simp only [Act.put, List.setIfInBounds_toArray, List.set_cons_zero, List.set_cons_succ, i64_w, i32_w]
              rfl
            refine pure_ (i := 14) (N := some 50) (v := ?_) (a' := ?_) #[true, true, true, true, true, true, true, true, true, true, true, true, true, true, true, false, false] rfl rfl (any_of HT_.out (by kernel_rfl)) (fun _ _ _ h => h) (Or.inl ⟨by rfl, ?_⟩) ?_ ?_
            rotate_left
            · intro w'
              go_simp
              with_reducible rfl
            rotate_left
            · simp only [Act.put, List.setIfInBounds_toArray, List.set_cons_zero, List.set_cons_succ, i64_w, i32_w]
              rfl
            refine pure_ (i := 15) (N := some 51) (v := ?_) (a' := ?_) #[true, true, true, true, true, true, true, true, true, true, true, true, true, true, true, true, false] rfl rfl (any_of HT_.out (by kernel_rfl)) (fun _ _ _ h => h) (Or.inl ⟨by rfl, ?_⟩) ?_ ?_
            rotate_left
            · intro w'
              go_simp
              with_reducible rfl
            rotate_left
            · simp only [Act.put, List.setIfInBounds_toArray, List.set_cons_zero, List.set_cons_succ, i64_w, i32_w]
              rfl
            refine pure_ (i := 16) (N := some 2) (v := ?_) (a' := ?_) #[true, true, true, true, true, true, true, true, true, true, true, true, true, true, true, true, true] rfl rfl (any_of HT_.out (by kernel_rfl)) (fun _ _ _ h => h) (Or.inl ⟨by rfl, ?_⟩) ?_ ?_
            rotate_left
            · intro w'
              go_simp
              with_reducible rfl
            rotate_left
            · simp only [Act.put, List.setIfInBounds_toArray, List.set_cons_zero, List.set_cons_succ, i64_w, i32_w]
              rfl
            refine done_ (done_of HT_.out (by kernel_rfl)) ?_
            try go_wp2
            go_ret
            exact ⟨by first | rfl | (simp [errW_none, errW_some] <;> rfl) | (simp [*, errW_none, errW_some] <;> rfl), by repeat (first | (with_reducible first | exact HB.out | apply below_alloc | apply pw_below_drewN | apply below_drew1 | refine below_set ?_ GE1316.out | refine below_set ?_ GE1325.out | refine below_set ?_ GE1332.out) | exact HB.out)⟩
          · rw [if_neg c54] at H
            have c54b0 : (t1335 == t1336) = false := by simpa using c54
            (try (have c54b1 : decide (t1335 = t1336) = false := by simpa using c54))
            (try (have c54b2 : (t1335 == t1336) = false := by simpa using c54))
            (try (have c54b3 : ¬ (t1335 = t1336) := by simpa using c54))
            clear c54
            exact absurd ((Option.some.inj H).trans hT.out) (by decide)

end Go.Proofs.Ytbgbbfdmgpcgmaa.P
