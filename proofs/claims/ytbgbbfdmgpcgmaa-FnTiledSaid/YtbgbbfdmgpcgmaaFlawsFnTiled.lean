-- Written by tools/seatprint.py (over the kit's print, changed in memory). Not trusted: Lean checks it.
import Derived.Test.YtbgbbfdmgpcgmaaP0
import Derived.Test.YtbgbbfdmgpcgmaaFlawsat
import Derived.Test.YtbgbbfdmgpcgmaaFlawstotal
import Derived.Test.YtbgbbfdmgpcgmaaFspecMakePicture
import Derived.Test.YtbgbbfdmgpcgmaaFimplSumInk
import Derived.Test.YtbgbbfdmgpcgmaaFimplTilePicture
import Derived.Test.YtbgbbfdmgpcgmaaFimplCropPicture
import Derived.Test.YtbgbbfdmgpcgmaaFlawssame
namespace Go.Proofs.Ytbgbbfdmgpcgmaa.P
open Go.RowKit Go.Proofs.YtbgbbfdmgpcgmaaW.PrintWords Go.Proofs.YtbgbbfdmgpcgmaaW.PrintLast Go.Proofs.YtbgbbfdmgpcgmaaW.PrintMore
attribute [local go_sem] max2_int min2_int max_two min_two max_three min_three max_four min_four   -- for this text's walks alone
set_option linter.unusedVariables false
set_option linter.unusedSimpArgs false

/-! ### laws_FnTiled: function 21 -/
def laws_FnTiled.j0 : Nat → Int → Int → Bool → Int → Int → List Int → Int → Int → List Int → Option (Bool)
  | 0, _, _, _, _, _, _, _, _, _ => none
  | k + 1, x4, x5, x51, x922000, x922001, x922002, x931000, x931001, x931002 => if x51 = true then (some false) else ((impl_CropPicture.f x931000 x931001 x931002 (wrap64 ((wrap64 (x4 - 1)) * x922000)) (wrap64 ((wrap64 (x5 - 1)) * x922001)) x922000 x922001).bind fun bt933 => ((impl_CropPicture.f x931000 x931001 x931002 (wrap64 ((wrap64 ((wrap64 (x4 - 1)) * x922000)) + 1)) 0 x922000 x922001).bind fun bt940 => (if bt933.2.2.2 = true then ((laws_same.f k bt933.1 bt933.2.1 bt933.2.2.1 x922000 x922001 x922002).bind fun t947 => (if t947 = true then (some (!bt940.2.2.2)) else (some false))) else (some false))))
def laws_FnTiled.f (k : Nat) (l0 : List Int) : Option (Bool) := if (l0.length : Int) > 1048576 then (some true) else ((spec_MakePicture.f k l0 8).bind fun bt916 => ((laws_at.f l0 1).bind fun t922 => ((laws_at.f l0 2).bind fun t923 => ((impl_TilePicture.f bt916.1 bt916.2.1 bt916.2.2 (wrap64 ((wrap64 (1 + (Int.tmod t922 3))) * bt916.1)) (wrap64 ((wrap64 (1 + (Int.tmod t923 3))) * bt916.2.1))).bind fun bt924 => (if bt924.2.2.2 = true then ((impl_SumInk.f k bt924.1 bt924.2.1 bt924.2.2.1).bind fun t931 => ((laws_total.f k bt916.2.2).bind fun t932 => (laws_FnTiled.j0 k (wrap64 (1 + (Int.tmod t922 3))) (wrap64 (1 + (Int.tmod t923 3))) (t931 != (wrap64 ((wrap64 ((wrap64 (1 + (Int.tmod t922 3))) * (wrap64 (1 + (Int.tmod t923 3))))) * t932))) bt916.1 bt916.2.1 bt916.2.2 bt924.1 bt924.2.1 bt924.2.2.1))) else (laws_FnTiled.j0 k (wrap64 (1 + (Int.tmod t922 3))) (wrap64 (1 + (Int.tmod t923 3))) true bt916.1 bt916.2.1 bt916.2.2 bt924.1 bt924.2.1 bt924.2.2.1))))))
theorem laws_FnTiled.mono_l : ∀ k, (∀ y0 y1 y2 y3 y4 y5 y6 y7 y8, LeO (laws_FnTiled.j0 k y0 y1 y2 y3 y4 y5 y6 y7 y8) (laws_FnTiled.j0 (k + 1) y0 y1 y2 y3 y4 y5 y6 y7 y8))
  | 0 => fun _ _ _ _ _ _ _ _ _ r h => by simp [laws_FnTiled.j0] at h
  | k + 1 => by
    have ih0 := laws_FnTiled.mono_l k
    · intro y0 y1 y2 y3 y4 y5 y6 y7 y8
      unfold laws_FnTiled.j0
      repeat' first
      | (with_reducible exact ih0 _ _ _ _ _ _ _ _ _)
      | (with_reducible exact impl_SumInk.mono _ _ _ _)
      | (with_reducible exact laws_same.mono _ _ _ _ _ _ _)
      | (with_reducible exact laws_total.mono _ _)
      | (with_reducible exact spec_MakePicture.mono _ _ _)
      | (with_reducible exact LeO.refl _)
      | (with_reducible exact LeO.none _)
      | (with_reducible refine LeO.ite ?_ ?_)
      | (with_reducible refine LeO.bind ?_ (fun _ => ?_))
      | exact ih0 _ _ _ _ _ _ _ _ _
      | exact impl_SumInk.mono _ _ _ _
      | exact laws_same.mono _ _ _ _ _ _ _
      | exact laws_total.mono _ _
      | exact spec_MakePicture.mono _ _ _
      | exact LeO.none _
      | refine LeO.ite ?_ ?_
      | refine LeO.bind ?_ (fun _ => ?_)
theorem laws_FnTiled.mono : ∀ a0 k, LeO (laws_FnTiled.f k a0) (laws_FnTiled.f (k + 1) a0) := by
  intro a0 k
  have ih0 := laws_FnTiled.mono_l k
  unfold laws_FnTiled.f
  repeat' first
      | (with_reducible exact ih0 _ _ _ _ _ _ _ _ _)
      | (with_reducible exact impl_SumInk.mono _ _ _ _)
      | (with_reducible exact laws_same.mono _ _ _ _ _ _ _)
      | (with_reducible exact laws_total.mono _ _)
      | (with_reducible exact spec_MakePicture.mono _ _ _)
      | (with_reducible exact LeO.refl _)
      | (with_reducible exact LeO.none _)
      | (with_reducible refine LeO.ite ?_ ?_)
      | (with_reducible refine LeO.bind ?_ (fun _ => ?_))
      | exact ih0 _ _ _ _ _ _ _ _ _
      | exact impl_SumInk.mono _ _ _ _
      | exact laws_same.mono _ _ _ _ _ _ _
      | exact laws_total.mono _ _
      | exact spec_MakePicture.mono _ _ _
      | exact LeO.none _
      | refine LeO.ite ?_ ?_
      | refine LeO.bind ?_ (fun _ => ?_)
def laws_FnTiled.T7 : Bool × List (List Nat × List Nat) := (true, [([], []), ([0], [0]), ([1], [1]), ([2], [2]), ([3, 2, 2], [2, 3]), ([2], [2]), ([2], [2]), ([5, 6, 2], [2, 5, 6]), ([2], [2]), ([8, 2], [2, 8]), ([9, 4, 2], [2, 9]), ([7, 10, 2], [2, 7, 10]), ([4, 11, 2], [2, 4, 11]), ([2, 12], [2, 12])])
def laws_FnTiled.B7 : List Nat := [0, 1, 3, 7, 15, 7, 7, 103, 7, 263, 799, 2047, 4095, 8191]
theorem laws_FnTiled.tab7 : rtab .any (opsOf Try.f21 7) = laws_FnTiled.T7 := by kernel_rfl
theorem laws_FnTiled.bits7 : waitsOk laws_FnTiled.T7.2 laws_FnTiled.B7 = true := by kernel_rfl
set_option maxHeartbeats 8000000 in
set_option maxRecDepth 100000 in
theorem laws_FnTiled.calls (k : Nat) (A0 : Option Addr) (c0 : Nat) (l0 : List Int) (r : Bool) (w : World) (hr0 : Kd.C (Kd.int .u8) w A0 l0.length l0) (hc0 : l0.length ≤ c0) (hT : Aside0 (r = true)) (h : laws_FnTiled.f k l0 = some r) :
    Calls Try.prog 21 #[.slice A0 l0.length c0] w fun e w' => e = .returned (.bool r) ∧ Below w.heap.size w w' := by
  have hu37 := Try.underlying37
  have HR0 := Aside0.mk hr0
  have HC0 := Aside0.mk hc0
  clear hr0 hc0
  have HB := Aside0.mk (Below.refl w.heap.size w)
  have H : (if (l0.length : Int) > 1048576 then (some true) else ((spec_MakePicture.f k l0 8).bind fun bt916 => ((laws_at.f l0 1).bind fun t922 => ((laws_at.f l0 2).bind fun t923 => ((impl_TilePicture.f bt916.1 bt916.2.1 bt916.2.2 (wrap64 ((wrap64 (1 + (Int.tmod t922 3))) * bt916.1)) (wrap64 ((wrap64 (1 + (Int.tmod t923 3))) * bt916.2.1))).bind fun bt924 => (if bt924.2.2.2 = true then ((impl_SumInk.f k bt924.1 bt924.2.1 bt924.2.2.1).bind fun t931 => ((laws_total.f k bt916.2.2).bind fun t932 => (laws_FnTiled.j0 k (wrap64 (1 + (Int.tmod t922 3))) (wrap64 (1 + (Int.tmod t923 3))) (t931 != (wrap64 ((wrap64 ((wrap64 (1 + (Int.tmod t922 3))) * (wrap64 (1 + (Int.tmod t923 3))))) * t932))) bt916.1 bt916.2.1 bt916.2.2 bt924.1 bt924.2.1 bt924.2.2.1))) else (laws_FnTiled.j0 k (wrap64 (1 + (Int.tmod t922 3))) (wrap64 (1 + (Int.tmod t923 3))) true bt916.1 bt916.2.1 bt916.2.2 bt924.1 bt924.2.1 bt924.2.2.1))))))) = some r := h
  clear h
  by_cases c2 : (l0.length : Int) > 1048576
  · rw [if_pos c2] at H
    have c2b0 : decide (1048576 < (l0.length : Int)) = true := decide_eq_true c2
    have c2b1 : decide (1048576 < l0.length) = true := decide_eq_true (by omega)
    clear c2
    obtain rfl := Option.some.inj H
    go_enter Try.func21, Try.ntmps21
    go_wp2
    go_ret
    exact ⟨by first | rfl | (simp [errW_none, errW_some] <;> rfl) | (simp [*, errW_none, errW_some] <;> rfl), by repeat (first | (with_reducible first | exact HB.out | apply below_alloc | apply pw_below_drewN | apply below_drew1) | exact HB.out)⟩
  · rw [if_neg c2] at H
    have c2b0 : decide (1048576 < (l0.length : Int)) = false := decide_eq_false c2
    have c2b1 : decide (1048576 < l0.length) = false := decide_eq_false (by omega)
    clear c2
    replace H := Option.bind_eq_some_iff.mp H
    obtain ⟨⟨t916, t917, t918⟩, A30, H⟩ := H
    replace H : ((laws_at.f l0 1).bind fun t922 => ((laws_at.f l0 2).bind fun t923 => ((impl_TilePicture.f t916 t917 t918 (wrap64 ((wrap64 (1 + (Int.tmod t922 3))) * t916)) (wrap64 ((wrap64 (1 + (Int.tmod t923 3))) * t917))).bind fun bt924 => (if bt924.2.2.2 = true then ((impl_SumInk.f k bt924.1 bt924.2.1 bt924.2.2.1).bind fun t931 => ((laws_total.f k t918).bind fun t932 => (laws_FnTiled.j0 k (wrap64 (1 + (Int.tmod t922 3))) (wrap64 (1 + (Int.tmod t923 3))) (t931 != (wrap64 ((wrap64 ((wrap64 (1 + (Int.tmod t922 3))) * (wrap64 (1 + (Int.tmod t923 3))))) * t932))) t916 t917 t918 bt924.1 bt924.2.1 bt924.2.2.1))) else (laws_FnTiled.j0 k (wrap64 (1 + (Int.tmod t922 3))) (wrap64 (1 + (Int.tmod t923 3))) true t916 t917 t918 bt924.1 bt924.2.1 bt924.2.2.1))))) = some r := H
    have A3 := Aside0.mk A30
    clear A30
    replace H := Option.bind_eq_some_iff.mp H
    obtain ⟨t922, A40, H⟩ := H
    replace H : ((laws_at.f l0 2).bind fun t923 => ((impl_TilePicture.f t916 t917 t918 (wrap64 ((wrap64 (1 + (Int.tmod t922 3))) * t916)) (wrap64 ((wrap64 (1 + (Int.tmod t923 3))) * t917))).bind fun bt924 => (if bt924.2.2.2 = true then ((impl_SumInk.f k bt924.1 bt924.2.1 bt924.2.2.1).bind fun t931 => ((laws_total.f k t918).bind fun t932 => (laws_FnTiled.j0 k (wrap64 (1 + (Int.tmod t922 3))) (wrap64 (1 + (Int.tmod t923 3))) (t931 != (wrap64 ((wrap64 ((wrap64 (1 + (Int.tmod t922 3))) * (wrap64 (1 + (Int.tmod t923 3))))) * t932))) t916 t917 t918 bt924.1 bt924.2.1 bt924.2.2.1))) else (laws_FnTiled.j0 k (wrap64 (1 + (Int.tmod t922 3))) (wrap64 (1 + (Int.tmod t923 3))) true t916 t917 t918 bt924.1 bt924.2.1 bt924.2.2.1)))) = some r := H
    have A4 := Aside0.mk A40
    clear A40
    replace H := Option.bind_eq_some_iff.mp H
    obtain ⟨t923, A50, H⟩ := H
    replace H : ((impl_TilePicture.f t916 t917 t918 (wrap64 ((wrap64 (1 + (Int.tmod t922 3))) * t916)) (wrap64 ((wrap64 (1 + (Int.tmod t923 3))) * t917))).bind fun bt924 => (if bt924.2.2.2 = true then ((impl_SumInk.f k bt924.1 bt924.2.1 bt924.2.2.1).bind fun t931 => ((laws_total.f k t918).bind fun t932 => (laws_FnTiled.j0 k (wrap64 (1 + (Int.tmod t922 3))) (wrap64 (1 + (Int.tmod t923 3))) (t931 != (wrap64 ((wrap64 ((wrap64 (1 + (Int.tmod t922 3))) * (wrap64 (1 + (Int.tmod t923 3))))) * t932))) t916 t917 t918 bt924.1 bt924.2.1 bt924.2.2.1))) else (laws_FnTiled.j0 k (wrap64 (1 + (Int.tmod t922 3))) (wrap64 (1 + (Int.tmod t923 3))) true t916 t917 t918 bt924.1 bt924.2.1 bt924.2.2.1))) = some r := H
    have A5 := Aside0.mk A50
    clear A50
    replace H := Option.bind_eq_some_iff.mp H
    obtain ⟨⟨t924, t925, t926, t929⟩, A60, H⟩ := H
    replace H : (if t929 = true then ((impl_SumInk.f k t924 t925 t926).bind fun t931 => ((laws_total.f k t918).bind fun t932 => (laws_FnTiled.j0 k (wrap64 (1 + (Int.tmod t922 3))) (wrap64 (1 + (Int.tmod t923 3))) (t931 != (wrap64 ((wrap64 ((wrap64 (1 + (Int.tmod t922 3))) * (wrap64 (1 + (Int.tmod t923 3))))) * t932))) t916 t917 t918 t924 t925 t926))) else (laws_FnTiled.j0 k (wrap64 (1 + (Int.tmod t922 3))) (wrap64 (1 + (Int.tmod t923 3))) true t916 t917 t918 t924 t925 t926)) = some r := H
    have A6 := Aside0.mk A60
    clear A60
    have HC7 := Aside0.mk H
    clear H
    go_enter Try.func21, Try.ntmps21
    go_upto_region 7 with (first | ((with_reducible refine gate_callee (f := 67) rfl ?_); refine goesL_ (some 16) rfl rfl Try.func67 (by kernel_rfl) rfl #[.slice A0 l0.length c0, .int .i64 8] rfl (by (try simp only [List.map_toArray, List.map_cons, List.map_nil]); first | done | rfl | (simp only [List.length_drop, List.length_take]; rfl)) ?_; (with_reducible refine (spec_MakePicture.calls k _ _ l0 8 t916 t917 t918 _ ?side1 ?side2 A3.out).mono ?_); (case side1 => repeat (first | exact HR0.out | (with_reducible refine Kd.C_alloc ?_ _) | (with_reducible refine Kd.C_drewN ?_ _) | (with_reducible refine Kd.C_drew ?_))); (case side2 => exact HC0.out); rintro e w8 ⟨v919, rfl, ho0, hb⟩; refine ⟨_, rfl, ?_⟩; have n0_ := Aside0.mk (Kd.R_lower ho0 (below_size (by repeat (first | (with_reducible first | exact HB.out | apply below_alloc | apply pw_below_drewN | apply below_drew1) | exact HB.out)))); have n1_ := Aside0.mk (below_step (by repeat (first | (with_reducible first | exact HB.out | apply below_alloc | apply pw_below_drewN | apply below_drew1) | exact HB.out)) hb); clear HB; have HO920 := n0_; have HB := n1_; clear n0_ n1_; (try clear hb); (try clear hb2); (try clear hk); (try clear hi); (try clear ho0)) | ((with_reducible refine gate_dst (N := 3) rfl ?_); refine box_event ?hg (N := 3) ?hd (cs := #[.int .i64 0, .int .i64 0, .slice none 0 0]) (t := 37) ?hr ?_; (case hd => rfl); (case hg => rfl); (case hr => first | (go_simp; done) | (go_simp; rfl)); intro gb921 hg w9 hbox hb; have n0_ := Aside0.mk (Kd.R_below (by (with_reducible repeat (first | apply Kd.R_alloc | apply Kd.R_drewN | apply Kd.R_drew)); exact HO920.out) hb); have n1_ := Aside0.mk (below_step (by repeat (first | (with_reducible first | exact HB.out | apply below_alloc | apply pw_below_drewN | apply below_drew1) | exact HB.out)) hb); have n2_ := Aside0.mk (hbox); have n3_ := Aside0.mk ((by rw [hg]; exact (below_size (by repeat (first | (with_reducible first | exact HB.out | apply below_alloc | apply pw_below_drewN | apply below_drew1) | exact HB.out))) : w.heap.size ≤ gb921)); have n4_ := Aside0.mk ((by rw [hg]; exact (below_size (by repeat (first | (with_reducible first | exact HB.out | apply below_alloc | apply pw_below_drewN | apply below_drew1) | exact HB.out))) : w.heap.size ≤ gb921)); clear HO920; clear HB; have HO920 := n0_; have HB := n1_; have BK921 := n2_; have GW921 := n3_; have GE921 := n4_; clear n0_ n1_ n2_ n3_ n4_; clear hb hbox hg; have hcz10_0 : w9.cell? ⟨gb921, 0, none⟩ = some (.int .i64 0) := (blk_cell BK921.out 0).trans rfl; have hcz10_1 : w9.cell? ⟨gb921, 1, none⟩ = some (.int .i64 0) := (blk_cell BK921.out 1).trans rfl; have hcz10_2 : w9.cell? ⟨gb921, 2, none⟩ = some (.slice none 0 0) := (blk_cell BK921.out 2).trans rfl; have hfz10_0 := blk_frozen BK921.out 0; have hfz10_1 := blk_frozen BK921.out 1; have hfz10_2 := blk_frozen BK921.out 2; obtain ⟨Ao11, co11, eo11⟩ := Kd.R_slice HO920.out; subst eo11) | ((with_reducible refine gate_callee (f := 52) rfl ?_); refine goesL_ (some 18) rfl rfl Try.func52 (by kernel_rfl) rfl #[.slice A0 l0.length c0, .int .i64 1] rfl (by (try simp only [List.map_toArray, List.map_cons, List.map_nil]); first | done | rfl | (simp only [List.length_drop, List.length_take]; rfl)) ?_; (with_reducible refine (laws_at.calls _ _ l0 1 t922 _ ?side1 ?side2 A4.out).mono ?_); (case side1 => exact Kd.C_below HR0.out (by repeat (first | (with_reducible first | exact HB.out | apply below_alloc | apply pw_below_drewN | apply below_drew1 | refine below_set ?_ GE921.out) | exact HB.out))); (case side2 => exact HC0.out); rintro e w' ⟨rfl, ⟨nd, rfl⟩⟩; refine ⟨_, rfl, ?_⟩) | ((with_reducible refine gate_callee (f := 52) rfl ?_); refine goesL_ (some 22) rfl rfl Try.func52 (by kernel_rfl) rfl #[.slice A0 l0.length c0, .int .i64 2] rfl (by (try simp only [List.map_toArray, List.map_cons, List.map_nil]); first | done | rfl | (simp only [List.length_drop, List.length_take]; rfl)) ?_; (with_reducible refine (laws_at.calls _ _ l0 2 t923 _ ?side1 ?side2 A5.out).mono ?_); (case side1 => exact Kd.C_below HR0.out (by repeat (first | (with_reducible first | exact HB.out | apply below_alloc | apply pw_below_drewN | apply below_drew1 | refine below_set ?_ GE921.out) | exact HB.out))); (case side2 => exact HC0.out); rintro e w' ⟨rfl, ⟨nd, rfl⟩⟩; refine ⟨_, rfl, ?_⟩) | ((with_reducible refine gate_callee (f := 83) rfl ?_); refine goesL_ (some 35) rfl rfl Try.func83 (by kernel_rfl) rfl #[.agg #[.int .i64 t916, .int .i64 t917, .slice Ao11 t918.length co11], .int .i64 (wrap64 ((wrap64 (1 + (Int.tmod t922 3))) * t916)), .int .i64 (wrap64 ((wrap64 (1 + (Int.tmod t923 3))) * t917))] rfl (by (try simp only [List.map_toArray, List.map_cons, List.map_nil]); first | done | rfl | (simp only [List.length_drop, List.length_take]; rfl)) ?_; (with_reducible refine (impl_TilePicture.calls t916 t917 _ _ t918 (wrap64 ((wrap64 (1 + (Int.tmod t922 3))) * t916)) (wrap64 ((wrap64 (1 + (Int.tmod t923 3))) * t917)) t924 t925 t926 t929 _ ?side1 ?side2 A6.out).mono ?_); (case side1 => refine (Kd.R_reads' (e := 3) (base := w.heap.size) (ok := fun k_ => True) (n := t918.length) (c := co11) ?_).2.2; exact (by (with_reducible repeat (first | apply Kd.R_alloc | apply Kd.R_drewN | apply Kd.R_drew)); exact (Kd.R_mono (Kd.R_far (p := ⟨gb921, 2, none⟩) (Kd.R_far (p := ⟨gb921, 1, none⟩) (Kd.R_far (p := ⟨gb921, 0, none⟩) (Kd.R_types HO920.out BK921.out (by decide)) (fun _ hk => hk.2) (.int .i64 t916)) (fun _ hk => hk.2) (.int .i64 t917)) (fun _ hk => hk.2) (.slice Ao11 t918.length co11)) (fun _ h_ => h_.1)))); (case side2 => exact (Kd.R_reads' HO920.out).2.1); rintro e w12 ⟨v927, rfl, ho0, hb⟩; refine ⟨_, rfl, ?_⟩; have n0_ := Aside0.mk (Kd.R_elder' (by (with_reducible repeat (first | apply Kd.R_alloc | apply Kd.R_drewN | apply Kd.R_drew)); exact (Kd.R_mono (Kd.R_far (p := ⟨gb921, 2, none⟩) (Kd.R_far (p := ⟨gb921, 1, none⟩) (Kd.R_far (p := ⟨gb921, 0, none⟩) (Kd.R_types HO920.out BK921.out (by decide)) (fun _ hk => hk.2) (.int .i64 t916)) (fun _ hk => hk.2) (.int .i64 t917)) (fun _ hk => hk.2) (.slice Ao11 t918.length co11)) (fun _ h_ => h_.1))) (Kd.R_base ho0) hb); have n1_ := Aside0.mk (Kd.R_lower (Kd.R_new' ho0 (Kd.R_lt (by (with_reducible repeat (first | apply Kd.R_alloc | apply Kd.R_drewN | apply Kd.R_drew)); exact (Kd.R_mono (Kd.R_far (p := ⟨gb921, 2, none⟩) (Kd.R_far (p := ⟨gb921, 1, none⟩) (Kd.R_far (p := ⟨gb921, 0, none⟩) (Kd.R_types HO920.out BK921.out (by decide)) (fun _ hk => hk.2) (.int .i64 t916)) (fun _ hk => hk.2) (.int .i64 t917)) (fun _ hk => hk.2) (.slice Ao11 t918.length co11)) (fun _ h_ => h_.1))))) (below_size (by repeat (first | (with_reducible first | exact HB.out | apply below_alloc | apply pw_below_drewN | apply below_drew1 | refine below_set ?_ GE921.out) | exact HB.out)))); have n2_ := Aside0.mk (blk_below (g := gb921) (o := .cells #[.int .i64 t916, .int .i64 t917, .slice Ao11 t918.length co11] 37 (0, 0)) (by (with_reducible repeat (first | refine blk_drewN ?_ _ | refine blk_drew ?_ | refine blk_alloc ?_ _)); refine blk_put (cs := #[.int .i64 t916, .int .i64 t917, .slice none 0 0]) ?_ 2 _ rfl; (with_reducible repeat (first | refine blk_drewN ?_ _ | refine blk_drew ?_ | refine blk_alloc ?_ _)); refine blk_put (cs := #[.int .i64 t916, .int .i64 0, .slice none 0 0]) ?_ 1 _ rfl; (with_reducible repeat (first | refine blk_drewN ?_ _ | refine blk_drew ?_ | refine blk_alloc ?_ _)); refine blk_put (cs := #[.int .i64 0, .int .i64 0, .slice none 0 0]) ?_ 0 _ rfl; (with_reducible repeat (first | refine blk_drewN ?_ _ | refine blk_drew ?_ | refine blk_alloc ?_ _)); exact BK921.out) hb); have n3_ := Aside0.mk (below_step (by repeat (first | (with_reducible first | exact HB.out | apply below_alloc | apply pw_below_drewN | apply below_drew1 | refine below_set ?_ GE921.out) | exact HB.out)) hb); clear HO920; clear BK921; clear HB; have HO920 := n0_; have HO928 := n1_; have BK921 := n2_; have HB := n3_; clear n0_ n1_ n2_ n3_; (try clear hb); (try clear hb2); (try clear hk); (try clear hi); (try clear ho0)) | ((with_reducible refine gate_dst (N := 6) rfl ?_); refine box_event ?hg (N := 6) ?hd (cs := #[.int .i64 0, .int .i64 0, .slice none 0 0]) (t := 37) ?hr ?_; (case hd => rfl); (case hg => rfl); (case hr => first | (go_simp; done) | (go_simp; rfl)); intro gb930 hg w13 hbox hb; have n0_ := Aside0.mk (Kd.R_below (by (with_reducible repeat (first | apply Kd.R_alloc | apply Kd.R_drewN | apply Kd.R_drew)); exact HO920.out) hb); have n1_ := Aside0.mk (Kd.R_below (by (with_reducible repeat (first | apply Kd.R_alloc | apply Kd.R_drewN | apply Kd.R_drew)); exact HO928.out) hb); have n2_ := Aside0.mk (blk_below (g := gb921) (o := .cells #[.int .i64 t916, .int .i64 t917, .slice Ao11 t918.length co11] 37 (0, 0)) (by (with_reducible repeat (first | refine blk_drewN ?_ _ | refine blk_drew ?_ | refine blk_alloc ?_ _)); exact BK921.out) hb); have n3_ := Aside0.mk (below_step (by repeat (first | (with_reducible first | exact HB.out | apply below_alloc | apply pw_below_drewN | apply below_drew1 | refine below_set ?_ GE921.out) | exact HB.out)) hb); have n4_ := Aside0.mk (hbox); have n5_ := Aside0.mk ((by rw [hg]; exact (below_size (by repeat (first | (with_reducible first | exact HB.out | apply below_alloc | apply pw_below_drewN | apply below_drew1 | refine below_set ?_ GE921.out) | exact HB.out))) : w.heap.size ≤ gb930)); have n6_ := Aside0.mk ((by rw [hg]; exact (below_size (by repeat (first | (with_reducible first | exact HB.out | apply below_alloc | apply pw_below_drewN | apply below_drew1 | refine below_set ?_ GE921.out) | exact HB.out))) : w.heap.size ≤ gb930)); have n7_ := Aside0.mk ((by rw [hg]; exact Nat.ne_of_lt (blk_lt (g := gb921) (o := .cells #[.int .i64 t916, .int .i64 t917, .slice Ao11 t918.length co11] 37 (0, 0)) (by (with_reducible repeat (first | refine blk_drewN ?_ _ | refine blk_drew ?_ | refine blk_alloc ?_ _)); exact BK921.out)) : gb921 ≠ gb930)); have n8_ := Aside0.mk ((by rw [hg]; exact Nat.ne_of_gt (blk_lt (g := gb921) (o := .cells #[.int .i64 t916, .int .i64 t917, .slice Ao11 t918.length co11] 37 (0, 0)) (by (with_reducible repeat (first | refine blk_drewN ?_ _ | refine blk_drew ?_ | refine blk_alloc ?_ _)); exact BK921.out)) : gb930 ≠ gb921)); clear HO920; clear HO928; clear BK921; clear HB; have HO920 := n0_; have HO928 := n1_; have BK921 := n2_; have HB := n3_; have BK930 := n4_; have GW930 := n5_; have GE930 := n6_; have NB921_930 := n7_; have NB930_921 := n8_; clear n0_ n1_ n2_ n3_ n4_ n5_ n6_ n7_ n8_; clear hb hbox hg; have hnb14 := NB930_921.out; have hnc14 := NB921_930.out; have hcz15_0 : w13.cell? ⟨gb930, 0, none⟩ = some (.int .i64 0) := (blk_cell BK930.out 0).trans rfl; have hcz15_1 : w13.cell? ⟨gb930, 1, none⟩ = some (.int .i64 0) := (blk_cell BK930.out 1).trans rfl; have hcz15_2 : w13.cell? ⟨gb930, 2, none⟩ = some (.slice none 0 0) := (blk_cell BK930.out 2).trans rfl; have hfz15_0 := blk_frozen BK930.out 0; have hfz15_1 := blk_frozen BK930.out 1; have hfz15_2 := blk_frozen BK930.out 2; obtain ⟨Ao16, co16, eo16⟩ := Kd.R_slice HO928.out; subst eo16))
    (try simp only [Act.put, List.setIfInBounds_toArray, List.set_cons_zero, List.set_cons_succ])
    go_cut [51] (fun v51 wc => ∃ (kq : Nat) (x51_6 : Bool), v51 = .bool x51_6 ∧ Aside0 (laws_FnTiled.j0 kq (wrap64 (1 + (Int.tmod t922 3))) (wrap64 (1 + (Int.tmod t923 3))) x51_6 t916 t917 t918 t924 t925 t926 = some r) ∧ Aside0 (kq ≤ k) ∧ Aside0 (Kd.R (Kd.int .i64) 3 wc w.heap.size (fun k_ => some k_ ≠ ((.slice Ao16 t926.length co16) : Value).ownBlock) (.slice Ao11 t918.length co11) t918) ∧ Aside0 (Kd.R (Kd.int .i64) 3 wc w.heap.size (fun k_ => some k_ ≠ ((.slice Ao11 t918.length co11) : Value).ownBlock) (.slice Ao16 t926.length co16) t926) ∧ Aside0 (wc.heap[gb921]? = some (.cells #[.int .i64 t916, .int .i64 t917, (.slice Ao11 t918.length co11)] 37 (0, 0))) ∧ Aside0 (wc.heap[gb930]? = some (.cells #[.int .i64 t924, .int .i64 t925, (.slice Ao16 t926.length co16)] 37 (0, 0))) ∧ Aside0 (Below w.heap.size w wc))
    case first =>
      have H := HC7.out
      clear HC7
      by_cases c17 : t929 = true
      · subst c17
        have H1 : ((impl_SumInk.f k t924 t925 t926).bind fun t931 => ((laws_total.f k t918).bind fun t932 => (laws_FnTiled.j0 k (wrap64 (1 + (Int.tmod t922 3))) (wrap64 (1 + (Int.tmod t923 3))) (t931 != (wrap64 ((wrap64 ((wrap64 (1 + (Int.tmod t922 3))) * (wrap64 (1 + (Int.tmod t923 3))))) * t932))) t916 t917 t918 t924 t925 t926))) = some r := by rw [if_pos rfl] at H; exact H
        clear H
        have H := H1
        clear H1
        replace H := Option.bind_eq_some_iff.mp H
        obtain ⟨t931, A180, H⟩ := H
        replace H : ((laws_total.f k t918).bind fun t932 => (laws_FnTiled.j0 k (wrap64 (1 + (Int.tmod t922 3))) (wrap64 (1 + (Int.tmod t923 3))) (t931 != (wrap64 ((wrap64 ((wrap64 (1 + (Int.tmod t922 3))) * (wrap64 (1 + (Int.tmod t923 3))))) * t932))) t916 t917 t918 t924 t925 t926)) = some r := H
        have A18 := Aside0.mk A180
        clear A180
        replace H := Option.bind_eq_some_iff.mp H
        obtain ⟨t932, A190, H⟩ := H
        replace H : (laws_FnTiled.j0 k (wrap64 (1 + (Int.tmod t922 3))) (wrap64 (1 + (Int.tmod t923 3))) (t931 != (wrap64 ((wrap64 ((wrap64 (1 + (Int.tmod t922 3))) * (wrap64 (1 + (Int.tmod t923 3))))) * t932))) t916 t917 t918 t924 t925 t926) = some r := H
        have A19 := Aside0.mk A190
        clear A190
        have H' := Aside0.mk H
        clear H
        try go_wp2
        have n0_ : Aside0 (Kd.R (Kd.int .i64) 3 (((w13.setCell ⟨gb930, 0, none⟩ (.int .i64 t924)).setCell ⟨gb930, 1, none⟩ (.int .i64 t925)).setCell ⟨gb930, 2, none⟩ (.slice Ao16 t926.length co16)) w.heap.size (fun k_ => some k_ ≠ (.slice Ao16 t926.length co16 : Value).ownBlock) (.slice Ao11 t918.length co11) t918) := ⟨by (with_reducible repeat (first | apply Kd.R_alloc | apply Kd.R_drewN | apply Kd.R_drew)); exact Kd.R_mono (Kd.R_far (p := ⟨gb930, 2, none⟩) (Kd.R_far (p := ⟨gb930, 1, none⟩) (Kd.R_far (p := ⟨gb930, 0, none⟩) (Kd.R_types HO920.out BK930.out (by decide)) (fun _ hk => hk.2) (.int .i64 t924)) (fun _ hk => hk.2) (.int .i64 t925)) (fun _ hk => hk.2) (.slice Ao16 t926.length co16)) (fun _ hk => hk.1.2)⟩
        have n1_ : Aside0 (Kd.R (Kd.int .i64) 3 (((w13.setCell ⟨gb930, 0, none⟩ (.int .i64 t924)).setCell ⟨gb930, 1, none⟩ (.int .i64 t925)).setCell ⟨gb930, 2, none⟩ (.slice Ao16 t926.length co16)) w.heap.size (fun k_ => some k_ ≠ (.slice Ao11 t918.length co11 : Value).ownBlock) (.slice Ao16 t926.length co16) t926) := ⟨by (with_reducible repeat (first | apply Kd.R_alloc | apply Kd.R_drewN | apply Kd.R_drew)); exact Kd.R_mono (Kd.R_far (p := ⟨gb930, 2, none⟩) (Kd.R_far (p := ⟨gb930, 1, none⟩) (Kd.R_far (p := ⟨gb930, 0, none⟩) (Kd.R_types HO928.out BK930.out (by decide)) (fun _ hk => hk.2) (.int .i64 t924)) (fun _ hk => hk.2) (.int .i64 t925)) (fun _ hk => hk.2) (.slice Ao16 t926.length co16)) (fun _ hk => hk.1.2)⟩
        have n2_ : Aside0 ((((w13.setCell ⟨gb930, 0, none⟩ (.int .i64 t924)).setCell ⟨gb930, 1, none⟩ (.int .i64 t925)).setCell ⟨gb930, 2, none⟩ (.slice Ao16 t926.length co16)).heap[gb921]? = some (.cells #[.int .i64 t916, .int .i64 t917, .slice Ao11 t918.length co11] 37 (0, 0))) := ⟨by (with_reducible repeat (first | refine blk_drewN ?_ _ | refine blk_drew ?_ | refine blk_alloc ?_ _)); refine blk_far ?_ NB921_930.out _; (with_reducible repeat (first | refine blk_drewN ?_ _ | refine blk_drew ?_ | refine blk_alloc ?_ _)); refine blk_far ?_ NB921_930.out _; (with_reducible repeat (first | refine blk_drewN ?_ _ | refine blk_drew ?_ | refine blk_alloc ?_ _)); refine blk_far ?_ NB921_930.out _; (with_reducible repeat (first | refine blk_drewN ?_ _ | refine blk_drew ?_ | refine blk_alloc ?_ _)); exact BK921.out⟩
        have n3_ : Aside0 ((((w13.setCell ⟨gb930, 0, none⟩ (.int .i64 t924)).setCell ⟨gb930, 1, none⟩ (.int .i64 t925)).setCell ⟨gb930, 2, none⟩ (.slice Ao16 t926.length co16)).heap[gb930]? = some (.cells #[.int .i64 t924, .int .i64 t925, .slice Ao16 t926.length co16] 37 (0, 0))) := ⟨by (with_reducible repeat (first | refine blk_drewN ?_ _ | refine blk_drew ?_ | refine blk_alloc ?_ _)); refine blk_put (cs := #[.int .i64 t924, .int .i64 t925, .slice none 0 0]) ?_ 2 _ rfl; (with_reducible repeat (first | refine blk_drewN ?_ _ | refine blk_drew ?_ | refine blk_alloc ?_ _)); refine blk_put (cs := #[.int .i64 t924, .int .i64 0, .slice none 0 0]) ?_ 1 _ rfl; (with_reducible repeat (first | refine blk_drewN ?_ _ | refine blk_drew ?_ | refine blk_alloc ?_ _)); refine blk_put (cs := #[.int .i64 0, .int .i64 0, .slice none 0 0]) ?_ 0 _ rfl; (with_reducible repeat (first | refine blk_drewN ?_ _ | refine blk_drew ?_ | refine blk_alloc ?_ _)); exact BK930.out⟩
        have n4_ : Aside0 (Below w.heap.size w (((w13.setCell ⟨gb930, 0, none⟩ (.int .i64 t924)).setCell ⟨gb930, 1, none⟩ (.int .i64 t925)).setCell ⟨gb930, 2, none⟩ (.slice Ao16 t926.length co16))) := ⟨by repeat (first | (with_reducible first | exact HB.out | apply below_alloc | apply pw_below_drewN | apply below_drew1 | refine below_set ?_ GE921.out | refine below_set ?_ GE930.out) | exact HB.out)⟩
        (try clear HO920)
        (try clear HO928)
        (try clear BK921)
        (try clear BK930)
        (try clear HB)
        generalize (((w13.setCell ⟨gb930, 0, none⟩ (.int .i64 t924)).setCell ⟨gb930, 1, none⟩ (.int .i64 t925)).setCell ⟨gb930, 2, none⟩ (.slice Ao16 t926.length co16)) = w20 at n0_ n1_ n2_ n3_ n4_ ⊢
        have HO920 := n0_
        have HO928 := n1_
        have BK921 := n2_
        have BK930 := n3_
        have HB := n4_
        clear n0_ n1_ n2_ n3_ n4_
        have n0_ := Aside0.mk (Kd.R_drew HO920.out)
        have n1_ := Aside0.mk (Kd.R_drew HO928.out)
        have n2_ := Aside0.mk (blk_drew BK921.out)
        have n3_ := Aside0.mk (blk_drew BK930.out)
        have n4_ := Aside0.mk (below_drew1 HB.out)
        clear HO920
        clear HO928
        clear BK921
        clear BK930
        clear HB
        have HO920 := n0_
        have HO928 := n1_
        have BK921 := n2_
        have BK930 := n3_
        have HB := n4_
        clear n0_ n1_ n2_ n3_ n4_
        refine start_ (n := 14) (S := fun w' => w'.cell? ⟨gb930, 0, none⟩ = some (.int .i64 t924) ∧ w'.cell? ⟨gb930, 1, none⟩ = some (.int .i64 t925) ∧ w'.cell? ⟨gb930, 2, none⟩ = some (.slice Ao16 t926.length co16) ∧ w'.cell? ⟨gb921, 0, none⟩ = some (.int .i64 t916) ∧ w'.cell? ⟨gb921, 1, none⟩ = some (.int .i64 t917) ∧ w'.cell? ⟨gb921, 2, none⟩ = some (.slice Ao11 t918.length co11)) (ds := []) #[false, false, false, false, false, false, false, false, false, false, false, false, false, false] (by kernel_rfl) rfl rfl ⟨(blk_cell BK930.out 0).trans rfl, (blk_cell BK930.out 1).trans rfl, (blk_cell BK930.out 2).trans rfl, (blk_cell BK921.out 0).trans rfl, (blk_cell BK921.out 1).trans rfl, (blk_cell BK921.out 2).trans rfl⟩ (fun hHeld => ?_); refine with_tabW laws_FnTiled.tab7 laws_FnTiled.bits7 (fun HT_ HW_ => ?_)
        generalize w20.drew = w21 at HO920 HO928 BK921 BK930 HB hHeld ⊢
        refine pure_ (i := 0) (N := some 38) (v := ?_) (a' := ?_) #[true, false, false, false, false, false, false, false, false, false, false, false, false, false] rfl rfl (any_of HT_.out (by kernel_rfl)) (fun _ _ _ h => h) (Or.inl ⟨by rfl, ?_⟩) ?_ ?_
        rotate_left
        · intro w'
          go_simp
          with_reducible rfl
        rotate_left
        · simp only [Act.put, List.setIfInBounds_toArray, List.set_cons_zero, List.set_cons_succ, i64_w, i32_w]
          rfl
        refine pure_ (i := 1) (N := some 39) (v := ?_) (a' := ?_) #[true, true, false, false, false, false, false, false, false, false, false, false, false, false] rfl rfl (any_of HT_.out (by kernel_rfl)) (fun _ _ _ h => h) (Or.inl ⟨by rfl, ?_⟩) ?_ ?_
        rotate_left
        · intro w'
          go_simp
          with_reducible rfl
        rotate_left
        · simp only [Act.put, List.setIfInBounds_toArray, List.set_cons_zero, List.set_cons_succ, i64_w, i32_w]
          rfl
        refine pure_ (i := 2) (N := some 40) (v := ?_) (a' := ?_) #[true, true, true, false, false, false, false, false, false, false, false, false, false, false] rfl rfl (any_of HT_.out (by kernel_rfl)) (fun _ _ _ h => h) (Or.inl ⟨by rfl, ?_⟩) ?_ ?_
        rotate_left
        · intro w'
          go_simp
          with_reducible rfl
        rotate_left
        · simp only [Act.put, List.setIfInBounds_toArray, List.set_cons_zero, List.set_cons_succ, i64_w, i32_w]
          rfl
        refine pure_ (i := 5) (N := some 43) (v := ?_) (a' := ?_) #[true, true, true, false, false, true, false, false, false, false, false, false, false, false] rfl rfl (any_of HT_.out (by kernel_rfl)) (fun _ _ _ h => h) (Or.inl ⟨by rfl, ?_⟩) ?_ ?_
        rotate_left
        · intro w'
          go_simp
          with_reducible rfl
        rotate_left
        · simp only [Act.put, List.setIfInBounds_toArray, List.set_cons_zero, List.set_cons_succ, i64_w, i32_w]
          rfl
        refine pure_ (i := 6) (N := some 44) (v := ?_) (a' := ?_) #[true, true, true, false, false, true, true, false, false, false, false, false, false, false] rfl rfl (any_of HT_.out (by kernel_rfl)) (fun _ _ _ h => h) (Or.inl ⟨by rfl, ?_⟩) ?_ ?_
        rotate_left
        · intro w'
          go_simp
          with_reducible rfl
        rotate_left
        · simp only [Act.put, List.setIfInBounds_toArray, List.set_cons_zero, List.set_cons_succ, i64_w, i32_w]
          rfl
        refine pure_ (i := 7) (N := some 45) (v := ?_) (a' := ?_) #[true, true, true, false, false, true, true, true, false, false, false, false, false, false] rfl rfl (any_of HT_.out (by kernel_rfl)) (fun _ _ _ h => h) (Or.inl ⟨by rfl, ?_⟩) ?_ ?_
        rotate_left
        · intro w'
          go_simp
          with_reducible rfl
        rotate_left
        · simp only [Act.put, List.setIfInBounds_toArray, List.set_cons_zero, List.set_cons_succ, i64_w, i32_w]
          rfl
        refine pure_ (i := 8) (N := some 46) (v := ?_) (a' := ?_) #[true, true, true, false, false, true, true, true, true, false, false, false, false, false] rfl rfl (any_of HT_.out (by kernel_rfl)) (fun _ _ _ h => h) (Or.inl ⟨by rfl, ?_⟩) ?_ ?_
        rotate_left
        · intro w'
          go_simp
          with_reducible rfl
        rotate_left
        · simp only [Act.put, List.setIfInBounds_toArray, List.set_cons_zero, List.set_cons_succ, i64_w, i32_w]
          rfl
        refine take_ (i := 3) (N := some 41) (v := ?_) (a' := ?_) #[true, true, true, true, false, true, true, true, true, false, false, false, false, false] rfl rfl (take_ofW HT_.out HW_.out (by kernel_rfl)) (fun _ _ _ h => h) (Or.inl ⟨by rfl, ?_⟩) hHeld ?_ ?_
        rotate_left
        · rintro w' ⟨s0, s1, s2, s3, s4, s5⟩
          go_simp
          with_reducible rfl
        rotate_left
        · simp only [Act.put, List.setIfInBounds_toArray, List.set_cons_zero, List.set_cons_succ, i64_w, i32_w]
          rfl
        refine take_ (i := 9) (N := some 47) (v := ?_) (a' := ?_) #[true, true, true, true, false, true, true, true, true, true, false, false, false, false] rfl rfl (take_ofW HT_.out HW_.out (by kernel_rfl)) (fun _ _ _ h => h) (Or.inl ⟨by rfl, ?_⟩) hHeld ?_ ?_
        rotate_left
        · rintro w' ⟨s0, s1, s2, s3, s4, s5⟩
          go_simp
          with_reducible rfl
        rotate_left
        · simp only [Act.put, List.setIfInBounds_toArray, List.set_cons_zero, List.set_cons_succ, i64_w, i32_w]
          rfl
        refine one_ (i := 4) (N := some 42) #[true, true, true, true, true, true, true, true, true, true, false, false, false, false] rfl rfl (one_of HT_.out (by kernel_rfl)) (by decide) (fun K hK => ?_)
        refine goes_ Try.func76 (by kernel_rfl) rfl #[.agg #[.int .i64 t924, .int .i64 t925, .slice Ao16 t926.length co16]] (by rfl) rfl rfl (by (try simp only [List.map_toArray, List.map_cons, List.map_nil]); first | done | rfl | (simp only [List.length_drop, List.length_take]; rfl)) ?_
        with_reducible refine (impl_SumInk.calls k t924 t925 _ _ t926 t931 _ ?side1 ?side2 A18.out).mono ?_
        (case side1 => repeat (first | exact (Kd.R_reads' HO928.out).2.2 | (with_reducible refine Kd.C_alloc ?_ _) | (with_reducible refine Kd.C_drewN ?_ _) | (with_reducible refine Kd.C_drew ?_)))
        (case side2 => exact (Kd.R_reads' HO928.out).2.1)
        rintro e w22 ⟨rfl, hb⟩
        refine ⟨_, rfl, ?_⟩
        have n0_ := Aside0.mk (Kd.R_below (by (with_reducible repeat (first | apply Kd.R_alloc | apply Kd.R_drewN | apply Kd.R_drew)); exact HO920.out) hb)
        have n1_ := Aside0.mk (Kd.R_below (by (with_reducible repeat (first | apply Kd.R_alloc | apply Kd.R_drewN | apply Kd.R_drew)); exact HO928.out) hb)
        have n2_ := Aside0.mk (blk_below (g := gb921) (o := .cells #[.int .i64 t916, .int .i64 t917, .slice Ao11 t918.length co11] 37 (0, 0)) (by (with_reducible repeat (first | refine blk_drewN ?_ _ | refine blk_drew ?_ | refine blk_alloc ?_ _)); exact BK921.out) hb)
        have n3_ := Aside0.mk (blk_below (g := gb930) (o := .cells #[.int .i64 t924, .int .i64 t925, .slice Ao16 t926.length co16] 37 (0, 0)) (by (with_reducible repeat (first | refine blk_drewN ?_ _ | refine blk_drew ?_ | refine blk_alloc ?_ _)); exact BK930.out) hb)
        have n4_ := Aside0.mk (below_step (by repeat (first | (with_reducible first | exact HB.out | apply below_alloc | apply pw_below_drewN | apply below_drew1 | refine below_set ?_ GE921.out | refine below_set ?_ GE930.out) | exact HB.out)) hb)
        clear HO920
        clear HO928
        clear BK921
        clear BK930
        clear HB
        have HO920 := n0_
        have HO928 := n1_
        have BK921 := n2_
        have BK930 := n3_
        have HB := n4_
        clear n0_ n1_ n2_ n3_ n4_
        (try clear hb)
        (try clear hb2)
        (try clear hk)
        (try clear hi)
        refine hK.out _ _ ⟨(blk_cell BK930.out 0).trans rfl, (blk_cell BK930.out 1).trans rfl, (blk_cell BK930.out 2).trans rfl, (blk_cell BK921.out 0).trans rfl, (blk_cell BK921.out 1).trans rfl, (blk_cell BK921.out 2).trans rfl⟩ (fun hHeld => ?_)
        clear hK K
        refine norm_ (a' := ?_) ?_ ?_
        rotate_left
        · show Act.put _ (some 42) _ = _
          simp only [Act.put, List.setIfInBounds_toArray, List.set_cons_zero, List.set_cons_succ, i64_w, i32_w]
          rfl
        refine one_ (i := 10) (N := some 48) #[true, true, true, true, true, true, true, true, true, true, true, false, false, false] rfl rfl (one_of HT_.out (by kernel_rfl)) (by decide) (fun K hK => ?_)
        refine goes_ Try.func55 (by kernel_rfl) rfl #[.slice Ao11 t918.length co11] (by rfl) rfl rfl (by (try simp only [List.map_toArray, List.map_cons, List.map_nil]); first | done | rfl | (simp only [List.length_drop, List.length_take]; rfl)) ?_
        with_reducible refine (laws_total.calls k _ _ t918 t932 _ ?side1 ?side2 A19.out).mono ?_
        (case side1 => repeat (first | exact (Kd.R_reads' HO920.out).2.2 | (with_reducible refine Kd.C_alloc ?_ _) | (with_reducible refine Kd.C_drewN ?_ _) | (with_reducible refine Kd.C_drew ?_)))
        (case side2 => exact (Kd.R_reads' HO920.out).2.1)
        rintro e w' ⟨rfl, ⟨nd, rfl⟩⟩
        refine ⟨_, rfl, ?_⟩
        refine hK.out _ _ ⟨(blk_cell BK930.out 0).trans rfl, (blk_cell BK930.out 1).trans rfl, (blk_cell BK930.out 2).trans rfl, (blk_cell BK921.out 0).trans rfl, (blk_cell BK921.out 1).trans rfl, (blk_cell BK921.out 2).trans rfl⟩ (fun hHeld => ?_)
        clear hK K
        refine norm_ (a' := ?_) ?_ ?_
        rotate_left
        · show Act.put _ (some 48) _ = _
          simp only [Act.put, List.setIfInBounds_toArray, List.set_cons_zero, List.set_cons_succ, i64_w, i32_w]
          rfl
        refine pure_ (i := 11) (N := some 49) (v := ?_) (a' := ?_) #[true, true, true, true, true, true, true, true, true, true, true, true, false, false] rfl rfl (any_of HT_.out (by kernel_rfl)) (fun _ _ _ h => h) (Or.inl ⟨by rfl, ?_⟩) ?_ ?_
        rotate_left
        · intro w'
          go_simp
          with_reducible rfl
        rotate_left
        · simp only [Act.put, List.setIfInBounds_toArray, List.set_cons_zero, List.set_cons_succ, i64_w, i32_w]
          rfl
        refine pure_ (i := 12) (N := some 50) (v := ?_) (a' := ?_) #[true, true, true, true, true, true, true, true, true, true, true, true, true, false] rfl rfl (any_of HT_.out (by kernel_rfl)) (fun _ _ _ h => h) (Or.inl ⟨by rfl, ?_⟩) ?_ ?_
        rotate_left
        · intro w'
          go_simp
          with_reducible rfl
        rotate_left
        · simp only [Act.put, List.setIfInBounds_toArray, List.set_cons_zero, List.set_cons_succ, i64_w, i32_w]
          rfl
        refine pure_ (i := 13) (N := some 51) (v := ?_) (a' := ?_) #[true, true, true, true, true, true, true, true, true, true, true, true, true, true] rfl rfl (any_of HT_.out (by kernel_rfl)) (fun _ _ _ h => h) (Or.inl ⟨by rfl, ?_⟩) ?_ ?_
        rotate_left
        · intro w'
          go_simp
          with_reducible rfl
        rotate_left
        · simp only [Act.put, List.setIfInBounds_toArray, List.set_cons_zero, List.set_cons_succ, i64_w, i32_w]
          rfl
        refine done_ (done_of HT_.out (by kernel_rfl)) ?_
        try go_wp2
        go_meet
        case rel => exact ⟨_, ((t931 != (wrap64 ((wrap64 ((wrap64 (1 + (Int.tmod t922 3))) * (wrap64 (1 + (Int.tmod t923 3))))) * t932)))), (by first | rfl | (simp; done) | (simp [*]; done)), H', ⟨by first | omega | exact Nat.le_refl _⟩, ⟨by (with_reducible repeat (first | apply Kd.R_alloc | apply Kd.R_drewN | apply Kd.R_drew)); exact HO920.out⟩, ⟨by (with_reducible repeat (first | apply Kd.R_alloc | apply Kd.R_drewN | apply Kd.R_drew)); exact HO928.out⟩, ⟨by (with_reducible repeat (first | refine blk_drewN ?_ _ | refine blk_drew ?_ | refine blk_alloc ?_ _)); exact BK921.out⟩, ⟨by (with_reducible repeat (first | refine blk_drewN ?_ _ | refine blk_drew ?_ | refine blk_alloc ?_ _)); exact BK930.out⟩, ⟨by repeat (first | (with_reducible first | exact HB.out | apply below_alloc | apply pw_below_drewN | apply below_drew1 | refine below_set ?_ GE921.out | refine below_set ?_ GE930.out) | exact HB.out)⟩⟩
      · replace c17 := Bool.eq_false_iff.mpr c17
        subst c17
        have H1 : (laws_FnTiled.j0 k (wrap64 (1 + (Int.tmod t922 3))) (wrap64 (1 + (Int.tmod t923 3))) true t916 t917 t918 t924 t925 t926) = some r := by rw [if_neg (show ¬ (false = true) by decide)] at H; exact H
        clear H
        have H := H1
        clear H1
        have H' := Aside0.mk H
        clear H
        try go_wp2
        have n0_ : Aside0 (Kd.R (Kd.int .i64) 3 (((w13.setCell ⟨gb930, 0, none⟩ (.int .i64 t924)).setCell ⟨gb930, 1, none⟩ (.int .i64 t925)).setCell ⟨gb930, 2, none⟩ (.slice Ao16 t926.length co16)) w.heap.size (fun k_ => some k_ ≠ (.slice Ao16 t926.length co16 : Value).ownBlock) (.slice Ao11 t918.length co11) t918) := ⟨by (with_reducible repeat (first | apply Kd.R_alloc | apply Kd.R_drewN | apply Kd.R_drew)); exact Kd.R_mono (Kd.R_far (p := ⟨gb930, 2, none⟩) (Kd.R_far (p := ⟨gb930, 1, none⟩) (Kd.R_far (p := ⟨gb930, 0, none⟩) (Kd.R_types HO920.out BK930.out (by decide)) (fun _ hk => hk.2) (.int .i64 t924)) (fun _ hk => hk.2) (.int .i64 t925)) (fun _ hk => hk.2) (.slice Ao16 t926.length co16)) (fun _ hk => hk.1.2)⟩
        have n1_ : Aside0 (Kd.R (Kd.int .i64) 3 (((w13.setCell ⟨gb930, 0, none⟩ (.int .i64 t924)).setCell ⟨gb930, 1, none⟩ (.int .i64 t925)).setCell ⟨gb930, 2, none⟩ (.slice Ao16 t926.length co16)) w.heap.size (fun k_ => some k_ ≠ (.slice Ao11 t918.length co11 : Value).ownBlock) (.slice Ao16 t926.length co16) t926) := ⟨by (with_reducible repeat (first | apply Kd.R_alloc | apply Kd.R_drewN | apply Kd.R_drew)); exact Kd.R_mono (Kd.R_far (p := ⟨gb930, 2, none⟩) (Kd.R_far (p := ⟨gb930, 1, none⟩) (Kd.R_far (p := ⟨gb930, 0, none⟩) (Kd.R_types HO928.out BK930.out (by decide)) (fun _ hk => hk.2) (.int .i64 t924)) (fun _ hk => hk.2) (.int .i64 t925)) (fun _ hk => hk.2) (.slice Ao16 t926.length co16)) (fun _ hk => hk.1.2)⟩
        have n2_ : Aside0 ((((w13.setCell ⟨gb930, 0, none⟩ (.int .i64 t924)).setCell ⟨gb930, 1, none⟩ (.int .i64 t925)).setCell ⟨gb930, 2, none⟩ (.slice Ao16 t926.length co16)).heap[gb921]? = some (.cells #[.int .i64 t916, .int .i64 t917, .slice Ao11 t918.length co11] 37 (0, 0))) := ⟨by (with_reducible repeat (first | refine blk_drewN ?_ _ | refine blk_drew ?_ | refine blk_alloc ?_ _)); refine blk_far ?_ NB921_930.out _; (with_reducible repeat (first | refine blk_drewN ?_ _ | refine blk_drew ?_ | refine blk_alloc ?_ _)); refine blk_far ?_ NB921_930.out _; (with_reducible repeat (first | refine blk_drewN ?_ _ | refine blk_drew ?_ | refine blk_alloc ?_ _)); refine blk_far ?_ NB921_930.out _; (with_reducible repeat (first | refine blk_drewN ?_ _ | refine blk_drew ?_ | refine blk_alloc ?_ _)); exact BK921.out⟩
        have n3_ : Aside0 ((((w13.setCell ⟨gb930, 0, none⟩ (.int .i64 t924)).setCell ⟨gb930, 1, none⟩ (.int .i64 t925)).setCell ⟨gb930, 2, none⟩ (.slice Ao16 t926.length co16)).heap[gb930]? = some (.cells #[.int .i64 t924, .int .i64 t925, .slice Ao16 t926.length co16] 37 (0, 0))) := ⟨by (with_reducible repeat (first | refine blk_drewN ?_ _ | refine blk_drew ?_ | refine blk_alloc ?_ _)); refine blk_put (cs := #[.int .i64 t924, .int .i64 t925, .slice none 0 0]) ?_ 2 _ rfl; (with_reducible repeat (first | refine blk_drewN ?_ _ | refine blk_drew ?_ | refine blk_alloc ?_ _)); refine blk_put (cs := #[.int .i64 t924, .int .i64 0, .slice none 0 0]) ?_ 1 _ rfl; (with_reducible repeat (first | refine blk_drewN ?_ _ | refine blk_drew ?_ | refine blk_alloc ?_ _)); refine blk_put (cs := #[.int .i64 0, .int .i64 0, .slice none 0 0]) ?_ 0 _ rfl; (with_reducible repeat (first | refine blk_drewN ?_ _ | refine blk_drew ?_ | refine blk_alloc ?_ _)); exact BK930.out⟩
        have n4_ : Aside0 (Below w.heap.size w (((w13.setCell ⟨gb930, 0, none⟩ (.int .i64 t924)).setCell ⟨gb930, 1, none⟩ (.int .i64 t925)).setCell ⟨gb930, 2, none⟩ (.slice Ao16 t926.length co16))) := ⟨by repeat (first | (with_reducible first | exact HB.out | apply below_alloc | apply pw_below_drewN | apply below_drew1 | refine below_set ?_ GE921.out | refine below_set ?_ GE930.out) | exact HB.out)⟩
        (try clear HO920)
        (try clear HO928)
        (try clear BK921)
        (try clear BK930)
        (try clear HB)
        generalize (((w13.setCell ⟨gb930, 0, none⟩ (.int .i64 t924)).setCell ⟨gb930, 1, none⟩ (.int .i64 t925)).setCell ⟨gb930, 2, none⟩ (.slice Ao16 t926.length co16)) = w23 at n0_ n1_ n2_ n3_ n4_ ⊢
        have HO920 := n0_
        have HO928 := n1_
        have BK921 := n2_
        have BK930 := n3_
        have HB := n4_
        clear n0_ n1_ n2_ n3_ n4_
        have n0_ := Aside0.mk (Kd.R_drew HO920.out)
        have n1_ := Aside0.mk (Kd.R_drew HO928.out)
        have n2_ := Aside0.mk (blk_drew BK921.out)
        have n3_ := Aside0.mk (blk_drew BK930.out)
        have n4_ := Aside0.mk (below_drew1 HB.out)
        clear HO920
        clear HO928
        clear BK921
        clear BK930
        clear HB
        have HO920 := n0_
        have HO928 := n1_
        have BK921 := n2_
        have BK930 := n3_
        have HB := n4_
        clear n0_ n1_ n2_ n3_ n4_
        refine start_ (n := 14) (S := fun w' => True) (ds := []) #[false, false, false, false, false, false, false, false, false, false, false, false, false, false] (by kernel_rfl) rfl rfl trivial (fun hHeld => ?_); refine with_tabW laws_FnTiled.tab7 laws_FnTiled.bits7 (fun HT_ HW_ => ?_)
        generalize w23.drew = w24 at HO920 HO928 BK921 BK930 HB hHeld ⊢
        refine pure_ (i := 0) (N := some 38) (v := ?_) (a' := ?_) #[true, false, false, false, false, false, false, false, false, false, false, false, false, false] rfl rfl (any_of HT_.out (by kernel_rfl)) (fun _ _ _ h => h) (Or.inl ⟨by rfl, ?_⟩) ?_ ?_
        rotate_left
        · intro w'
          go_simp
          with_reducible rfl
        rotate_left
        · simp only [Act.put, List.setIfInBounds_toArray, List.set_cons_zero, List.set_cons_succ, i64_w, i32_w]
          rfl
        refine pure_ (i := 1) (N := some 39) (v := ?_) (a' := ?_) #[true, true, false, false, false, false, false, false, false, false, false, false, false, false] rfl rfl (any_of HT_.out (by kernel_rfl)) (fun _ _ _ h => h) (Or.inl ⟨by rfl, ?_⟩) ?_ ?_
        rotate_left
        · intro w'
          go_simp
          with_reducible rfl
        rotate_left
        · simp only [Act.put, List.setIfInBounds_toArray, List.set_cons_zero, List.set_cons_succ, i64_w, i32_w]
          rfl
        refine pure_ (i := 2) (N := some 40) (v := ?_) (a' := ?_) #[true, true, true, false, false, false, false, false, false, false, false, false, false, false] rfl rfl (any_of HT_.out (by kernel_rfl)) (fun _ _ _ h => h) (Or.inl ⟨by rfl, ?_⟩) ?_ ?_
        rotate_left
        · intro w'
          go_simp
          with_reducible rfl
        rotate_left
        · simp only [Act.put, List.setIfInBounds_toArray, List.set_cons_zero, List.set_cons_succ, i64_w, i32_w]
          rfl
        refine pure_ (i := 3) (N := some 41) (v := undef) (a' := ?_) #[true, true, true, true, false, false, false, false, false, false, false, false, false, false] rfl rfl (any_of HT_.out (by kernel_rfl)) (fun _ _ _ h => h) (Or.inr ⟨by rfl, rfl⟩) ?_ ?_
        rotate_left
        · simp only [Act.put, List.setIfInBounds_toArray, List.set_cons_zero, List.set_cons_succ, i64_w, i32_w]
          rfl
        refine pure_ (i := 4) (N := some 42) (v := undef) (a' := ?_) #[true, true, true, true, true, false, false, false, false, false, false, false, false, false] rfl rfl (any_of HT_.out (by kernel_rfl)) (fun _ _ _ h => h) (Or.inr ⟨by rfl, rfl⟩) ?_ ?_
        rotate_left
        · simp only [Act.put, List.setIfInBounds_toArray, List.set_cons_zero, List.set_cons_succ, i64_w, i32_w]
          rfl
        refine pure_ (i := 5) (N := some 43) (v := undef) (a' := ?_) #[true, true, true, true, true, true, false, false, false, false, false, false, false, false] rfl rfl (any_of HT_.out (by kernel_rfl)) (fun _ _ _ h => h) (Or.inr ⟨by rfl, rfl⟩) ?_ ?_
        rotate_left
        · simp only [Act.put, List.setIfInBounds_toArray, List.set_cons_zero, List.set_cons_succ, i64_w, i32_w]
          rfl
        refine pure_ (i := 6) (N := some 44) (v := undef) (a' := ?_) #[true, true, true, true, true, true, true, false, false, false, false, false, false, false] rfl rfl (any_of HT_.out (by kernel_rfl)) (fun _ _ _ h => h) (Or.inr ⟨by rfl, rfl⟩) ?_ ?_
        rotate_left
        · simp only [Act.put, List.setIfInBounds_toArray, List.set_cons_zero, List.set_cons_succ, i64_w, i32_w]
          rfl
        refine pure_ (i := 7) (N := some 45) (v := undef) (a' := ?_) #[true, true, true, true, true, true, true, true, false, false, false, false, false, false] rfl rfl (any_of HT_.out (by kernel_rfl)) (fun _ _ _ h => h) (Or.inr ⟨by rfl, rfl⟩) ?_ ?_
        rotate_left
        · simp only [Act.put, List.setIfInBounds_toArray, List.set_cons_zero, List.set_cons_succ, i64_w, i32_w]
          rfl
        refine pure_ (i := 8) (N := some 46) (v := undef) (a' := ?_) #[true, true, true, true, true, true, true, true, true, false, false, false, false, false] rfl rfl (any_of HT_.out (by kernel_rfl)) (fun _ _ _ h => h) (Or.inr ⟨by rfl, rfl⟩) ?_ ?_
        rotate_left
        · simp only [Act.put, List.setIfInBounds_toArray, List.set_cons_zero, List.set_cons_succ, i64_w, i32_w]
          rfl
        refine pure_ (i := 9) (N := some 47) (v := undef) (a' := ?_) #[true, true, true, true, true, true, true, true, true, true, false, false, false, false] rfl rfl (any_of HT_.out (by kernel_rfl)) (fun _ _ _ h => h) (Or.inr ⟨by rfl, rfl⟩) ?_ ?_
        rotate_left
        · simp only [Act.put, List.setIfInBounds_toArray, List.set_cons_zero, List.set_cons_succ, i64_w, i32_w]
          rfl
        refine pure_ (i := 10) (N := some 48) (v := undef) (a' := ?_) #[true, true, true, true, true, true, true, true, true, true, true, false, false, false] rfl rfl (any_of HT_.out (by kernel_rfl)) (fun _ _ _ h => h) (Or.inr ⟨by rfl, rfl⟩) ?_ ?_
        rotate_left
        · simp only [Act.put, List.setIfInBounds_toArray, List.set_cons_zero, List.set_cons_succ, i64_w, i32_w]
          rfl
        refine pure_ (i := 11) (N := some 49) (v := undef) (a' := ?_) #[true, true, true, true, true, true, true, true, true, true, true, true, false, false] rfl rfl (any_of HT_.out (by kernel_rfl)) (fun _ _ _ h => h) (Or.inr ⟨by rfl, rfl⟩) ?_ ?_
        rotate_left
        · simp only [Act.put, List.setIfInBounds_toArray, List.set_cons_zero, List.set_cons_succ, i64_w, i32_w]
          rfl
        refine pure_ (i := 12) (N := some 50) (v := undef) (a' := ?_) #[true, true, true, true, true, true, true, true, true, true, true, true, true, false] rfl rfl (any_of HT_.out (by kernel_rfl)) (fun _ _ _ h => h) (Or.inr ⟨by rfl, rfl⟩) ?_ ?_
        rotate_left
        · simp only [Act.put, List.setIfInBounds_toArray, List.set_cons_zero, List.set_cons_succ, i64_w, i32_w]
          rfl
        refine pure_ (i := 13) (N := some 51) (v := ?_) (a' := ?_) #[true, true, true, true, true, true, true, true, true, true, true, true, true, true] rfl rfl (any_of HT_.out (by kernel_rfl)) (fun _ _ _ h => h) (Or.inl ⟨by rfl, ?_⟩) ?_ ?_
        rotate_left
        · intro w'
          go_simp
          with_reducible rfl
        rotate_left
        · simp only [Act.put, List.setIfInBounds_toArray, List.set_cons_zero, List.set_cons_succ, i64_w, i32_w]
          rfl
        refine done_ (done_of HT_.out (by kernel_rfl)) ?_
        try go_wp2
        go_meet
        case rel => exact ⟨_, (true), (by first | rfl | (simp; done) | (simp [*]; done)), H', ⟨by first | omega | exact Nat.le_refl _⟩, ⟨by (with_reducible repeat (first | apply Kd.R_alloc | apply Kd.R_drewN | apply Kd.R_drew)); exact HO920.out⟩, ⟨by (with_reducible repeat (first | apply Kd.R_alloc | apply Kd.R_drewN | apply Kd.R_drew)); exact HO928.out⟩, ⟨by (with_reducible repeat (first | refine blk_drewN ?_ _ | refine blk_drew ?_ | refine blk_alloc ?_ _)); exact BK921.out⟩, ⟨by (with_reducible repeat (first | refine blk_drewN ?_ _ | refine blk_drew ?_ | refine blk_alloc ?_ _)); exact BK930.out⟩, ⟨by repeat (first | (with_reducible first | exact HB.out | apply below_alloc | apply pw_below_drewN | apply below_drew1 | refine below_set ?_ GE921.out | refine below_set ?_ GE930.out) | exact HB.out)⟩⟩
    case rest =>
      clear HC7
      try clear c1
      try clear c2
      try clear c2b0
      try clear c2b1
      try clear p2
      try clear c5
      try clear c6
      try clear p6
      try clear c7
      try clear c8
      try clear c14
      try clear c17
      try clear c21
      try clear hcz10_0
      try clear hcz10_1
      try clear hcz10_2
      try clear hcz15_0
      try clear hcz15_1
      try clear hcz15_2
      try clear hfz10_0
      try clear hfz10_1
      try clear hfz10_2
      try clear hfz15_0
      try clear hfz15_1
      try clear hfz15_2
      obtain ⟨kq, x51_6, rfl, HA, HJ6, HO_922002, HO_931002, BK921, BK930, HB⟩ := hcut
      cases kq with
      | zero => exact absurd HA.out (by simp [laws_FnTiled.j0])
      | succ kj6 =>
        have H := HA.out
        clear HA
        simp only [laws_FnTiled.j0] at H
        by_cases c25 : x51_6 = true
        · subst c25
          have H1 : (some false) = some r := by rw [if_pos rfl] at H; exact H
          clear H
          have H := H1
          clear H1
          exact absurd ((Option.some.inj H).trans hT.out) (by decide)
        · replace c25 := Bool.eq_false_iff.mpr c25
          subst c25
          have H1 : ((impl_CropPicture.f t924 t925 t926 (wrap64 ((wrap64 ((wrap64 (1 + (Int.tmod t922 3))) - 1)) * t916)) (wrap64 ((wrap64 ((wrap64 (1 + (Int.tmod t923 3))) - 1)) * t917)) t916 t917).bind fun bt933 => ((impl_CropPicture.f t924 t925 t926 (wrap64 ((wrap64 ((wrap64 ((wrap64 (1 + (Int.tmod t922 3))) - 1)) * t916)) + 1)) 0 t916 t917).bind fun bt940 => (if bt933.2.2.2 = true then ((laws_same.f kj6 bt933.1 bt933.2.1 bt933.2.2.1 t916 t917 t918).bind fun t947 => (if t947 = true then (some (!bt940.2.2.2)) else (some false))) else (some false)))) = some r := by rw [if_neg (show ¬ (false = true) by decide)] at H; exact H
          clear H
          have H := H1
          clear H1
          replace H := Option.bind_eq_some_iff.mp H
          obtain ⟨⟨t933, t934, t935, t938⟩, A260, H⟩ := H
          replace H : ((impl_CropPicture.f t924 t925 t926 (wrap64 ((wrap64 ((wrap64 ((wrap64 (1 + (Int.tmod t922 3))) - 1)) * t916)) + 1)) 0 t916 t917).bind fun bt940 => (if t938 = true then ((laws_same.f kj6 t933 t934 t935 t916 t917 t918).bind fun t947 => (if t947 = true then (some (!bt940.2.2.2)) else (some false))) else (some false))) = some r := H
          have A26 := Aside0.mk A260
          clear A260
          replace H := Option.bind_eq_some_iff.mp H
          obtain ⟨⟨t940, t941, t942, t945⟩, A270, H⟩ := H
          replace H : (if t938 = true then ((laws_same.f kj6 t933 t934 t935 t916 t917 t918).bind fun t947 => (if t947 = true then (some (!t945)) else (some false))) else (some false)) = some r := H
          have A27 := Aside0.mk A270
          clear A270
          by_cases c28 : t938 = true
          · subst c28
            have H1 : ((laws_same.f kj6 t933 t934 t935 t916 t917 t918).bind fun t947 => (if t947 = true then (some (!t945)) else (some false))) = some r := by rw [if_pos rfl] at H; exact H
            clear H
            have H := H1
            clear H1
            replace H := Option.bind_eq_some_iff.mp H
            obtain ⟨t947, A290, H⟩ := H
            replace H : (if t947 = true then (some (!t945)) else (some false)) = some r := H
            have A29 := Aside0.mk A290
            clear A290
            by_cases c30 : t947 = true
            · subst c30
              have H1 : (some (!t945)) = some r := by rw [if_pos rfl] at H; exact H
              clear H
              have H := H1
              clear H1
              obtain rfl := Option.some.inj H
              have hnb31 := NB930_921.out
              have hnc31 := NB921_930.out
              have hcz32_0 : wc.cell? ⟨gb930, 0, none⟩ = some (.int .i64 t924) := (blk_cell BK930.out 0).trans rfl
              have hcz32_1 : wc.cell? ⟨gb930, 1, none⟩ = some (.int .i64 t925) := (blk_cell BK930.out 1).trans rfl
              have hcz32_2 : wc.cell? ⟨gb930, 2, none⟩ = some (.slice Ao16 t926.length co16) := (blk_cell BK930.out 2).trans rfl
              have hfz32_0 := blk_frozen BK930.out 0
              have hfz32_1 := blk_frozen BK930.out 1
              have hfz32_2 := blk_frozen BK930.out 2
              have hcz33_0 : wc.cell? ⟨gb921, 0, none⟩ = some (.int .i64 t916) := (blk_cell BK921.out 0).trans rfl
              have hcz33_1 : wc.cell? ⟨gb921, 1, none⟩ = some (.int .i64 t917) := (blk_cell BK921.out 1).trans rfl
              have hcz33_2 : wc.cell? ⟨gb921, 2, none⟩ = some (.slice Ao11 t918.length co11) := (blk_cell BK921.out 2).trans rfl
              have hfz33_0 := blk_frozen BK921.out 0
              have hfz33_1 := blk_frozen BK921.out 1
              have hfz33_2 := blk_frozen BK921.out 2
              go_wp2_with (first | ((with_reducible refine gate_callee (f := 84) rfl ?_); refine goesL_ (some 68) rfl rfl Try.func84 (by kernel_rfl) rfl #[.agg #[.int .i64 t924, .int .i64 t925, .slice Ao16 t926.length co16], .int .i64 (wrap64 ((wrap64 ((wrap64 (1 + (Int.tmod t922 3))) - 1)) * t916)), .int .i64 (wrap64 ((wrap64 ((wrap64 (1 + (Int.tmod t923 3))) - 1)) * t917)), .int .i64 t916, .int .i64 t917] rfl (by (try simp only [List.map_toArray, List.map_cons, List.map_nil]); first | done | rfl | (simp only [List.length_drop, List.length_take]; rfl)) ?_; (with_reducible refine (impl_CropPicture.calls t924 t925 _ _ t926 (wrap64 ((wrap64 ((wrap64 (1 + (Int.tmod t922 3))) - 1)) * t916)) (wrap64 ((wrap64 ((wrap64 (1 + (Int.tmod t923 3))) - 1)) * t917)) t916 t917 t933 t934 t935 true _ ?side1 ?side2 A26.out).mono ?_); (case side1 => repeat (first | exact (Kd.R_reads' HO_931002.out).2.2 | (with_reducible refine Kd.C_alloc ?_ _) | (with_reducible refine Kd.C_drewN ?_ _) | (with_reducible refine Kd.C_drew ?_))); (case side2 => exact (Kd.R_reads' HO_931002.out).2.1); rintro e w34 ⟨v936, rfl, ho0, hb⟩; refine ⟨_, rfl, ?_⟩; have n0_ := Aside0.mk (Kd.R_elder' (by (with_reducible repeat (first | apply Kd.R_alloc | apply Kd.R_drewN | apply Kd.R_drew)); exact HO_922002.out) (Kd.R_base ho0) hb); have n1_ := Aside0.mk (Kd.R_elder' (by (with_reducible repeat (first | apply Kd.R_alloc | apply Kd.R_drewN | apply Kd.R_drew)); exact HO_931002.out) (Kd.R_base ho0) hb); have n2_ := Aside0.mk (Kd.R_lower (Kd.R_new' (Kd.R_new' ho0 (Kd.R_lt (by (with_reducible repeat (first | apply Kd.R_alloc | apply Kd.R_drewN | apply Kd.R_drew)); exact HO_922002.out))) (Kd.R_lt (by (with_reducible repeat (first | apply Kd.R_alloc | apply Kd.R_drewN | apply Kd.R_drew)); exact HO_931002.out))) (below_size (by repeat (first | (with_reducible first | exact HB.out | apply below_alloc | apply pw_below_drewN | apply below_drew1 | refine below_set ?_ GE921.out | refine below_set ?_ GE930.out) | exact HB.out)))); have n3_ := Aside0.mk (blk_below (g := gb921) (o := .cells #[.int .i64 t916, .int .i64 t917, .slice Ao11 t918.length co11] 37 (0, 0)) (by (with_reducible repeat (first | refine blk_drewN ?_ _ | refine blk_drew ?_ | refine blk_alloc ?_ _)); exact BK921.out) hb); have n4_ := Aside0.mk (blk_below (g := gb930) (o := .cells #[.int .i64 t924, .int .i64 t925, .slice Ao16 t926.length co16] 37 (0, 0)) (by (with_reducible repeat (first | refine blk_drewN ?_ _ | refine blk_drew ?_ | refine blk_alloc ?_ _)); exact BK930.out) hb); have n5_ := Aside0.mk (below_step (by repeat (first | (with_reducible first | exact HB.out | apply below_alloc | apply pw_below_drewN | apply below_drew1 | refine below_set ?_ GE921.out | refine below_set ?_ GE930.out) | exact HB.out)) hb); clear HO_922002; clear HO_931002; clear BK921; clear BK930; clear HB; have HO_922002 := n0_; have HO_931002 := n1_; have HO937 := n2_; have BK921 := n3_; have BK930 := n4_; have HB := n5_; clear n0_ n1_ n2_ n3_ n4_ n5_; (try clear hb); (try clear hb2); (try clear hk); (try clear hi); (try clear ho0)) | ((with_reducible refine gate_dst (N := 8) rfl ?_); refine box_event ?hg (N := 8) ?hd (cs := #[.int .i64 0, .int .i64 0, .slice none 0 0]) (t := 37) ?hr ?_; (case hd => rfl); (case hg => rfl); (case hr => first | (go_simp; done) | (go_simp; rfl)); intro gb939 hg w35 hbox hb; have n0_ := Aside0.mk (Kd.R_below (by (with_reducible repeat (first | apply Kd.R_alloc | apply Kd.R_drewN | apply Kd.R_drew)); exact HO_922002.out) hb); have n1_ := Aside0.mk (Kd.R_below (by (with_reducible repeat (first | apply Kd.R_alloc | apply Kd.R_drewN | apply Kd.R_drew)); exact HO_931002.out) hb); have n2_ := Aside0.mk (Kd.R_below (by (with_reducible repeat (first | apply Kd.R_alloc | apply Kd.R_drewN | apply Kd.R_drew)); exact HO937.out) hb); have n3_ := Aside0.mk (blk_below (g := gb921) (o := .cells #[.int .i64 t916, .int .i64 t917, .slice Ao11 t918.length co11] 37 (0, 0)) (by (with_reducible repeat (first | refine blk_drewN ?_ _ | refine blk_drew ?_ | refine blk_alloc ?_ _)); exact BK921.out) hb); have n4_ := Aside0.mk (blk_below (g := gb930) (o := .cells #[.int .i64 t924, .int .i64 t925, .slice Ao16 t926.length co16] 37 (0, 0)) (by (with_reducible repeat (first | refine blk_drewN ?_ _ | refine blk_drew ?_ | refine blk_alloc ?_ _)); exact BK930.out) hb); have n5_ := Aside0.mk (below_step (by repeat (first | (with_reducible first | exact HB.out | apply below_alloc | apply pw_below_drewN | apply below_drew1 | refine below_set ?_ GE921.out | refine below_set ?_ GE930.out) | exact HB.out)) hb); have n6_ := Aside0.mk (hbox); have n7_ := Aside0.mk ((by rw [hg]; exact (below_size (by repeat (first | (with_reducible first | exact HB.out | apply below_alloc | apply pw_below_drewN | apply below_drew1 | refine below_set ?_ GE921.out | refine below_set ?_ GE930.out) | exact HB.out))) : w.heap.size ≤ gb939)); have n8_ := Aside0.mk ((by rw [hg]; exact (below_size (by repeat (first | (with_reducible first | exact HB.out | apply below_alloc | apply pw_below_drewN | apply below_drew1 | refine below_set ?_ GE921.out | refine below_set ?_ GE930.out) | exact HB.out))) : w.heap.size ≤ gb939)); have n9_ := Aside0.mk ((by rw [hg]; exact Nat.ne_of_lt (blk_lt (g := gb921) (o := .cells #[.int .i64 t916, .int .i64 t917, .slice Ao11 t918.length co11] 37 (0, 0)) (by (with_reducible repeat (first | refine blk_drewN ?_ _ | refine blk_drew ?_ | refine blk_alloc ?_ _)); exact BK921.out)) : gb921 ≠ gb939)); have n10_ := Aside0.mk ((by rw [hg]; exact Nat.ne_of_gt (blk_lt (g := gb921) (o := .cells #[.int .i64 t916, .int .i64 t917, .slice Ao11 t918.length co11] 37 (0, 0)) (by (with_reducible repeat (first | refine blk_drewN ?_ _ | refine blk_drew ?_ | refine blk_alloc ?_ _)); exact BK921.out)) : gb939 ≠ gb921)); have n11_ := Aside0.mk ((by rw [hg]; exact Nat.ne_of_lt (blk_lt (g := gb930) (o := .cells #[.int .i64 t924, .int .i64 t925, .slice Ao16 t926.length co16] 37 (0, 0)) (by (with_reducible repeat (first | refine blk_drewN ?_ _ | refine blk_drew ?_ | refine blk_alloc ?_ _)); exact BK930.out)) : gb930 ≠ gb939)); have n12_ := Aside0.mk ((by rw [hg]; exact Nat.ne_of_gt (blk_lt (g := gb930) (o := .cells #[.int .i64 t924, .int .i64 t925, .slice Ao16 t926.length co16] 37 (0, 0)) (by (with_reducible repeat (first | refine blk_drewN ?_ _ | refine blk_drew ?_ | refine blk_alloc ?_ _)); exact BK930.out)) : gb939 ≠ gb930)); clear HO_922002; clear HO_931002; clear HO937; clear BK921; clear BK930; clear HB; have HO_922002 := n0_; have HO_931002 := n1_; have HO937 := n2_; have BK921 := n3_; have BK930 := n4_; have HB := n5_; have BK939 := n6_; have GW939 := n7_; have GE939 := n8_; have NB921_939 := n9_; have NB939_921 := n10_; have NB930_939 := n11_; have NB939_930 := n12_; clear n0_ n1_ n2_ n3_ n4_ n5_ n6_ n7_ n8_ n9_ n10_ n11_ n12_; clear hb hbox hg; have hnb36 := NB939_921.out; have hnc36 := NB921_939.out; have hnb37 := NB939_930.out; have hnc37 := NB930_939.out; have hcz38_0 : w35.cell? ⟨gb939, 0, none⟩ = some (.int .i64 0) := (blk_cell BK939.out 0).trans rfl; have hcz38_1 : w35.cell? ⟨gb939, 1, none⟩ = some (.int .i64 0) := (blk_cell BK939.out 1).trans rfl; have hcz38_2 : w35.cell? ⟨gb939, 2, none⟩ = some (.slice none 0 0) := (blk_cell BK939.out 2).trans rfl; have hfz38_0 := blk_frozen BK939.out 0; have hfz38_1 := blk_frozen BK939.out 1; have hfz38_2 := blk_frozen BK939.out 2; obtain ⟨Ao39, co39, eo39⟩ := Kd.R_slice HO937.out; subst eo39; have hcz40_0 : w35.cell? ⟨gb930, 0, none⟩ = some (.int .i64 t924) := (blk_cell BK930.out 0).trans rfl; have hcz40_1 : w35.cell? ⟨gb930, 1, none⟩ = some (.int .i64 t925) := (blk_cell BK930.out 1).trans rfl; have hcz40_2 : w35.cell? ⟨gb930, 2, none⟩ = some (.slice Ao16 t926.length co16) := (blk_cell BK930.out 2).trans rfl; have hfz40_0 := blk_frozen BK930.out 0; have hfz40_1 := blk_frozen BK930.out 1; have hfz40_2 := blk_frozen BK930.out 2; have hcz41_0 : w35.cell? ⟨gb921, 0, none⟩ = some (.int .i64 t916) := (blk_cell BK921.out 0).trans rfl; have hcz41_1 : w35.cell? ⟨gb921, 1, none⟩ = some (.int .i64 t917) := (blk_cell BK921.out 1).trans rfl; have hcz41_2 : w35.cell? ⟨gb921, 2, none⟩ = some (.slice Ao11 t918.length co11) := (blk_cell BK921.out 2).trans rfl; have hfz41_0 := blk_frozen BK921.out 0; have hfz41_1 := blk_frozen BK921.out 1; have hfz41_2 := blk_frozen BK921.out 2) | ((with_reducible refine gate_callee (f := 84) rfl ?_); refine goesL_ (some 83) rfl rfl Try.func84 (by kernel_rfl) rfl #[.agg #[.int .i64 t924, .int .i64 t925, .slice Ao16 t926.length co16], .int .i64 (wrap64 ((wrap64 ((wrap64 ((wrap64 (1 + (Int.tmod t922 3))) - 1)) * t916)) + 1)), .int .i64 0, .int .i64 t916, .int .i64 t917] rfl (by (try simp only [List.map_toArray, List.map_cons, List.map_nil]); first | done | rfl | (simp only [List.length_drop, List.length_take]; rfl)) ?_; (with_reducible refine (impl_CropPicture.calls t924 t925 _ _ t926 (wrap64 ((wrap64 ((wrap64 ((wrap64 (1 + (Int.tmod t922 3))) - 1)) * t916)) + 1)) 0 t916 t917 t940 t941 t942 t945 _ ?side1 ?side2 A27.out).mono ?_); (case side1 => refine (Kd.R_reads' (e := 3) (base := w.heap.size) (ok := fun k_ => (some k_ ≠ (.slice Ao11 t918.length co11 : Value).ownBlock ∧ some k_ ≠ (.slice Ao39 t935.length co39 : Value).ownBlock)) (n := t926.length) (c := co16) ?_).2.2; exact (by (with_reducible repeat (first | apply Kd.R_alloc | apply Kd.R_drewN | apply Kd.R_drew)); exact (Kd.R_mono (Kd.R_far (p := ⟨gb939, 2, none⟩) (Kd.R_far (p := ⟨gb939, 1, none⟩) (Kd.R_far (p := ⟨gb939, 0, none⟩) (Kd.R_types HO_931002.out BK939.out (by decide)) (fun _ hk => hk.2) (.int .i64 t933)) (fun _ hk => hk.2) (.int .i64 t934)) (fun _ hk => hk.2) (.slice Ao39 t935.length co39)) (fun _ h_ => h_.1)))); (case side2 => exact (Kd.R_reads' HO_931002.out).2.1); rintro e w42 ⟨v943, rfl, ho0, hb⟩; refine ⟨_, rfl, ?_⟩; have n0_ := Aside0.mk (Kd.R_elder' (by (with_reducible repeat (first | apply Kd.R_alloc | apply Kd.R_drewN | apply Kd.R_drew)); exact (Kd.R_mono (Kd.R_far (p := ⟨gb939, 2, none⟩) (Kd.R_far (p := ⟨gb939, 1, none⟩) (Kd.R_far (p := ⟨gb939, 0, none⟩) (Kd.R_types HO_922002.out BK939.out (by decide)) (fun _ hk => hk.2) (.int .i64 t933)) (fun _ hk => hk.2) (.int .i64 t934)) (fun _ hk => hk.2) (.slice Ao39 t935.length co39)) (fun _ h_ => h_.1))) (Kd.R_base ho0) hb); have n1_ := Aside0.mk (Kd.R_elder' (by (with_reducible repeat (first | apply Kd.R_alloc | apply Kd.R_drewN | apply Kd.R_drew)); exact (Kd.R_mono (Kd.R_far (p := ⟨gb939, 2, none⟩) (Kd.R_far (p := ⟨gb939, 1, none⟩) (Kd.R_far (p := ⟨gb939, 0, none⟩) (Kd.R_types HO_931002.out BK939.out (by decide)) (fun _ hk => hk.2) (.int .i64 t933)) (fun _ hk => hk.2) (.int .i64 t934)) (fun _ hk => hk.2) (.slice Ao39 t935.length co39)) (fun _ h_ => h_.1))) (Kd.R_base ho0) hb); have n2_ := Aside0.mk (Kd.R_elder' (by (with_reducible repeat (first | apply Kd.R_alloc | apply Kd.R_drewN | apply Kd.R_drew)); exact (Kd.R_mono (Kd.R_far (p := ⟨gb939, 2, none⟩) (Kd.R_far (p := ⟨gb939, 1, none⟩) (Kd.R_far (p := ⟨gb939, 0, none⟩) (Kd.R_types HO937.out BK939.out (by decide)) (fun _ hk => hk.2) (.int .i64 t933)) (fun _ hk => hk.2) (.int .i64 t934)) (fun _ hk => hk.2) (.slice Ao39 t935.length co39)) (fun _ h_ => h_.1))) (Kd.R_base ho0) hb); have n3_ := Aside0.mk (Kd.R_lower (Kd.R_new' (Kd.R_new' (Kd.R_new' ho0 (Kd.R_lt (by (with_reducible repeat (first | apply Kd.R_alloc | apply Kd.R_drewN | apply Kd.R_drew)); exact (Kd.R_mono (Kd.R_far (p := ⟨gb939, 2, none⟩) (Kd.R_far (p := ⟨gb939, 1, none⟩) (Kd.R_far (p := ⟨gb939, 0, none⟩) (Kd.R_types HO_922002.out BK939.out (by decide)) (fun _ hk => hk.2) (.int .i64 t933)) (fun _ hk => hk.2) (.int .i64 t934)) (fun _ hk => hk.2) (.slice Ao39 t935.length co39)) (fun _ h_ => h_.1))))) (Kd.R_lt (by (with_reducible repeat (first | apply Kd.R_alloc | apply Kd.R_drewN | apply Kd.R_drew)); exact (Kd.R_mono (Kd.R_far (p := ⟨gb939, 2, none⟩) (Kd.R_far (p := ⟨gb939, 1, none⟩) (Kd.R_far (p := ⟨gb939, 0, none⟩) (Kd.R_types HO_931002.out BK939.out (by decide)) (fun _ hk => hk.2) (.int .i64 t933)) (fun _ hk => hk.2) (.int .i64 t934)) (fun _ hk => hk.2) (.slice Ao39 t935.length co39)) (fun _ h_ => h_.1))))) (Kd.R_lt (by (with_reducible repeat (first | apply Kd.R_alloc | apply Kd.R_drewN | apply Kd.R_drew)); exact (Kd.R_mono (Kd.R_far (p := ⟨gb939, 2, none⟩) (Kd.R_far (p := ⟨gb939, 1, none⟩) (Kd.R_far (p := ⟨gb939, 0, none⟩) (Kd.R_types HO937.out BK939.out (by decide)) (fun _ hk => hk.2) (.int .i64 t933)) (fun _ hk => hk.2) (.int .i64 t934)) (fun _ hk => hk.2) (.slice Ao39 t935.length co39)) (fun _ h_ => h_.1))))) (below_size (by repeat (first | (with_reducible first | exact HB.out | apply below_alloc | apply pw_below_drewN | apply below_drew1 | refine below_set ?_ GE921.out | refine below_set ?_ GE930.out | refine below_set ?_ GE939.out) | exact HB.out)))); have n4_ := Aside0.mk (blk_below (g := gb921) (o := .cells #[.int .i64 t916, .int .i64 t917, .slice Ao11 t918.length co11] 37 (0, 0)) (by (with_reducible repeat (first | refine blk_drewN ?_ _ | refine blk_drew ?_ | refine blk_alloc ?_ _)); refine blk_far ?_ NB921_939.out _; (with_reducible repeat (first | refine blk_drewN ?_ _ | refine blk_drew ?_ | refine blk_alloc ?_ _)); refine blk_far ?_ NB921_939.out _; (with_reducible repeat (first | refine blk_drewN ?_ _ | refine blk_drew ?_ | refine blk_alloc ?_ _)); refine blk_far ?_ NB921_939.out _; (with_reducible repeat (first | refine blk_drewN ?_ _ | refine blk_drew ?_ | refine blk_alloc ?_ _)); exact BK921.out) hb); have n5_ := Aside0.mk (blk_below (g := gb930) (o := .cells #[.int .i64 t924, .int .i64 t925, .slice Ao16 t926.length co16] 37 (0, 0)) (by (with_reducible repeat (first | refine blk_drewN ?_ _ | refine blk_drew ?_ | refine blk_alloc ?_ _)); refine blk_far ?_ NB930_939.out _; (with_reducible repeat (first | refine blk_drewN ?_ _ | refine blk_drew ?_ | refine blk_alloc ?_ _)); refine blk_far ?_ NB930_939.out _; (with_reducible repeat (first | refine blk_drewN ?_ _ | refine blk_drew ?_ | refine blk_alloc ?_ _)); refine blk_far ?_ NB930_939.out _; (with_reducible repeat (first | refine blk_drewN ?_ _ | refine blk_drew ?_ | refine blk_alloc ?_ _)); exact BK930.out) hb); have n6_ := Aside0.mk (blk_below (g := gb939) (o := .cells #[.int .i64 t933, .int .i64 t934, .slice Ao39 t935.length co39] 37 (0, 0)) (by (with_reducible repeat (first | refine blk_drewN ?_ _ | refine blk_drew ?_ | refine blk_alloc ?_ _)); refine blk_put (cs := #[.int .i64 t933, .int .i64 t934, .slice none 0 0]) ?_ 2 _ rfl; (with_reducible repeat (first | refine blk_drewN ?_ _ | refine blk_drew ?_ | refine blk_alloc ?_ _)); refine blk_put (cs := #[.int .i64 t933, .int .i64 0, .slice none 0 0]) ?_ 1 _ rfl; (with_reducible repeat (first | refine blk_drewN ?_ _ | refine blk_drew ?_ | refine blk_alloc ?_ _)); refine blk_put (cs := #[.int .i64 0, .int .i64 0, .slice none 0 0]) ?_ 0 _ rfl; (with_reducible repeat (first | refine blk_drewN ?_ _ | refine blk_drew ?_ | refine blk_alloc ?_ _)); exact BK939.out) hb); have n7_ := Aside0.mk (below_step (by repeat (first | (with_reducible first | exact HB.out | apply below_alloc | apply pw_below_drewN | apply below_drew1 | refine below_set ?_ GE921.out | refine below_set ?_ GE930.out | refine below_set ?_ GE939.out) | exact HB.out)) hb); clear HO_922002; clear HO_931002; clear HO937; clear BK921; clear BK930; clear BK939; clear HB; have HO_922002 := n0_; have HO_931002 := n1_; have HO937 := n2_; have HO944 := n3_; have BK921 := n4_; have BK930 := n5_; have BK939 := n6_; have HB := n7_; clear n0_ n1_ n2_ n3_ n4_ n5_ n6_ n7_; (try clear hb); (try clear hb2); (try clear hk); (try clear hi); (try clear ho0)) | ((with_reducible refine gate_dst (N := 10) rfl ?_); refine box_event ?hg (N := 10) ?hd (cs := #[.int .i64 0, .int .i64 0, .slice none 0 0]) (t := 37) ?hr ?_; (case hd => rfl); (case hg => rfl); (case hr => first | (go_simp; done) | (go_simp; rfl)); intro gb946 hg w43 hbox hb; have n0_ := Aside0.mk (Kd.R_below (by (with_reducible repeat (first | apply Kd.R_alloc | apply Kd.R_drewN | apply Kd.R_drew)); exact HO_922002.out) hb); have n1_ := Aside0.mk (Kd.R_below (by (with_reducible repeat (first | apply Kd.R_alloc | apply Kd.R_drewN | apply Kd.R_drew)); exact HO_931002.out) hb); have n2_ := Aside0.mk (Kd.R_below (by (with_reducible repeat (first | apply Kd.R_alloc | apply Kd.R_drewN | apply Kd.R_drew)); exact HO937.out) hb); have n3_ := Aside0.mk (Kd.R_below (by (with_reducible repeat (first | apply Kd.R_alloc | apply Kd.R_drewN | apply Kd.R_drew)); exact HO944.out) hb); have n4_ := Aside0.mk (blk_below (g := gb921) (o := .cells #[.int .i64 t916, .int .i64 t917, .slice Ao11 t918.length co11] 37 (0, 0)) (by (with_reducible repeat (first | refine blk_drewN ?_ _ | refine blk_drew ?_ | refine blk_alloc ?_ _)); exact BK921.out) hb); have n5_ := Aside0.mk (blk_below (g := gb930) (o := .cells #[.int .i64 t924, .int .i64 t925, .slice Ao16 t926.length co16] 37 (0, 0)) (by (with_reducible repeat (first | refine blk_drewN ?_ _ | refine blk_drew ?_ | refine blk_alloc ?_ _)); exact BK930.out) hb); have n6_ := Aside0.mk (blk_below (g := gb939) (o := .cells #[.int .i64 t933, .int .i64 t934, .slice Ao39 t935.length co39] 37 (0, 0)) (by (with_reducible repeat (first | refine blk_drewN ?_ _ | refine blk_drew ?_ | refine blk_alloc ?_ _)); exact BK939.out) hb); have n7_ := Aside0.mk (below_step (by repeat (first | (with_reducible first | exact HB.out | apply below_alloc | apply pw_below_drewN | apply below_drew1 | refine below_set ?_ GE921.out | refine below_set ?_ GE930.out | refine below_set ?_ GE939.out) | exact HB.out)) hb); have n8_ := Aside0.mk (hbox); have n9_ := Aside0.mk ((by rw [hg]; exact (below_size (by repeat (first | (with_reducible first | exact HB.out | apply below_alloc | apply pw_below_drewN | apply below_drew1 | refine below_set ?_ GE921.out | refine below_set ?_ GE930.out | refine below_set ?_ GE939.out) | exact HB.out))) : w.heap.size ≤ gb946)); have n10_ := Aside0.mk ((by rw [hg]; exact (below_size (by repeat (first | (with_reducible first | exact HB.out | apply below_alloc | apply pw_below_drewN | apply below_drew1 | refine below_set ?_ GE921.out | refine below_set ?_ GE930.out | refine below_set ?_ GE939.out) | exact HB.out))) : w.heap.size ≤ gb946)); have n11_ := Aside0.mk ((by rw [hg]; exact Nat.ne_of_lt (blk_lt (g := gb921) (o := .cells #[.int .i64 t916, .int .i64 t917, .slice Ao11 t918.length co11] 37 (0, 0)) (by (with_reducible repeat (first | refine blk_drewN ?_ _ | refine blk_drew ?_ | refine blk_alloc ?_ _)); exact BK921.out)) : gb921 ≠ gb946)); have n12_ := Aside0.mk ((by rw [hg]; exact Nat.ne_of_gt (blk_lt (g := gb921) (o := .cells #[.int .i64 t916, .int .i64 t917, .slice Ao11 t918.length co11] 37 (0, 0)) (by (with_reducible repeat (first | refine blk_drewN ?_ _ | refine blk_drew ?_ | refine blk_alloc ?_ _)); exact BK921.out)) : gb946 ≠ gb921)); have n13_ := Aside0.mk ((by rw [hg]; exact Nat.ne_of_lt (blk_lt (g := gb930) (o := .cells #[.int .i64 t924, .int .i64 t925, .slice Ao16 t926.length co16] 37 (0, 0)) (by (with_reducible repeat (first | refine blk_drewN ?_ _ | refine blk_drew ?_ | refine blk_alloc ?_ _)); exact BK930.out)) : gb930 ≠ gb946)); have n14_ := Aside0.mk ((by rw [hg]; exact Nat.ne_of_gt (blk_lt (g := gb930) (o := .cells #[.int .i64 t924, .int .i64 t925, .slice Ao16 t926.length co16] 37 (0, 0)) (by (with_reducible repeat (first | refine blk_drewN ?_ _ | refine blk_drew ?_ | refine blk_alloc ?_ _)); exact BK930.out)) : gb946 ≠ gb930)); have n15_ := Aside0.mk ((by rw [hg]; exact Nat.ne_of_lt (blk_lt (g := gb939) (o := .cells #[.int .i64 t933, .int .i64 t934, .slice Ao39 t935.length co39] 37 (0, 0)) (by (with_reducible repeat (first | refine blk_drewN ?_ _ | refine blk_drew ?_ | refine blk_alloc ?_ _)); exact BK939.out)) : gb939 ≠ gb946)); have n16_ := Aside0.mk ((by rw [hg]; exact Nat.ne_of_gt (blk_lt (g := gb939) (o := .cells #[.int .i64 t933, .int .i64 t934, .slice Ao39 t935.length co39] 37 (0, 0)) (by (with_reducible repeat (first | refine blk_drewN ?_ _ | refine blk_drew ?_ | refine blk_alloc ?_ _)); exact BK939.out)) : gb946 ≠ gb939)); clear HO_922002; clear HO_931002; clear HO937; clear HO944; clear BK921; clear BK930; clear BK939; clear HB; have HO_922002 := n0_; have HO_931002 := n1_; have HO937 := n2_; have HO944 := n3_; have BK921 := n4_; have BK930 := n5_; have BK939 := n6_; have HB := n7_; have BK946 := n8_; have GW946 := n9_; have GE946 := n10_; have NB921_946 := n11_; have NB946_921 := n12_; have NB930_946 := n13_; have NB946_930 := n14_; have NB939_946 := n15_; have NB946_939 := n16_; clear n0_ n1_ n2_ n3_ n4_ n5_ n6_ n7_ n8_ n9_ n10_ n11_ n12_ n13_ n14_ n15_ n16_; clear hb hbox hg; have hnb44 := NB946_921.out; have hnc44 := NB921_946.out; have hnb45 := NB946_930.out; have hnc45 := NB930_946.out; have hnb46 := NB946_939.out; have hnc46 := NB939_946.out; have hcz47_0 : w43.cell? ⟨gb946, 0, none⟩ = some (.int .i64 0) := (blk_cell BK946.out 0).trans rfl; have hcz47_1 : w43.cell? ⟨gb946, 1, none⟩ = some (.int .i64 0) := (blk_cell BK946.out 1).trans rfl; have hcz47_2 : w43.cell? ⟨gb946, 2, none⟩ = some (.slice none 0 0) := (blk_cell BK946.out 2).trans rfl; have hfz47_0 := blk_frozen BK946.out 0; have hfz47_1 := blk_frozen BK946.out 1; have hfz47_2 := blk_frozen BK946.out 2; obtain ⟨Ao48, co48, eo48⟩ := Kd.R_slice HO944.out; subst eo48; have hcz49_0 : w43.cell? ⟨gb939, 0, none⟩ = some (.int .i64 t933) := (blk_cell BK939.out 0).trans rfl; have hcz49_1 : w43.cell? ⟨gb939, 1, none⟩ = some (.int .i64 t934) := (blk_cell BK939.out 1).trans rfl; have hcz49_2 : w43.cell? ⟨gb939, 2, none⟩ = some (.slice Ao39 t935.length co39) := (blk_cell BK939.out 2).trans rfl; have hfz49_0 := blk_frozen BK939.out 0; have hfz49_1 := blk_frozen BK939.out 1; have hfz49_2 := blk_frozen BK939.out 2; have hcz50_0 : w43.cell? ⟨gb921, 0, none⟩ = some (.int .i64 t916) := (blk_cell BK921.out 0).trans rfl; have hcz50_1 : w43.cell? ⟨gb921, 1, none⟩ = some (.int .i64 t917) := (blk_cell BK921.out 1).trans rfl; have hcz50_2 : w43.cell? ⟨gb921, 2, none⟩ = some (.slice Ao11 t918.length co11) := (blk_cell BK921.out 2).trans rfl; have hfz50_0 := blk_frozen BK921.out 0; have hfz50_1 := blk_frozen BK921.out 1; have hfz50_2 := blk_frozen BK921.out 2) | (go_at_call 85; (with_reducible refine (laws_same.calls kj6 t933 t934 _ _ t935 t916 t917 _ _ t918 true _ ?side1 ?side2 ?side3 ?side4 A29.out).mono ?_); (case side1 => refine (Kd.R_reads' (e := 3) (base := w.heap.size) (ok := fun k_ => (((True ∧ some k_ ≠ (.slice Ao11 t918.length co11 : Value).ownBlock) ∧ some k_ ≠ (.slice Ao16 t926.length co16 : Value).ownBlock) ∧ some k_ ≠ (.slice Ao48 t942.length co48 : Value).ownBlock)) (n := t935.length) (c := co39) ?_).2.2; exact (by (with_reducible repeat (first | apply Kd.R_alloc | apply Kd.R_drewN | apply Kd.R_drew)); exact (Kd.R_mono (Kd.R_far (p := ⟨gb946, 2, none⟩) (Kd.R_far (p := ⟨gb946, 1, none⟩) (Kd.R_far (p := ⟨gb946, 0, none⟩) (Kd.R_types HO937.out BK946.out (by decide)) (fun _ hk => hk.2) (.int .i64 t940)) (fun _ hk => hk.2) (.int .i64 t941)) (fun _ hk => hk.2) (.slice Ao48 t942.length co48)) (fun _ h_ => h_.1)))); (case side2 => exact (Kd.R_reads' HO937.out).2.1); (case side3 => refine (Kd.R_reads' (e := 3) (base := w.heap.size) (ok := fun k_ => ((some k_ ≠ (.slice Ao16 t926.length co16 : Value).ownBlock ∧ some k_ ≠ (.slice Ao39 t935.length co39 : Value).ownBlock) ∧ some k_ ≠ (.slice Ao48 t942.length co48 : Value).ownBlock)) (n := t918.length) (c := co11) ?_).2.2; exact (by (with_reducible repeat (first | apply Kd.R_alloc | apply Kd.R_drewN | apply Kd.R_drew)); exact (Kd.R_mono (Kd.R_far (p := ⟨gb946, 2, none⟩) (Kd.R_far (p := ⟨gb946, 1, none⟩) (Kd.R_far (p := ⟨gb946, 0, none⟩) (Kd.R_types HO_922002.out BK946.out (by decide)) (fun _ hk => hk.2) (.int .i64 t940)) (fun _ hk => hk.2) (.int .i64 t941)) (fun _ hk => hk.2) (.slice Ao48 t942.length co48)) (fun _ h_ => h_.1)))); (case side4 => exact (Kd.R_reads' HO_922002.out).2.1); rintro e w51 ⟨rfl, hb⟩; have n0_ := Aside0.mk (Kd.R_below (by (with_reducible repeat (first | apply Kd.R_alloc | apply Kd.R_drewN | apply Kd.R_drew)); exact (Kd.R_mono (Kd.R_far (p := ⟨gb946, 2, none⟩) (Kd.R_far (p := ⟨gb946, 1, none⟩) (Kd.R_far (p := ⟨gb946, 0, none⟩) (Kd.R_types HO_922002.out BK946.out (by decide)) (fun _ hk => hk.2) (.int .i64 t940)) (fun _ hk => hk.2) (.int .i64 t941)) (fun _ hk => hk.2) (.slice Ao48 t942.length co48)) (fun _ h_ => h_.1))) hb); have n1_ := Aside0.mk (Kd.R_below (by (with_reducible repeat (first | apply Kd.R_alloc | apply Kd.R_drewN | apply Kd.R_drew)); exact (Kd.R_mono (Kd.R_far (p := ⟨gb946, 2, none⟩) (Kd.R_far (p := ⟨gb946, 1, none⟩) (Kd.R_far (p := ⟨gb946, 0, none⟩) (Kd.R_types HO_931002.out BK946.out (by decide)) (fun _ hk => hk.2) (.int .i64 t940)) (fun _ hk => hk.2) (.int .i64 t941)) (fun _ hk => hk.2) (.slice Ao48 t942.length co48)) (fun _ h_ => h_.1))) hb); have n2_ := Aside0.mk (Kd.R_below (by (with_reducible repeat (first | apply Kd.R_alloc | apply Kd.R_drewN | apply Kd.R_drew)); exact (Kd.R_mono (Kd.R_far (p := ⟨gb946, 2, none⟩) (Kd.R_far (p := ⟨gb946, 1, none⟩) (Kd.R_far (p := ⟨gb946, 0, none⟩) (Kd.R_types HO937.out BK946.out (by decide)) (fun _ hk => hk.2) (.int .i64 t940)) (fun _ hk => hk.2) (.int .i64 t941)) (fun _ hk => hk.2) (.slice Ao48 t942.length co48)) (fun _ h_ => h_.1))) hb); have n3_ := Aside0.mk (Kd.R_below (by (with_reducible repeat (first | apply Kd.R_alloc | apply Kd.R_drewN | apply Kd.R_drew)); exact (Kd.R_mono (Kd.R_far (p := ⟨gb946, 2, none⟩) (Kd.R_far (p := ⟨gb946, 1, none⟩) (Kd.R_far (p := ⟨gb946, 0, none⟩) (Kd.R_types HO944.out BK946.out (by decide)) (fun _ hk => hk.2) (.int .i64 t940)) (fun _ hk => hk.2) (.int .i64 t941)) (fun _ hk => hk.2) (.slice Ao48 t942.length co48)) (fun _ h_ => h_.1))) hb); have n4_ := Aside0.mk (blk_below (g := gb921) (o := .cells #[.int .i64 t916, .int .i64 t917, .slice Ao11 t918.length co11] 37 (0, 0)) (by (with_reducible repeat (first | refine blk_drewN ?_ _ | refine blk_drew ?_ | refine blk_alloc ?_ _)); refine blk_far ?_ NB921_946.out _; (with_reducible repeat (first | refine blk_drewN ?_ _ | refine blk_drew ?_ | refine blk_alloc ?_ _)); refine blk_far ?_ NB921_946.out _; (with_reducible repeat (first | refine blk_drewN ?_ _ | refine blk_drew ?_ | refine blk_alloc ?_ _)); refine blk_far ?_ NB921_946.out _; (with_reducible repeat (first | refine blk_drewN ?_ _ | refine blk_drew ?_ | refine blk_alloc ?_ _)); exact BK921.out) hb); have n5_ := Aside0.mk (blk_below (g := gb930) (o := .cells #[.int .i64 t924, .int .i64 t925, .slice Ao16 t926.length co16] 37 (0, 0)) (by (with_reducible repeat (first | refine blk_drewN ?_ _ | refine blk_drew ?_ | refine blk_alloc ?_ _)); refine blk_far ?_ NB930_946.out _; (with_reducible repeat (first | refine blk_drewN ?_ _ | refine blk_drew ?_ | refine blk_alloc ?_ _)); refine blk_far ?_ NB930_946.out _; (with_reducible repeat (first | refine blk_drewN ?_ _ | refine blk_drew ?_ | refine blk_alloc ?_ _)); refine blk_far ?_ NB930_946.out _; (with_reducible repeat (first | refine blk_drewN ?_ _ | refine blk_drew ?_ | refine blk_alloc ?_ _)); exact BK930.out) hb); have n6_ := Aside0.mk (blk_below (g := gb939) (o := .cells #[.int .i64 t933, .int .i64 t934, .slice Ao39 t935.length co39] 37 (0, 0)) (by (with_reducible repeat (first | refine blk_drewN ?_ _ | refine blk_drew ?_ | refine blk_alloc ?_ _)); refine blk_far ?_ NB939_946.out _; (with_reducible repeat (first | refine blk_drewN ?_ _ | refine blk_drew ?_ | refine blk_alloc ?_ _)); refine blk_far ?_ NB939_946.out _; (with_reducible repeat (first | refine blk_drewN ?_ _ | refine blk_drew ?_ | refine blk_alloc ?_ _)); refine blk_far ?_ NB939_946.out _; (with_reducible repeat (first | refine blk_drewN ?_ _ | refine blk_drew ?_ | refine blk_alloc ?_ _)); exact BK939.out) hb); have n7_ := Aside0.mk (blk_below (g := gb946) (o := .cells #[.int .i64 t940, .int .i64 t941, .slice Ao48 t942.length co48] 37 (0, 0)) (by (with_reducible repeat (first | refine blk_drewN ?_ _ | refine blk_drew ?_ | refine blk_alloc ?_ _)); refine blk_put (cs := #[.int .i64 t940, .int .i64 t941, .slice none 0 0]) ?_ 2 _ rfl; (with_reducible repeat (first | refine blk_drewN ?_ _ | refine blk_drew ?_ | refine blk_alloc ?_ _)); refine blk_put (cs := #[.int .i64 t940, .int .i64 0, .slice none 0 0]) ?_ 1 _ rfl; (with_reducible repeat (first | refine blk_drewN ?_ _ | refine blk_drew ?_ | refine blk_alloc ?_ _)); refine blk_put (cs := #[.int .i64 0, .int .i64 0, .slice none 0 0]) ?_ 0 _ rfl; (with_reducible repeat (first | refine blk_drewN ?_ _ | refine blk_drew ?_ | refine blk_alloc ?_ _)); exact BK946.out) hb); have n8_ := Aside0.mk (below_step (by repeat (first | (with_reducible first | exact HB.out | apply below_alloc | apply pw_below_drewN | apply below_drew1 | refine below_set ?_ GE921.out | refine below_set ?_ GE930.out | refine below_set ?_ GE939.out | refine below_set ?_ GE946.out) | exact HB.out)) hb); clear HO_922002; clear HO_931002; clear HO937; clear HO944; clear BK921; clear BK930; clear BK939; clear BK946; clear HB; have HO_922002 := n0_; have HO_931002 := n1_; have HO937 := n2_; have HO944 := n3_; have BK921 := n4_; have BK930 := n5_; have BK939 := n6_; have BK946 := n7_; have HB := n8_; clear n0_ n1_ n2_ n3_ n4_ n5_ n6_ n7_ n8_; (try clear hb); (try clear hb2); (try clear hk); (try clear hi)))
              go_ret
              exact ⟨by first | rfl | (simp [errW_none, errW_some] <;> rfl) | (simp [*, errW_none, errW_some] <;> rfl), by repeat (first | (with_reducible first | exact HB.out | apply below_alloc | apply pw_below_drewN | apply below_drew1 | refine below_set ?_ GE921.out | refine below_set ?_ GE930.out | refine below_set ?_ GE939.out | refine below_set ?_ GE946.out) | exact HB.out)⟩
            · replace c30 := Bool.eq_false_iff.mpr c30
              subst c30
              have H1 : (some false) = some r := by rw [if_neg (show ¬ (false = true) by decide)] at H; exact H
              clear H
              have H := H1
              clear H1
              exact absurd ((Option.some.inj H).trans hT.out) (by decide)
          · replace c28 := Bool.eq_false_iff.mpr c28
            subst c28
            have H1 : (some false) = some r := by rw [if_neg (show ¬ (false = true) by decide)] at H; exact H
            clear H
            have H := H1
            clear H1
            exact absurd ((Option.some.inj H).trans hT.out) (by decide)

end Go.Proofs.Ytbgbbfdmgpcgmaa.P
