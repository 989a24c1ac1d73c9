-- Written by tools/seatprint.py (over the kit's print, changed in memory). Not trusted: Lean checks it.
import Derived.Test.YtdlehfnlibddcaaP0
import Derived.Test.YtdlehfnlibddcaaFlawseqIntS
import Derived.Test.YtdlehfnlibddcaaFlawseqMatrix
import Derived.Test.YtdlehfnlibddcaaFlawsmarkIntS
import Derived.Test.YtdlehfnlibddcaaFlawsmarkMatrix
import Derived.Test.YtdlehfnlibddcaaFlawsheldIntS
import Derived.Test.YtdlehfnlibddcaaFlawsszPicture
import Derived.Test.YtdlehfnlibddcaaFlawstoPicture
import Derived.Test.YtdlehfnlibddcaaFlawseqPicture
import Derived.Test.YtdlehfnlibddcaaFlawsmarkPicture
import Derived.Test.YtdlehfnlibddcaaFlawsszMatrix
import Derived.Test.YtdlehfnlibddcaaFlawstoMatrix
import Derived.Test.YtdlehfnlibddcaaFspecLevelsFor
import Derived.Test.YtdlehfnlibddcaaFimplLevelsFor
namespace Go.Proofs.Ytdlehfnlibddcaa.P
open Go.RowKit Go.Proofs.YtdlehfnlibddcaaW.PrintWords Go.Proofs.YtdlehfnlibddcaaW.PrintLast Go.Proofs.YtdlehfnlibddcaaW.PrintMore
attribute [local go_sem] max2_int min2_int max_two min_two max_three min_three max_four min_four   -- for this text's walks alone
set_option linter.unusedVariables false
set_option linter.unusedSimpArgs false

/-! ### laws_FnExactLevelsFor: function 16 -/
def laws_FnExactLevelsFor.j0 : Nat → List Int → List Int → Bool → Int → Int → List Int → Int → Int → List Int → Option (Bool)
  | 0, _, _, _, _, _, _, _, _, _ => none
  | k + 1, x6, x9, x63, x924000, x924001, x924002, x925000, x925001, x925002 => if x63 = true then (some false) else ((laws_markIntS.f k x9 1).bind fun bt973 => ((laws_heldIntS.f k bt973.2 1).bind fun t975 => (if t975 < 0 then (some false) else (if t975 = bt973.1 then ((laws_toMatrix.f k x924000 x924001 x924002).bind fun bt976 => ((laws_toPicture.f k x925000 x925001 x925002).bind fun bt981 => ((impl_LevelsFor.f k bt976.1 bt976.2.1 bt976.2.2 bt981.1 bt981.2.1 bt981.2.2).bind fun t986 => ((laws_eqIntS.f k t986 x6).bind fun t989 => (if t989 = true then ((laws_heldIntS.f k bt973.2 1).bind fun t990 => (if t990 < 0 then (some false) else (if t990 = bt973.1 then (some true) else (some false)))) else (some false)))))) else (some false)))))
def laws_FnExactLevelsFor.f (k : Nat) (a0_0 : Int) (a0_1 : Int) (l0_2 : List Int) (a1_0 : Int) (a1_1 : Int) (l1_2 : List Int) : Option (Bool) := (laws_szMatrix.f a0_0 a0_1 l0_2 1048576).bind fun t925 => (if t925 < 0 then (some true) else ((laws_szPicture.f a1_0 a1_1 l1_2 t925).bind fun t926 => (if t926 < 0 then (some true) else ((laws_toMatrix.f k a0_0 a0_1 l0_2).bind fun bt927 => ((laws_toPicture.f k a1_0 a1_1 l1_2).bind fun bt932 => ((spec_LevelsFor.f k bt927.1 bt927.2.1 bt927.2.2 bt932.1 bt932.2.1 bt932.2.2).bind fun t937 => ((laws_toMatrix.f k a0_0 a0_1 l0_2).bind fun bt940 => ((laws_toPicture.f k a1_0 a1_1 l1_2).bind fun bt946 => ((impl_LevelsFor.f k bt940.1 bt940.2.1 bt940.2.2 bt946.1 bt946.2.1 bt946.2.2).bind fun t952 => ((laws_eqIntS.f k t952 t937).bind fun t955 => (if t955 = true then ((laws_toMatrix.f k a0_0 a0_1 l0_2).bind fun bt956 => ((laws_eqMatrix.f k bt940.1 bt940.2.1 bt940.2.2 bt956.1 bt956.2.1 bt956.2.2).bind fun t961 => (if t961 = true then ((laws_toPicture.f k a1_0 a1_1 l1_2).bind fun bt962 => ((laws_eqPicture.f k bt946.1 bt946.2.1 bt946.2.2 bt962.1 bt962.2.1 bt962.2.2).bind fun t967 => (if t967 = true then ((laws_markMatrix.f k bt940.1 bt940.2.1 bt940.2.2 1).bind fun bt968 => ((laws_markPicture.f k bt946.1 bt946.2.1 bt946.2.2 bt968.1).bind fun bt970 => (if bt970.1 < 0 then (laws_FnExactLevelsFor.j0 k t937 t952 true a0_0 a0_1 l0_2 a1_0 a1_1 l1_2) else ((laws_eqIntS.f k t952 t937).bind fun t972 => (laws_FnExactLevelsFor.j0 k t937 t952 (!t972) a0_0 a0_1 l0_2 a1_0 a1_1 l1_2))))) else (some false)))) else (some false)))) else (some false))))))))))))
theorem laws_FnExactLevelsFor.mono_l : ∀ k, (∀ y0 y1 y2 y3 y4 y5 y6 y7 y8, LeO (laws_FnExactLevelsFor.j0 k y0 y1 y2 y3 y4 y5 y6 y7 y8) (laws_FnExactLevelsFor.j0 (k + 1) y0 y1 y2 y3 y4 y5 y6 y7 y8))
  | 0 => fun _ _ _ _ _ _ _ _ _ r h => by simp [laws_FnExactLevelsFor.j0] at h
  | k + 1 => by
    have ih0 := laws_FnExactLevelsFor.mono_l k
    · intro y0 y1 y2 y3 y4 y5 y6 y7 y8
      unfold laws_FnExactLevelsFor.j0
      repeat' first
      | (with_reducible exact ih0 _ _ _ _ _ _ _ _ _)
      | (with_reducible exact impl_LevelsFor.mono _ _ _ _ _ _ _)
      | (with_reducible exact laws_eqIntS.mono _ _ _)
      | (with_reducible exact laws_eqMatrix.mono _ _ _ _ _ _ _)
      | (with_reducible exact laws_eqPicture.mono _ _ _ _ _ _ _)
      | (with_reducible exact laws_heldIntS.mono _ _ _)
      | (with_reducible exact laws_markIntS.mono _ _ _)
      | (with_reducible exact laws_markMatrix.mono _ _ _ _ _)
      | (with_reducible exact laws_markPicture.mono _ _ _ _ _)
      | (with_reducible exact laws_toMatrix.mono _ _ _ _)
      | (with_reducible exact laws_toPicture.mono _ _ _ _)
      | (with_reducible exact spec_LevelsFor.mono _ _ _ _ _ _ _)
      | (with_reducible exact LeO.refl _)
      | (with_reducible exact LeO.none _)
      | (with_reducible refine LeO.ite ?_ ?_)
      | (with_reducible refine LeO.bind ?_ (fun _ => ?_))
      | exact ih0 _ _ _ _ _ _ _ _ _
      | exact impl_LevelsFor.mono _ _ _ _ _ _ _
      | exact laws_eqIntS.mono _ _ _
      | exact laws_eqMatrix.mono _ _ _ _ _ _ _
      | exact laws_eqPicture.mono _ _ _ _ _ _ _
      | exact laws_heldIntS.mono _ _ _
      | exact laws_markIntS.mono _ _ _
      | exact laws_markMatrix.mono _ _ _ _ _
      | exact laws_markPicture.mono _ _ _ _ _
      | exact laws_toMatrix.mono _ _ _ _
      | exact laws_toPicture.mono _ _ _ _
      | exact spec_LevelsFor.mono _ _ _ _ _ _ _
      | exact LeO.none _
      | refine LeO.ite ?_ ?_
      | refine LeO.bind ?_ (fun _ => ?_)
theorem laws_FnExactLevelsFor.mono : ∀ a0 a1 a2 a3 a4 a5 k, LeO (laws_FnExactLevelsFor.f k a0 a1 a2 a3 a4 a5) (laws_FnExactLevelsFor.f (k + 1) a0 a1 a2 a3 a4 a5) := by
  intro a0 a1 a2 a3 a4 a5 k
  have ih0 := laws_FnExactLevelsFor.mono_l k
  unfold laws_FnExactLevelsFor.f
  repeat' first
      | (with_reducible exact ih0 _ _ _ _ _ _ _ _ _)
      | (with_reducible exact impl_LevelsFor.mono _ _ _ _ _ _ _)
      | (with_reducible exact laws_eqIntS.mono _ _ _)
      | (with_reducible exact laws_eqMatrix.mono _ _ _ _ _ _ _)
      | (with_reducible exact laws_eqPicture.mono _ _ _ _ _ _ _)
      | (with_reducible exact laws_heldIntS.mono _ _ _)
      | (with_reducible exact laws_markIntS.mono _ _ _)
      | (with_reducible exact laws_markMatrix.mono _ _ _ _ _)
      | (with_reducible exact laws_markPicture.mono _ _ _ _ _)
      | (with_reducible exact laws_toMatrix.mono _ _ _ _)
      | (with_reducible exact laws_toPicture.mono _ _ _ _)
      | (with_reducible exact spec_LevelsFor.mono _ _ _ _ _ _ _)
      | (with_reducible exact LeO.refl _)
      | (with_reducible exact LeO.none _)
      | (with_reducible refine LeO.ite ?_ ?_)
      | (with_reducible refine LeO.bind ?_ (fun _ => ?_))
      | exact ih0 _ _ _ _ _ _ _ _ _
      | exact impl_LevelsFor.mono _ _ _ _ _ _ _
      | exact laws_eqIntS.mono _ _ _
      | exact laws_eqMatrix.mono _ _ _ _ _ _ _
      | exact laws_eqPicture.mono _ _ _ _ _ _ _
      | exact laws_heldIntS.mono _ _ _
      | exact laws_markIntS.mono _ _ _
      | exact laws_markMatrix.mono _ _ _ _ _
      | exact laws_markPicture.mono _ _ _ _ _
      | exact laws_toMatrix.mono _ _ _ _
      | exact laws_toPicture.mono _ _ _ _
      | exact spec_LevelsFor.mono _ _ _ _ _ _ _
      | exact LeO.none _
      | refine LeO.ite ?_ ?_
      | refine LeO.bind ?_ (fun _ => ?_)
set_option maxHeartbeats 8000000 in
set_option maxRecDepth 100000 in
theorem laws_FnExactLevelsFor.calls (k : Nat) (a0_0 : Int) (a0_1 : Int) (A0_2 : Option Addr) (c0_2 : Nat) (l0_2 : List Int) (a1_0 : Int) (a1_1 : Int) (A1_2 : Option Addr) (c1_2 : Nat) (l1_2 : List Int) (r : Bool) (w : World) (hr0_2 : Kd.C (Kd.int .i64) w A0_2 l0_2.length l0_2) (hc0_2 : l0_2.length ≤ c0_2) (hr1_2 : Kd.C (Kd.int .i64) w A1_2 l1_2.length l1_2) (hc1_2 : l1_2.length ≤ c1_2) (hT : Aside0 (r = true)) (h : laws_FnExactLevelsFor.f k a0_0 a0_1 l0_2 a1_0 a1_1 l1_2 = some r) :
    Calls Try.prog 16 #[.agg #[.int .i64 a0_0, .int .i64 a0_1, .slice A0_2 l0_2.length c0_2], .agg #[.int .i64 a1_0, .int .i64 a1_1, .slice A1_2 l1_2.length c1_2]] w fun e w' => e = .returned (.bool r) ∧ Below w.heap.size w w' := by
  have hu55 := Try.underlying55
  have hu48 := Try.underlying48
  have hu26 := Try.underlying26
  have hu41 := Try.underlying41
  have HR0_2 := Aside0.mk hr0_2
  have HC0_2 := Aside0.mk hc0_2
  clear hr0_2 hc0_2
  have HR1_2 := Aside0.mk hr1_2
  have HC1_2 := Aside0.mk hc1_2
  clear hr1_2 hc1_2
  have HB := Aside0.mk (Below.refl w.heap.size w)
  have H : ((laws_szMatrix.f a0_0 a0_1 l0_2 1048576).bind fun t925 => (if t925 < 0 then (some true) else ((laws_szPicture.f a1_0 a1_1 l1_2 t925).bind fun t926 => (if t926 < 0 then (some true) else ((laws_toMatrix.f k a0_0 a0_1 l0_2).bind fun bt927 => ((laws_toPicture.f k a1_0 a1_1 l1_2).bind fun bt932 => ((spec_LevelsFor.f k bt927.1 bt927.2.1 bt927.2.2 bt932.1 bt932.2.1 bt932.2.2).bind fun t937 => ((laws_toMatrix.f k a0_0 a0_1 l0_2).bind fun bt940 => ((laws_toPicture.f k a1_0 a1_1 l1_2).bind fun bt946 => ((impl_LevelsFor.f k bt940.1 bt940.2.1 bt940.2.2 bt946.1 bt946.2.1 bt946.2.2).bind fun t952 => ((laws_eqIntS.f k t952 t937).bind fun t955 => (if t955 = true then ((laws_toMatrix.f k a0_0 a0_1 l0_2).bind fun bt956 => ((laws_eqMatrix.f k bt940.1 bt940.2.1 bt940.2.2 bt956.1 bt956.2.1 bt956.2.2).bind fun t961 => (if t961 = true then ((laws_toPicture.f k a1_0 a1_1 l1_2).bind fun bt962 => ((laws_eqPicture.f k bt946.1 bt946.2.1 bt946.2.2 bt962.1 bt962.2.1 bt962.2.2).bind fun t967 => (if t967 = true then ((laws_markMatrix.f k bt940.1 bt940.2.1 bt940.2.2 1).bind fun bt968 => ((laws_markPicture.f k bt946.1 bt946.2.1 bt946.2.2 bt968.1).bind fun bt970 => (if bt970.1 < 0 then (laws_FnExactLevelsFor.j0 k t937 t952 true a0_0 a0_1 l0_2 a1_0 a1_1 l1_2) else ((laws_eqIntS.f k t952 t937).bind fun t972 => (laws_FnExactLevelsFor.j0 k t937 t952 (!t972) a0_0 a0_1 l0_2 a1_0 a1_1 l1_2))))) else (some false)))) else (some false)))) else (some false))))))))))))) = some r := h
  clear h
  replace H := Option.bind_eq_some_iff.mp H
  obtain ⟨t925, A30, H⟩ := H
  replace H : (if t925 < 0 then (some true) else ((laws_szPicture.f a1_0 a1_1 l1_2 t925).bind fun t926 => (if t926 < 0 then (some true) else ((laws_toMatrix.f k a0_0 a0_1 l0_2).bind fun bt927 => ((laws_toPicture.f k a1_0 a1_1 l1_2).bind fun bt932 => ((spec_LevelsFor.f k bt927.1 bt927.2.1 bt927.2.2 bt932.1 bt932.2.1 bt932.2.2).bind fun t937 => ((laws_toMatrix.f k a0_0 a0_1 l0_2).bind fun bt940 => ((laws_toPicture.f k a1_0 a1_1 l1_2).bind fun bt946 => ((impl_LevelsFor.f k bt940.1 bt940.2.1 bt940.2.2 bt946.1 bt946.2.1 bt946.2.2).bind fun t952 => ((laws_eqIntS.f k t952 t937).bind fun t955 => (if t955 = true then ((laws_toMatrix.f k a0_0 a0_1 l0_2).bind fun bt956 => ((laws_eqMatrix.f k bt940.1 bt940.2.1 bt940.2.2 bt956.1 bt956.2.1 bt956.2.2).bind fun t961 => (if t961 = true then ((laws_toPicture.f k a1_0 a1_1 l1_2).bind fun bt962 => ((laws_eqPicture.f k bt946.1 bt946.2.1 bt946.2.2 bt962.1 bt962.2.1 bt962.2.2).bind fun t967 => (if t967 = true then ((laws_markMatrix.f k bt940.1 bt940.2.1 bt940.2.2 1).bind fun bt968 => ((laws_markPicture.f k bt946.1 bt946.2.1 bt946.2.2 bt968.1).bind fun bt970 => (if bt970.1 < 0 then (laws_FnExactLevelsFor.j0 k t937 t952 true a0_0 a0_1 l0_2 a1_0 a1_1 l1_2) else ((laws_eqIntS.f k t952 t937).bind fun t972 => (laws_FnExactLevelsFor.j0 k t937 t952 (!t972) a0_0 a0_1 l0_2 a1_0 a1_1 l1_2))))) else (some false)))) else (some false)))) else (some false)))))))))))) = some r := H
  have A3 := Aside0.mk A30
  clear A30
  by_cases c4 : t925 < 0
  · rw [if_pos c4] at H
    have c4b0 : decide (t925 < 0) = true := decide_eq_true c4
    clear c4
    obtain rfl := Option.some.inj H
    go_enter Try.func16, Try.ntmps16
    go_wp2_with (first | ((with_reducible refine gate_dst (N := 2) rfl ?_); refine box_event ?hg (N := 2) ?hd (cs := #[.int .i64 a0_0, .int .i64 a0_1, .slice A0_2 l0_2.length c0_2]) (t := 55) ?hr ?_; (case hd => rfl); (case hg => rfl); (case hr => first | (go_simp; done) | (go_simp; rfl)); intro gb923 hg w5 hbox hb; have n0_ := Aside0.mk (below_step (by repeat (first | (with_reducible first | exact HB.out | apply below_alloc | apply pw_below_drewN | apply below_drew1) | exact HB.out)) hb); have n1_ := Aside0.mk (hbox); have n2_ := Aside0.mk ((by rw [hg]; exact (below_size (by repeat (first | (with_reducible first | exact HB.out | apply below_alloc | apply pw_below_drewN | apply below_drew1) | exact HB.out))) : w.heap.size ≤ gb923)); have n3_ := Aside0.mk ((by rw [hg]; exact (below_size (by repeat (first | (with_reducible first | exact HB.out | apply below_alloc | apply pw_below_drewN | apply below_drew1) | exact HB.out))) : w.heap.size ≤ gb923)); clear HB; have HB := n0_; have BK923 := n1_; have GW923 := n2_; have GE923 := n3_; clear n0_ n1_ n2_ n3_; clear hb hbox hg) | ((with_reducible refine gate_dst (N := 3) rfl ?_); refine box_event ?hg (N := 3) ?hd (cs := #[.int .i64 a1_0, .int .i64 a1_1, .slice A1_2 l1_2.length c1_2]) (t := 48) ?hr ?_; (case hd => rfl); (case hg => rfl); (case hr => first | (go_simp; done) | (go_simp; rfl)); intro gb924 hg w6 hbox hb; have n0_ := Aside0.mk (blk_below (g := gb923) (o := .cells #[.int .i64 a0_0, .int .i64 a0_1, .slice A0_2 l0_2.length c0_2] 55 (0, 0)) (by (with_reducible repeat (first | refine blk_drewN ?_ _ | refine blk_drew ?_ | refine blk_alloc ?_ _)); exact BK923.out) hb); have n1_ := Aside0.mk (below_step (by repeat (first | (with_reducible first | exact HB.out | apply below_alloc | apply pw_below_drewN | apply below_drew1 | refine below_set ?_ GE923.out) | exact HB.out)) hb); have n2_ := Aside0.mk (hbox); have n3_ := Aside0.mk ((by rw [hg]; exact (below_size (by repeat (first | (with_reducible first | exact HB.out | apply below_alloc | apply pw_below_drewN | apply below_drew1 | refine below_set ?_ GE923.out) | exact HB.out))) : w.heap.size ≤ gb924)); have n4_ := Aside0.mk ((by rw [hg]; exact (below_size (by repeat (first | (with_reducible first | exact HB.out | apply below_alloc | apply pw_below_drewN | apply below_drew1 | refine below_set ?_ GE923.out) | exact HB.out))) : w.heap.size ≤ gb924)); have n5_ := Aside0.mk ((by rw [hg]; exact Nat.ne_of_lt (blk_lt (g := gb923) (o := .cells #[.int .i64 a0_0, .int .i64 a0_1, .slice A0_2 l0_2.length c0_2] 55 (0, 0)) (by (with_reducible repeat (first | refine blk_drewN ?_ _ | refine blk_drew ?_ | refine blk_alloc ?_ _)); exact BK923.out)) : gb923 ≠ gb924)); have n6_ := Aside0.mk ((by rw [hg]; exact Nat.ne_of_gt (blk_lt (g := gb923) (o := .cells #[.int .i64 a0_0, .int .i64 a0_1, .slice A0_2 l0_2.length c0_2] 55 (0, 0)) (by (with_reducible repeat (first | refine blk_drewN ?_ _ | refine blk_drew ?_ | refine blk_alloc ?_ _)); exact BK923.out)) : gb924 ≠ gb923)); clear BK923; clear HB; have BK923 := n0_; have HB := n1_; have BK924 := n2_; have GW924 := n3_; have GE924 := n4_; have NB923_924 := n5_; have NB924_923 := n6_; clear n0_ n1_ n2_ n3_ n4_ n5_ n6_; clear hb hbox hg; have hnb7 := NB923_924.out; have hnc7 := NB924_923.out; have hcz8_0 : w6.cell? ⟨gb923, 0, none⟩ = some (.int .i64 a0_0) := (blk_cell BK923.out 0).trans rfl; have hcz8_1 : w6.cell? ⟨gb923, 1, none⟩ = some (.int .i64 a0_1) := (blk_cell BK923.out 1).trans rfl; have hcz8_2 : w6.cell? ⟨gb923, 2, none⟩ = some (.slice A0_2 l0_2.length c0_2) := (blk_cell BK923.out 2).trans rfl; have hfz8_0 := blk_frozen BK923.out 0; have hfz8_1 := blk_frozen BK923.out 1; have hfz8_2 := blk_frozen BK923.out 2) | ((with_reducible refine gate_callee (f := 56) rfl ?_); refine goesL_ (some 16) rfl rfl Try.func56 (by kernel_rfl) rfl #[.agg #[.int .i64 a0_0, .int .i64 a0_1, .slice A0_2 l0_2.length c0_2], .int .i64 1048576] rfl (by (try simp only [List.map_toArray, List.map_cons, List.map_nil]); first | done | rfl | (simp only [List.length_drop, List.length_take]; rfl)) ?_; (with_reducible refine (laws_szMatrix.calls a0_0 a0_1 _ _ l0_2 1048576 t925 _ ?side1 ?side2 A3.out).mono ?_); (case side1 => repeat (first | exact (Kd.C_below HR0_2.out HB.out) | (with_reducible refine Kd.C_alloc ?_ _) | (with_reducible refine Kd.C_drewN ?_ _) | (with_reducible refine Kd.C_drew ?_))); (case side2 => exact HC0_2.out); rintro e w9 ⟨rfl, hb⟩; refine ⟨_, rfl, ?_⟩; have n0_ := Aside0.mk (blk_below (g := gb923) (o := .cells #[.int .i64 a0_0, .int .i64 a0_1, .slice A0_2 l0_2.length c0_2] 55 (0, 0)) (by (with_reducible repeat (first | refine blk_drewN ?_ _ | refine blk_drew ?_ | refine blk_alloc ?_ _)); exact BK923.out) hb); have n1_ := Aside0.mk (blk_below (g := gb924) (o := .cells #[.int .i64 a1_0, .int .i64 a1_1, .slice A1_2 l1_2.length c1_2] 48 (0, 0)) (by (with_reducible repeat (first | refine blk_drewN ?_ _ | refine blk_drew ?_ | refine blk_alloc ?_ _)); exact BK924.out) hb); have n2_ := Aside0.mk (below_step (by repeat (first | (with_reducible first | exact HB.out | apply below_alloc | apply pw_below_drewN | apply below_drew1 | refine below_set ?_ GE923.out | refine below_set ?_ GE924.out) | exact HB.out)) hb); clear BK923; clear BK924; clear HB; have BK923 := n0_; have BK924 := n1_; have HB := n2_; clear n0_ n1_ n2_; (try clear hb); (try clear hb2); (try clear hk); (try clear hi)))
    go_ret
    exact ⟨by first | rfl | (simp [errW_none, errW_some] <;> rfl) | (simp [*, errW_none, errW_some] <;> rfl), by repeat (first | (with_reducible first | exact HB.out | apply below_alloc | apply pw_below_drewN | apply below_drew1 | refine below_set ?_ GE923.out | refine below_set ?_ GE924.out) | exact HB.out)⟩
  · rw [if_neg c4] at H
    have c4b0 : decide (t925 < 0) = false := decide_eq_false c4
    clear c4
    replace H := Option.bind_eq_some_iff.mp H
    obtain ⟨t926, A100, H⟩ := H
    replace H : (if t926 < 0 then (some true) else ((laws_toMatrix.f k a0_0 a0_1 l0_2).bind fun bt927 => ((laws_toPicture.f k a1_0 a1_1 l1_2).bind fun bt932 => ((spec_LevelsFor.f k bt927.1 bt927.2.1 bt927.2.2 bt932.1 bt932.2.1 bt932.2.2).bind fun t937 => ((laws_toMatrix.f k a0_0 a0_1 l0_2).bind fun bt940 => ((laws_toPicture.f k a1_0 a1_1 l1_2).bind fun bt946 => ((impl_LevelsFor.f k bt940.1 bt940.2.1 bt940.2.2 bt946.1 bt946.2.1 bt946.2.2).bind fun t952 => ((laws_eqIntS.f k t952 t937).bind fun t955 => (if t955 = true then ((laws_toMatrix.f k a0_0 a0_1 l0_2).bind fun bt956 => ((laws_eqMatrix.f k bt940.1 bt940.2.1 bt940.2.2 bt956.1 bt956.2.1 bt956.2.2).bind fun t961 => (if t961 = true then ((laws_toPicture.f k a1_0 a1_1 l1_2).bind fun bt962 => ((laws_eqPicture.f k bt946.1 bt946.2.1 bt946.2.2 bt962.1 bt962.2.1 bt962.2.2).bind fun t967 => (if t967 = true then ((laws_markMatrix.f k bt940.1 bt940.2.1 bt940.2.2 1).bind fun bt968 => ((laws_markPicture.f k bt946.1 bt946.2.1 bt946.2.2 bt968.1).bind fun bt970 => (if bt970.1 < 0 then (laws_FnExactLevelsFor.j0 k t937 t952 true a0_0 a0_1 l0_2 a1_0 a1_1 l1_2) else ((laws_eqIntS.f k t952 t937).bind fun t972 => (laws_FnExactLevelsFor.j0 k t937 t952 (!t972) a0_0 a0_1 l0_2 a1_0 a1_1 l1_2))))) else (some false)))) else (some false)))) else (some false)))))))))) = some r := H
    have A10 := Aside0.mk A100
    clear A100
    by_cases c11 : t926 < 0
    · rw [if_pos c11] at H
      have c11b0 : decide (t926 < 0) = true := decide_eq_true c11
      clear c11
      obtain rfl := Option.some.inj H
      go_enter Try.func16, Try.ntmps16
      go_wp2_with (first | ((with_reducible refine gate_dst (N := 2) rfl ?_); refine box_event ?hg (N := 2) ?hd (cs := #[.int .i64 a0_0, .int .i64 a0_1, .slice A0_2 l0_2.length c0_2]) (t := 55) ?hr ?_; (case hd => rfl); (case hg => rfl); (case hr => first | (go_simp; done) | (go_simp; rfl)); intro gb923 hg w12 hbox hb; have n0_ := Aside0.mk (below_step (by repeat (first | (with_reducible first | exact HB.out | apply below_alloc | apply pw_below_drewN | apply below_drew1) | exact HB.out)) hb); have n1_ := Aside0.mk (hbox); have n2_ := Aside0.mk ((by rw [hg]; exact (below_size (by repeat (first | (with_reducible first | exact HB.out | apply below_alloc | apply pw_below_drewN | apply below_drew1) | exact HB.out))) : w.heap.size ≤ gb923)); have n3_ := Aside0.mk ((by rw [hg]; exact (below_size (by repeat (first | (with_reducible first | exact HB.out | apply below_alloc | apply pw_below_drewN | apply below_drew1) | exact HB.out))) : w.heap.size ≤ gb923)); clear HB; have HB := n0_; have BK923 := n1_; have GW923 := n2_; have GE923 := n3_; clear n0_ n1_ n2_ n3_; clear hb hbox hg) | ((with_reducible refine gate_dst (N := 3) rfl ?_); refine box_event ?hg (N := 3) ?hd (cs := #[.int .i64 a1_0, .int .i64 a1_1, .slice A1_2 l1_2.length c1_2]) (t := 48) ?hr ?_; (case hd => rfl); (case hg => rfl); (case hr => first | (go_simp; done) | (go_simp; rfl)); intro gb924 hg w13 hbox hb; have n0_ := Aside0.mk (blk_below (g := gb923) (o := .cells #[.int .i64 a0_0, .int .i64 a0_1, .slice A0_2 l0_2.length c0_2] 55 (0, 0)) (by (with_reducible repeat (first | refine blk_drewN ?_ _ | refine blk_drew ?_ | refine blk_alloc ?_ _)); exact BK923.out) hb); have n1_ := Aside0.mk (below_step (by repeat (first | (with_reducible first | exact HB.out | apply below_alloc | apply pw_below_drewN | apply below_drew1 | refine below_set ?_ GE923.out) | exact HB.out)) hb); have n2_ := Aside0.mk (hbox); have n3_ := Aside0.mk ((by rw [hg]; exact (below_size (by repeat (first | (with_reducible first | exact HB.out | apply below_alloc | apply pw_below_drewN | apply below_drew1 | refine below_set ?_ GE923.out) | exact HB.out))) : w.heap.size ≤ gb924)); have n4_ := Aside0.mk ((by rw [hg]; exact (below_size (by repeat (first | (with_reducible first | exact HB.out | apply below_alloc | apply pw_below_drewN | apply below_drew1 | refine below_set ?_ GE923.out) | exact HB.out))) : w.heap.size ≤ gb924)); have n5_ := Aside0.mk ((by rw [hg]; exact Nat.ne_of_lt (blk_lt (g := gb923) (o := .cells #[.int .i64 a0_0, .int .i64 a0_1, .slice A0_2 l0_2.length c0_2] 55 (0, 0)) (by (with_reducible repeat (first | refine blk_drewN ?_ _ | refine blk_drew ?_ | refine blk_alloc ?_ _)); exact BK923.out)) : gb923 ≠ gb924)); have n6_ := Aside0.mk ((by rw [hg]; exact Nat.ne_of_gt (blk_lt (g := gb923) (o := .cells #[.int .i64 a0_0, .int .i64 a0_1, .slice A0_2 l0_2.length c0_2] 55 (0, 0)) (by (with_reducible repeat (first | refine blk_drewN ?_ _ | refine blk_drew ?_ | refine blk_alloc ?_ _)); exact BK923.out)) : gb924 ≠ gb923)); clear BK923; clear HB; have BK923 := n0_; have HB := n1_; have BK924 := n2_; have GW924 := n3_; have GE924 := n4_; have NB923_924 := n5_; have NB924_923 := n6_; clear n0_ n1_ n2_ n3_ n4_ n5_ n6_; clear hb hbox hg; have hnb14 := NB923_924.out; have hnc14 := NB924_923.out; have hcz15_0 : w13.cell? ⟨gb923, 0, none⟩ = some (.int .i64 a0_0) := (blk_cell BK923.out 0).trans rfl; have hcz15_1 : w13.cell? ⟨gb923, 1, none⟩ = some (.int .i64 a0_1) := (blk_cell BK923.out 1).trans rfl; have hcz15_2 : w13.cell? ⟨gb923, 2, none⟩ = some (.slice A0_2 l0_2.length c0_2) := (blk_cell BK923.out 2).trans rfl; have hfz15_0 := blk_frozen BK923.out 0; have hfz15_1 := blk_frozen BK923.out 1; have hfz15_2 := blk_frozen BK923.out 2) | ((with_reducible refine gate_callee (f := 56) rfl ?_); refine goesL_ (some 16) rfl rfl Try.func56 (by kernel_rfl) rfl #[.agg #[.int .i64 a0_0, .int .i64 a0_1, .slice A0_2 l0_2.length c0_2], .int .i64 1048576] rfl (by (try simp only [List.map_toArray, List.map_cons, List.map_nil]); first | done | rfl | (simp only [List.length_drop, List.length_take]; rfl)) ?_; (with_reducible refine (laws_szMatrix.calls a0_0 a0_1 _ _ l0_2 1048576 t925 _ ?side1 ?side2 A3.out).mono ?_); (case side1 => repeat (first | exact (Kd.C_below HR0_2.out HB.out) | (with_reducible refine Kd.C_alloc ?_ _) | (with_reducible refine Kd.C_drewN ?_ _) | (with_reducible refine Kd.C_drew ?_))); (case side2 => exact HC0_2.out); rintro e w16 ⟨rfl, hb⟩; refine ⟨_, rfl, ?_⟩; have n0_ := Aside0.mk (blk_below (g := gb923) (o := .cells #[.int .i64 a0_0, .int .i64 a0_1, .slice A0_2 l0_2.length c0_2] 55 (0, 0)) (by (with_reducible repeat (first | refine blk_drewN ?_ _ | refine blk_drew ?_ | refine blk_alloc ?_ _)); exact BK923.out) hb); have n1_ := Aside0.mk (blk_below (g := gb924) (o := .cells #[.int .i64 a1_0, .int .i64 a1_1, .slice A1_2 l1_2.length c1_2] 48 (0, 0)) (by (with_reducible repeat (first | refine blk_drewN ?_ _ | refine blk_drew ?_ | refine blk_alloc ?_ _)); exact BK924.out) hb); have n2_ := Aside0.mk (below_step (by repeat (first | (with_reducible first | exact HB.out | apply below_alloc | apply pw_below_drewN | apply below_drew1 | refine below_set ?_ GE923.out | refine below_set ?_ GE924.out) | exact HB.out)) hb); clear BK923; clear BK924; clear HB; have BK923 := n0_; have BK924 := n1_; have HB := n2_; clear n0_ n1_ n2_; (try clear hb); (try clear hb2); (try clear hk); (try clear hi); have hcz17_0 : w16.cell? ⟨gb924, 0, none⟩ = some (.int .i64 a1_0) := (blk_cell BK924.out 0).trans rfl; have hcz17_1 : w16.cell? ⟨gb924, 1, none⟩ = some (.int .i64 a1_1) := (blk_cell BK924.out 1).trans rfl; have hcz17_2 : w16.cell? ⟨gb924, 2, none⟩ = some (.slice A1_2 l1_2.length c1_2) := (blk_cell BK924.out 2).trans rfl; have hfz17_0 := blk_frozen BK924.out 0; have hfz17_1 := blk_frozen BK924.out 1; have hfz17_2 := blk_frozen BK924.out 2) | ((with_reducible refine gate_callee (f := 46) rfl ?_); refine goesL_ (some 21) rfl rfl Try.func46 (by kernel_rfl) rfl #[.agg #[.int .i64 a1_0, .int .i64 a1_1, .slice A1_2 l1_2.length c1_2], .int .i64 t925] rfl (by (try simp only [List.map_toArray, List.map_cons, List.map_nil]); first | done | rfl | (simp only [List.length_drop, List.length_take]; rfl)) ?_; (with_reducible refine (laws_szPicture.calls a1_0 a1_1 _ _ l1_2 t925 t926 _ ?side1 ?side2 A10.out).mono ?_); (case side1 => repeat (first | exact (Kd.C_below HR1_2.out HB.out) | (with_reducible refine Kd.C_alloc ?_ _) | (with_reducible refine Kd.C_drewN ?_ _) | (with_reducible refine Kd.C_drew ?_))); (case side2 => exact HC1_2.out); rintro e w18 ⟨rfl, hb⟩; refine ⟨_, rfl, ?_⟩; have n0_ := Aside0.mk (blk_below (g := gb923) (o := .cells #[.int .i64 a0_0, .int .i64 a0_1, .slice A0_2 l0_2.length c0_2] 55 (0, 0)) (by (with_reducible repeat (first | refine blk_drewN ?_ _ | refine blk_drew ?_ | refine blk_alloc ?_ _)); exact BK923.out) hb); have n1_ := Aside0.mk (blk_below (g := gb924) (o := .cells #[.int .i64 a1_0, .int .i64 a1_1, .slice A1_2 l1_2.length c1_2] 48 (0, 0)) (by (with_reducible repeat (first | refine blk_drewN ?_ _ | refine blk_drew ?_ | refine blk_alloc ?_ _)); exact BK924.out) hb); have n2_ := Aside0.mk (below_step (by repeat (first | (with_reducible first | exact HB.out | apply below_alloc | apply pw_below_drewN | apply below_drew1 | refine below_set ?_ GE923.out | refine below_set ?_ GE924.out) | exact HB.out)) hb); clear BK923; clear BK924; clear HB; have BK923 := n0_; have BK924 := n1_; have HB := n2_; clear n0_ n1_ n2_; (try clear hb); (try clear hb2); (try clear hk); (try clear hi)))
      go_ret
      exact ⟨by first | rfl | (simp [errW_none, errW_some] <;> rfl) | (simp [*, errW_none, errW_some] <;> rfl), by repeat (first | (with_reducible first | exact HB.out | apply below_alloc | apply pw_below_drewN | apply below_drew1 | refine below_set ?_ GE923.out | refine below_set ?_ GE924.out) | exact HB.out)⟩
    · rw [if_neg c11] at H
      have c11b0 : decide (t926 < 0) = false := decide_eq_false c11
      clear c11
      replace H := Option.bind_eq_some_iff.mp H
      obtain ⟨⟨t927, t928, t929⟩, A190, H⟩ := H
      replace H : ((laws_toPicture.f k a1_0 a1_1 l1_2).bind fun bt932 => ((spec_LevelsFor.f k t927 t928 t929 bt932.1 bt932.2.1 bt932.2.2).bind fun t937 => ((laws_toMatrix.f k a0_0 a0_1 l0_2).bind fun bt940 => ((laws_toPicture.f k a1_0 a1_1 l1_2).bind fun bt946 => ((impl_LevelsFor.f k bt940.1 bt940.2.1 bt940.2.2 bt946.1 bt946.2.1 bt946.2.2).bind fun t952 => ((laws_eqIntS.f k t952 t937).bind fun t955 => (if t955 = true then ((laws_toMatrix.f k a0_0 a0_1 l0_2).bind fun bt956 => ((laws_eqMatrix.f k bt940.1 bt940.2.1 bt940.2.2 bt956.1 bt956.2.1 bt956.2.2).bind fun t961 => (if t961 = true then ((laws_toPicture.f k a1_0 a1_1 l1_2).bind fun bt962 => ((laws_eqPicture.f k bt946.1 bt946.2.1 bt946.2.2 bt962.1 bt962.2.1 bt962.2.2).bind fun t967 => (if t967 = true then ((laws_markMatrix.f k bt940.1 bt940.2.1 bt940.2.2 1).bind fun bt968 => ((laws_markPicture.f k bt946.1 bt946.2.1 bt946.2.2 bt968.1).bind fun bt970 => (if bt970.1 < 0 then (laws_FnExactLevelsFor.j0 k t937 t952 true a0_0 a0_1 l0_2 a1_0 a1_1 l1_2) else ((laws_eqIntS.f k t952 t937).bind fun t972 => (laws_FnExactLevelsFor.j0 k t937 t952 (!t972) a0_0 a0_1 l0_2 a1_0 a1_1 l1_2))))) else (some false)))) else (some false)))) else (some false)))))))) = some r := H
      have A19 := Aside0.mk A190
      clear A190
      replace H := Option.bind_eq_some_iff.mp H
      obtain ⟨⟨t932, t933, t934⟩, A200, H⟩ := H
      replace H : ((spec_LevelsFor.f k t927 t928 t929 t932 t933 t934).bind fun t937 => ((laws_toMatrix.f k a0_0 a0_1 l0_2).bind fun bt940 => ((laws_toPicture.f k a1_0 a1_1 l1_2).bind fun bt946 => ((impl_LevelsFor.f k bt940.1 bt940.2.1 bt940.2.2 bt946.1 bt946.2.1 bt946.2.2).bind fun t952 => ((laws_eqIntS.f k t952 t937).bind fun t955 => (if t955 = true then ((laws_toMatrix.f k a0_0 a0_1 l0_2).bind fun bt956 => ((laws_eqMatrix.f k bt940.1 bt940.2.1 bt940.2.2 bt956.1 bt956.2.1 bt956.2.2).bind fun t961 => (if t961 = true then ((laws_toPicture.f k a1_0 a1_1 l1_2).bind fun bt962 => ((laws_eqPicture.f k bt946.1 bt946.2.1 bt946.2.2 bt962.1 bt962.2.1 bt962.2.2).bind fun t967 => (if t967 = true then ((laws_markMatrix.f k bt940.1 bt940.2.1 bt940.2.2 1).bind fun bt968 => ((laws_markPicture.f k bt946.1 bt946.2.1 bt946.2.2 bt968.1).bind fun bt970 => (if bt970.1 < 0 then (laws_FnExactLevelsFor.j0 k t937 t952 true a0_0 a0_1 l0_2 a1_0 a1_1 l1_2) else ((laws_eqIntS.f k t952 t937).bind fun t972 => (laws_FnExactLevelsFor.j0 k t937 t952 (!t972) a0_0 a0_1 l0_2 a1_0 a1_1 l1_2))))) else (some false)))) else (some false)))) else (some false))))))) = some r := H
      have A20 := Aside0.mk A200
      clear A200
      replace H := Option.bind_eq_some_iff.mp H
      obtain ⟨t937, A210, H⟩ := H
      replace H : ((laws_toMatrix.f k a0_0 a0_1 l0_2).bind fun bt940 => ((laws_toPicture.f k a1_0 a1_1 l1_2).bind fun bt946 => ((impl_LevelsFor.f k bt940.1 bt940.2.1 bt940.2.2 bt946.1 bt946.2.1 bt946.2.2).bind fun t952 => ((laws_eqIntS.f k t952 t937).bind fun t955 => (if t955 = true then ((laws_toMatrix.f k a0_0 a0_1 l0_2).bind fun bt956 => ((laws_eqMatrix.f k bt940.1 bt940.2.1 bt940.2.2 bt956.1 bt956.2.1 bt956.2.2).bind fun t961 => (if t961 = true then ((laws_toPicture.f k a1_0 a1_1 l1_2).bind fun bt962 => ((laws_eqPicture.f k bt946.1 bt946.2.1 bt946.2.2 bt962.1 bt962.2.1 bt962.2.2).bind fun t967 => (if t967 = true then ((laws_markMatrix.f k bt940.1 bt940.2.1 bt940.2.2 1).bind fun bt968 => ((laws_markPicture.f k bt946.1 bt946.2.1 bt946.2.2 bt968.1).bind fun bt970 => (if bt970.1 < 0 then (laws_FnExactLevelsFor.j0 k t937 t952 true a0_0 a0_1 l0_2 a1_0 a1_1 l1_2) else ((laws_eqIntS.f k t952 t937).bind fun t972 => (laws_FnExactLevelsFor.j0 k t937 t952 (!t972) a0_0 a0_1 l0_2 a1_0 a1_1 l1_2))))) else (some false)))) else (some false)))) else (some false)))))) = some r := H
      have A21 := Aside0.mk A210
      clear A210
      replace H := Option.bind_eq_some_iff.mp H
      obtain ⟨⟨t940, t941, t942⟩, A220, H⟩ := H
      replace H : ((laws_toPicture.f k a1_0 a1_1 l1_2).bind fun bt946 => ((impl_LevelsFor.f k t940 t941 t942 bt946.1 bt946.2.1 bt946.2.2).bind fun t952 => ((laws_eqIntS.f k t952 t937).bind fun t955 => (if t955 = true then ((laws_toMatrix.f k a0_0 a0_1 l0_2).bind fun bt956 => ((laws_eqMatrix.f k t940 t941 t942 bt956.1 bt956.2.1 bt956.2.2).bind fun t961 => (if t961 = true then ((laws_toPicture.f k a1_0 a1_1 l1_2).bind fun bt962 => ((laws_eqPicture.f k bt946.1 bt946.2.1 bt946.2.2 bt962.1 bt962.2.1 bt962.2.2).bind fun t967 => (if t967 = true then ((laws_markMatrix.f k t940 t941 t942 1).bind fun bt968 => ((laws_markPicture.f k bt946.1 bt946.2.1 bt946.2.2 bt968.1).bind fun bt970 => (if bt970.1 < 0 then (laws_FnExactLevelsFor.j0 k t937 t952 true a0_0 a0_1 l0_2 a1_0 a1_1 l1_2) else ((laws_eqIntS.f k t952 t937).bind fun t972 => (laws_FnExactLevelsFor.j0 k t937 t952 (!t972) a0_0 a0_1 l0_2 a1_0 a1_1 l1_2))))) else (some false)))) else (some false)))) else (some false))))) = some r := H
      have A22 := Aside0.mk A220
      clear A220
      replace H := Option.bind_eq_some_iff.mp H
      obtain ⟨⟨t946, t947, t948⟩, A230, H⟩ := H
      replace H : ((impl_LevelsFor.f k t940 t941 t942 t946 t947 t948).bind fun t952 => ((laws_eqIntS.f k t952 t937).bind fun t955 => (if t955 = true then ((laws_toMatrix.f k a0_0 a0_1 l0_2).bind fun bt956 => ((laws_eqMatrix.f k t940 t941 t942 bt956.1 bt956.2.1 bt956.2.2).bind fun t961 => (if t961 = true then ((laws_toPicture.f k a1_0 a1_1 l1_2).bind fun bt962 => ((laws_eqPicture.f k t946 t947 t948 bt962.1 bt962.2.1 bt962.2.2).bind fun t967 => (if t967 = true then ((laws_markMatrix.f k t940 t941 t942 1).bind fun bt968 => ((laws_markPicture.f k t946 t947 t948 bt968.1).bind fun bt970 => (if bt970.1 < 0 then (laws_FnExactLevelsFor.j0 k t937 t952 true a0_0 a0_1 l0_2 a1_0 a1_1 l1_2) else ((laws_eqIntS.f k t952 t937).bind fun t972 => (laws_FnExactLevelsFor.j0 k t937 t952 (!t972) a0_0 a0_1 l0_2 a1_0 a1_1 l1_2))))) else (some false)))) else (some false)))) else (some false)))) = some r := H
      have A23 := Aside0.mk A230
      clear A230
      replace H := Option.bind_eq_some_iff.mp H
      obtain ⟨t952, A240, H⟩ := H
      replace H : ((laws_eqIntS.f k t952 t937).bind fun t955 => (if t955 = true then ((laws_toMatrix.f k a0_0 a0_1 l0_2).bind fun bt956 => ((laws_eqMatrix.f k t940 t941 t942 bt956.1 bt956.2.1 bt956.2.2).bind fun t961 => (if t961 = true then ((laws_toPicture.f k a1_0 a1_1 l1_2).bind fun bt962 => ((laws_eqPicture.f k t946 t947 t948 bt962.1 bt962.2.1 bt962.2.2).bind fun t967 => (if t967 = true then ((laws_markMatrix.f k t940 t941 t942 1).bind fun bt968 => ((laws_markPicture.f k t946 t947 t948 bt968.1).bind fun bt970 => (if bt970.1 < 0 then (laws_FnExactLevelsFor.j0 k t937 t952 true a0_0 a0_1 l0_2 a1_0 a1_1 l1_2) else ((laws_eqIntS.f k t952 t937).bind fun t972 => (laws_FnExactLevelsFor.j0 k t937 t952 (!t972) a0_0 a0_1 l0_2 a1_0 a1_1 l1_2))))) else (some false)))) else (some false)))) else (some false))) = some r := H
      have A24 := Aside0.mk A240
      clear A240
      replace H := Option.bind_eq_some_iff.mp H
      obtain ⟨t955, A250, H⟩ := H
      replace H : (if t955 = true then ((laws_toMatrix.f k a0_0 a0_1 l0_2).bind fun bt956 => ((laws_eqMatrix.f k t940 t941 t942 bt956.1 bt956.2.1 bt956.2.2).bind fun t961 => (if t961 = true then ((laws_toPicture.f k a1_0 a1_1 l1_2).bind fun bt962 => ((laws_eqPicture.f k t946 t947 t948 bt962.1 bt962.2.1 bt962.2.2).bind fun t967 => (if t967 = true then ((laws_markMatrix.f k t940 t941 t942 1).bind fun bt968 => ((laws_markPicture.f k t946 t947 t948 bt968.1).bind fun bt970 => (if bt970.1 < 0 then (laws_FnExactLevelsFor.j0 k t937 t952 true a0_0 a0_1 l0_2 a1_0 a1_1 l1_2) else ((laws_eqIntS.f k t952 t937).bind fun t972 => (laws_FnExactLevelsFor.j0 k t937 t952 (!t972) a0_0 a0_1 l0_2 a1_0 a1_1 l1_2))))) else (some false)))) else (some false)))) else (some false)) = some r := H
      have A25 := Aside0.mk A250
      clear A250
      by_cases c26 : t955 = true
      · subst c26
        have H1 : ((laws_toMatrix.f k a0_0 a0_1 l0_2).bind fun bt956 => ((laws_eqMatrix.f k t940 t941 t942 bt956.1 bt956.2.1 bt956.2.2).bind fun t961 => (if t961 = true then ((laws_toPicture.f k a1_0 a1_1 l1_2).bind fun bt962 => ((laws_eqPicture.f k t946 t947 t948 bt962.1 bt962.2.1 bt962.2.2).bind fun t967 => (if t967 = true then ((laws_markMatrix.f k t940 t941 t942 1).bind fun bt968 => ((laws_markPicture.f k t946 t947 t948 bt968.1).bind fun bt970 => (if bt970.1 < 0 then (laws_FnExactLevelsFor.j0 k t937 t952 true a0_0 a0_1 l0_2 a1_0 a1_1 l1_2) else ((laws_eqIntS.f k t952 t937).bind fun t972 => (laws_FnExactLevelsFor.j0 k t937 t952 (!t972) a0_0 a0_1 l0_2 a1_0 a1_1 l1_2))))) else (some false)))) else (some false)))) = some r := by rw [if_pos rfl] at H; exact H
        clear H
        have H := H1
        clear H1
        replace H := Option.bind_eq_some_iff.mp H
        obtain ⟨⟨t956, t957, t958⟩, A270, H⟩ := H
        replace H : ((laws_eqMatrix.f k t940 t941 t942 t956 t957 t958).bind fun t961 => (if t961 = true then ((laws_toPicture.f k a1_0 a1_1 l1_2).bind fun bt962 => ((laws_eqPicture.f k t946 t947 t948 bt962.1 bt962.2.1 bt962.2.2).bind fun t967 => (if t967 = true then ((laws_markMatrix.f k t940 t941 t942 1).bind fun bt968 => ((laws_markPicture.f k t946 t947 t948 bt968.1).bind fun bt970 => (if bt970.1 < 0 then (laws_FnExactLevelsFor.j0 k t937 t952 true a0_0 a0_1 l0_2 a1_0 a1_1 l1_2) else ((laws_eqIntS.f k t952 t937).bind fun t972 => (laws_FnExactLevelsFor.j0 k t937 t952 (!t972) a0_0 a0_1 l0_2 a1_0 a1_1 l1_2))))) else (some false)))) else (some false))) = some r := H
        have A27 := Aside0.mk A270
        clear A270
        replace H := Option.bind_eq_some_iff.mp H
        obtain ⟨t961, A280, H⟩ := H
        replace H : (if t961 = true then ((laws_toPicture.f k a1_0 a1_1 l1_2).bind fun bt962 => ((laws_eqPicture.f k t946 t947 t948 bt962.1 bt962.2.1 bt962.2.2).bind fun t967 => (if t967 = true then ((laws_markMatrix.f k t940 t941 t942 1).bind fun bt968 => ((laws_markPicture.f k t946 t947 t948 bt968.1).bind fun bt970 => (if bt970.1 < 0 then (laws_FnExactLevelsFor.j0 k t937 t952 true a0_0 a0_1 l0_2 a1_0 a1_1 l1_2) else ((laws_eqIntS.f k t952 t937).bind fun t972 => (laws_FnExactLevelsFor.j0 k t937 t952 (!t972) a0_0 a0_1 l0_2 a1_0 a1_1 l1_2))))) else (some false)))) else (some false)) = some r := H
        have A28 := Aside0.mk A280
        clear A280
        by_cases c29 : t961 = true
        · subst c29
          have H1 : ((laws_toPicture.f k a1_0 a1_1 l1_2).bind fun bt962 => ((laws_eqPicture.f k t946 t947 t948 bt962.1 bt962.2.1 bt962.2.2).bind fun t967 => (if t967 = true then ((laws_markMatrix.f k t940 t941 t942 1).bind fun bt968 => ((laws_markPicture.f k t946 t947 t948 bt968.1).bind fun bt970 => (if bt970.1 < 0 then (laws_FnExactLevelsFor.j0 k t937 t952 true a0_0 a0_1 l0_2 a1_0 a1_1 l1_2) else ((laws_eqIntS.f k t952 t937).bind fun t972 => (laws_FnExactLevelsFor.j0 k t937 t952 (!t972) a0_0 a0_1 l0_2 a1_0 a1_1 l1_2))))) else (some false)))) = some r := by rw [if_pos rfl] at H; exact H
          clear H
          have H := H1
          clear H1
          replace H := Option.bind_eq_some_iff.mp H
          obtain ⟨⟨t962, t963, t964⟩, A300, H⟩ := H
          replace H : ((laws_eqPicture.f k t946 t947 t948 t962 t963 t964).bind fun t967 => (if t967 = true then ((laws_markMatrix.f k t940 t941 t942 1).bind fun bt968 => ((laws_markPicture.f k t946 t947 t948 bt968.1).bind fun bt970 => (if bt970.1 < 0 then (laws_FnExactLevelsFor.j0 k t937 t952 true a0_0 a0_1 l0_2 a1_0 a1_1 l1_2) else ((laws_eqIntS.f k t952 t937).bind fun t972 => (laws_FnExactLevelsFor.j0 k t937 t952 (!t972) a0_0 a0_1 l0_2 a1_0 a1_1 l1_2))))) else (some false))) = some r := H
          have A30 := Aside0.mk A300
          clear A300
          replace H := Option.bind_eq_some_iff.mp H
          obtain ⟨t967, A310, H⟩ := H
          replace H : (if t967 = true then ((laws_markMatrix.f k t940 t941 t942 1).bind fun bt968 => ((laws_markPicture.f k t946 t947 t948 bt968.1).bind fun bt970 => (if bt970.1 < 0 then (laws_FnExactLevelsFor.j0 k t937 t952 true a0_0 a0_1 l0_2 a1_0 a1_1 l1_2) else ((laws_eqIntS.f k t952 t937).bind fun t972 => (laws_FnExactLevelsFor.j0 k t937 t952 (!t972) a0_0 a0_1 l0_2 a1_0 a1_1 l1_2))))) else (some false)) = some r := H
          have A31 := Aside0.mk A310
          clear A310
          by_cases c32 : t967 = true
          · subst c32
            have H1 : ((laws_markMatrix.f k t940 t941 t942 1).bind fun bt968 => ((laws_markPicture.f k t946 t947 t948 bt968.1).bind fun bt970 => (if bt970.1 < 0 then (laws_FnExactLevelsFor.j0 k t937 t952 true a0_0 a0_1 l0_2 a1_0 a1_1 l1_2) else ((laws_eqIntS.f k t952 t937).bind fun t972 => (laws_FnExactLevelsFor.j0 k t937 t952 (!t972) a0_0 a0_1 l0_2 a1_0 a1_1 l1_2))))) = some r := by rw [if_pos rfl] at H; exact H
            clear H
            have H := H1
            clear H1
            replace H := Option.bind_eq_some_iff.mp H
            obtain ⟨⟨t968, t969⟩, A330, H⟩ := H
            replace H : ((laws_markPicture.f k t946 t947 t948 t968).bind fun bt970 => (if bt970.1 < 0 then (laws_FnExactLevelsFor.j0 k t937 t952 true a0_0 a0_1 l0_2 a1_0 a1_1 l1_2) else ((laws_eqIntS.f k t952 t937).bind fun t972 => (laws_FnExactLevelsFor.j0 k t937 t952 (!t972) a0_0 a0_1 l0_2 a1_0 a1_1 l1_2)))) = some r := H
            have A33 := Aside0.mk A330
            clear A330
            replace H := Option.bind_eq_some_iff.mp H
            obtain ⟨⟨t970, t971⟩, A340, H⟩ := H
            replace H : (if t970 < 0 then (laws_FnExactLevelsFor.j0 k t937 t952 true a0_0 a0_1 l0_2 a1_0 a1_1 l1_2) else ((laws_eqIntS.f k t952 t937).bind fun t972 => (laws_FnExactLevelsFor.j0 k t937 t952 (!t972) a0_0 a0_1 l0_2 a1_0 a1_1 l1_2))) = some r := H
            have A34 := Aside0.mk A340
            clear A340
            have HC35 := Aside0.mk H
            clear H
            go_enter Try.func16, Try.ntmps16
            try go_wp2_with (first | ((with_reducible refine gate_dst (N := 2) rfl ?_); refine box_event ?hg (N := 2) ?hd (cs := #[.int .i64 a0_0, .int .i64 a0_1, .slice A0_2 l0_2.length c0_2]) (t := 55) ?hr ?_; (case hd => rfl); (case hg => rfl); (case hr => first | (go_simp; done) | (go_simp; rfl)); intro gb923 hg w36 hbox hb; have n0_ := Aside0.mk (below_step (by repeat (first | (with_reducible first | exact HB.out | apply below_alloc | apply pw_below_drewN | apply below_drew1) | exact HB.out)) hb); have n1_ := Aside0.mk (hbox); have n2_ := Aside0.mk ((by rw [hg]; exact (below_size (by repeat (first | (with_reducible first | exact HB.out | apply below_alloc | apply pw_below_drewN | apply below_drew1) | exact HB.out))) : w.heap.size ≤ gb923)); have n3_ := Aside0.mk ((by rw [hg]; exact (below_size (by repeat (first | (with_reducible first | exact HB.out | apply below_alloc | apply pw_below_drewN | apply below_drew1) | exact HB.out))) : w.heap.size ≤ gb923)); clear HB; have HB := n0_; have BK923 := n1_; have GW923 := n2_; have GE923 := n3_; clear n0_ n1_ n2_ n3_; clear hb hbox hg) | ((with_reducible refine gate_dst (N := 3) rfl ?_); refine box_event ?hg (N := 3) ?hd (cs := #[.int .i64 a1_0, .int .i64 a1_1, .slice A1_2 l1_2.length c1_2]) (t := 48) ?hr ?_; (case hd => rfl); (case hg => rfl); (case hr => first | (go_simp; done) | (go_simp; rfl)); intro gb924 hg w37 hbox hb; have n0_ := Aside0.mk (blk_below (g := gb923) (o := .cells #[.int .i64 a0_0, .int .i64 a0_1, .slice A0_2 l0_2.length c0_2] 55 (0, 0)) (by (with_reducible repeat (first | refine blk_drewN ?_ _ | refine blk_drew ?_ | refine blk_alloc ?_ _)); exact BK923.out) hb); have n1_ := Aside0.mk (below_step (by repeat (first | (with_reducible first | exact HB.out | apply below_alloc | apply pw_below_drewN | apply below_drew1 | refine below_set ?_ GE923.out) | exact HB.out)) hb); have n2_ := Aside0.mk (hbox); have n3_ := Aside0.mk ((by rw [hg]; exact (below_size (by repeat (first | (with_reducible first | exact HB.out | apply below_alloc | apply pw_below_drewN | apply below_drew1 | refine below_set ?_ GE923.out) | exact HB.out))) : w.heap.size ≤ gb924)); have n4_ := Aside0.mk ((by rw [hg]; exact (below_size (by repeat (first | (with_reducible first | exact HB.out | apply below_alloc | apply pw_below_drewN | apply below_drew1 | refine below_set ?_ GE923.out) | exact HB.out))) : w.heap.size ≤ gb924)); have n5_ := Aside0.mk ((by rw [hg]; exact Nat.ne_of_lt (blk_lt (g := gb923) (o := .cells #[.int .i64 a0_0, .int .i64 a0_1, .slice A0_2 l0_2.length c0_2] 55 (0, 0)) (by (with_reducible repeat (first | refine blk_drewN ?_ _ | refine blk_drew ?_ | refine blk_alloc ?_ _)); exact BK923.out)) : gb923 ≠ gb924)); have n6_ := Aside0.mk ((by rw [hg]; exact Nat.ne_of_gt (blk_lt (g := gb923) (o := .cells #[.int .i64 a0_0, .int .i64 a0_1, .slice A0_2 l0_2.length c0_2] 55 (0, 0)) (by (with_reducible repeat (first | refine blk_drewN ?_ _ | refine blk_drew ?_ | refine blk_alloc ?_ _)); exact BK923.out)) : gb924 ≠ gb923)); clear BK923; clear HB; have BK923 := n0_; have HB := n1_; have BK924 := n2_; have GW924 := n3_; have GE924 := n4_; have NB923_924 := n5_; have NB924_923 := n6_; clear n0_ n1_ n2_ n3_ n4_ n5_ n6_; clear hb hbox hg; have hnb38 := NB923_924.out; have hnc38 := NB924_923.out; have hcz39_0 : w37.cell? ⟨gb923, 0, none⟩ = some (.int .i64 a0_0) := (blk_cell BK923.out 0).trans rfl; have hcz39_1 : w37.cell? ⟨gb923, 1, none⟩ = some (.int .i64 a0_1) := (blk_cell BK923.out 1).trans rfl; have hcz39_2 : w37.cell? ⟨gb923, 2, none⟩ = some (.slice A0_2 l0_2.length c0_2) := (blk_cell BK923.out 2).trans rfl; have hfz39_0 := blk_frozen BK923.out 0; have hfz39_1 := blk_frozen BK923.out 1; have hfz39_2 := blk_frozen BK923.out 2) | ((with_reducible refine gate_callee (f := 56) rfl ?_); refine goesL_ (some 16) rfl rfl Try.func56 (by kernel_rfl) rfl #[.agg #[.int .i64 a0_0, .int .i64 a0_1, .slice A0_2 l0_2.length c0_2], .int .i64 1048576] rfl (by (try simp only [List.map_toArray, List.map_cons, List.map_nil]); first | done | rfl | (simp only [List.length_drop, List.length_take]; rfl)) ?_; (with_reducible refine (laws_szMatrix.calls a0_0 a0_1 _ _ l0_2 1048576 t925 _ ?side1 ?side2 A3.out).mono ?_); (case side1 => repeat (first | exact (Kd.C_below HR0_2.out HB.out) | (with_reducible refine Kd.C_alloc ?_ _) | (with_reducible refine Kd.C_drewN ?_ _) | (with_reducible refine Kd.C_drew ?_))); (case side2 => exact HC0_2.out); rintro e w40 ⟨rfl, hb⟩; refine ⟨_, rfl, ?_⟩; have n0_ := Aside0.mk (blk_below (g := gb923) (o := .cells #[.int .i64 a0_0, .int .i64 a0_1, .slice A0_2 l0_2.length c0_2] 55 (0, 0)) (by (with_reducible repeat (first | refine blk_drewN ?_ _ | refine blk_drew ?_ | refine blk_alloc ?_ _)); exact BK923.out) hb); have n1_ := Aside0.mk (blk_below (g := gb924) (o := .cells #[.int .i64 a1_0, .int .i64 a1_1, .slice A1_2 l1_2.length c1_2] 48 (0, 0)) (by (with_reducible repeat (first | refine blk_drewN ?_ _ | refine blk_drew ?_ | refine blk_alloc ?_ _)); exact BK924.out) hb); have n2_ := Aside0.mk (below_step (by repeat (first | (with_reducible first | exact HB.out | apply below_alloc | apply pw_below_drewN | apply below_drew1 | refine below_set ?_ GE923.out | refine below_set ?_ GE924.out) | exact HB.out)) hb); clear BK923; clear BK924; clear HB; have BK923 := n0_; have BK924 := n1_; have HB := n2_; clear n0_ n1_ n2_; (try clear hb); (try clear hb2); (try clear hk); (try clear hi); have hcz41_0 : w40.cell? ⟨gb924, 0, none⟩ = some (.int .i64 a1_0) := (blk_cell BK924.out 0).trans rfl; have hcz41_1 : w40.cell? ⟨gb924, 1, none⟩ = some (.int .i64 a1_1) := (blk_cell BK924.out 1).trans rfl; have hcz41_2 : w40.cell? ⟨gb924, 2, none⟩ = some (.slice A1_2 l1_2.length c1_2) := (blk_cell BK924.out 2).trans rfl; have hfz41_0 := blk_frozen BK924.out 0; have hfz41_1 := blk_frozen BK924.out 1; have hfz41_2 := blk_frozen BK924.out 2) | ((with_reducible refine gate_callee (f := 46) rfl ?_); refine goesL_ (some 21) rfl rfl Try.func46 (by kernel_rfl) rfl #[.agg #[.int .i64 a1_0, .int .i64 a1_1, .slice A1_2 l1_2.length c1_2], .int .i64 t925] rfl (by (try simp only [List.map_toArray, List.map_cons, List.map_nil]); first | done | rfl | (simp only [List.length_drop, List.length_take]; rfl)) ?_; (with_reducible refine (laws_szPicture.calls a1_0 a1_1 _ _ l1_2 t925 t926 _ ?side1 ?side2 A10.out).mono ?_); (case side1 => repeat (first | exact (Kd.C_below HR1_2.out HB.out) | (with_reducible refine Kd.C_alloc ?_ _) | (with_reducible refine Kd.C_drewN ?_ _) | (with_reducible refine Kd.C_drew ?_))); (case side2 => exact HC1_2.out); rintro e w42 ⟨rfl, hb⟩; refine ⟨_, rfl, ?_⟩; have n0_ := Aside0.mk (blk_below (g := gb923) (o := .cells #[.int .i64 a0_0, .int .i64 a0_1, .slice A0_2 l0_2.length c0_2] 55 (0, 0)) (by (with_reducible repeat (first | refine blk_drewN ?_ _ | refine blk_drew ?_ | refine blk_alloc ?_ _)); exact BK923.out) hb); have n1_ := Aside0.mk (blk_below (g := gb924) (o := .cells #[.int .i64 a1_0, .int .i64 a1_1, .slice A1_2 l1_2.length c1_2] 48 (0, 0)) (by (with_reducible repeat (first | refine blk_drewN ?_ _ | refine blk_drew ?_ | refine blk_alloc ?_ _)); exact BK924.out) hb); have n2_ := Aside0.mk (below_step (by repeat (first | (with_reducible first | exact HB.out | apply below_alloc | apply pw_below_drewN | apply below_drew1 | refine below_set ?_ GE923.out | refine below_set ?_ GE924.out) | exact HB.out)) hb); clear BK923; clear BK924; clear HB; have BK923 := n0_; have BK924 := n1_; have HB := n2_; clear n0_ n1_ n2_; (try clear hb); (try clear hb2); (try clear hk); (try clear hi)))
            have n0_ := Aside0.mk (blk_drew BK923.out)
            have n1_ := Aside0.mk (blk_drew BK924.out)
            have n2_ := Aside0.mk (below_drew1 HB.out)
            clear BK923
            clear BK924
            clear HB
            have BK923 := n0_
            have BK924 := n1_
            have HB := n2_
            clear n0_ n1_ n2_
            refine start_ (n := 6) (S := fun w' => w'.cell? ⟨gb923, 0, none⟩ = some (.int .i64 a0_0) ∧ w'.cell? ⟨gb923, 1, none⟩ = some (.int .i64 a0_1) ∧ w'.cell? ⟨gb923, 2, none⟩ = some (.slice A0_2 l0_2.length c0_2) ∧ w'.cell? ⟨gb924, 0, none⟩ = some (.int .i64 a1_0) ∧ w'.cell? ⟨gb924, 1, none⟩ = some (.int .i64 a1_1) ∧ w'.cell? ⟨gb924, 2, none⟩ = some (.slice A1_2 l1_2.length c1_2)) (ds := []) #[false, false, false, false, false, false] (by kernel_rfl) rfl rfl ⟨(blk_cell BK923.out 0).trans rfl, (blk_cell BK923.out 1).trans rfl, (blk_cell BK923.out 2).trans rfl, (blk_cell BK924.out 0).trans rfl, (blk_cell BK924.out 1).trans rfl, (blk_cell BK924.out 2).trans rfl⟩ (fun hHeld => ?_)
            generalize w42.drew = w43 at BK923 BK924 HB hHeld ⊢
            refine take_ (i := 0) (N := some 24) (v := ?_) (a' := ?_) #[true, false, false, false, false, false] rfl rfl (by kernel_rfl) (fun _ _ _ h => h) (Or.inl ⟨by rfl, ?_⟩) hHeld ?_ ?_
            rotate_left
            · rintro w' ⟨s0, s1, s2, s3, s4, s5⟩
              go_simp
              with_reducible rfl
            rotate_left
            · simp only [Act.put, List.setIfInBounds_toArray, List.set_cons_zero, List.set_cons_succ, i64_w, i32_w]
              rfl
            refine take_ (i := 2) (N := some 26) (v := ?_) (a' := ?_) #[true, false, true, false, false, false] rfl rfl (by kernel_rfl) (fun _ _ _ h => h) (Or.inl ⟨by rfl, ?_⟩) hHeld ?_ ?_
            rotate_left
            · rintro w' ⟨s0, s1, s2, s3, s4, s5⟩
              go_simp
              with_reducible rfl
            rotate_left
            · simp only [Act.put, List.setIfInBounds_toArray, List.set_cons_zero, List.set_cons_succ, i64_w, i32_w]
              rfl
            refine one_ (i := 1) (N := some 25) #[true, true, true, false, false, false] rfl rfl (by kernel_rfl) (by decide) (fun K hK => ?_)
            refine goes_ Try.func58 (by kernel_rfl) rfl #[.agg #[.int .i64 a0_0, .int .i64 a0_1, .slice A0_2 l0_2.length c0_2]] (by rfl) rfl rfl (by (try simp only [List.map_toArray, List.map_cons, List.map_nil]); first | done | rfl | (simp only [List.length_drop, List.length_take]; rfl)) ?_
            with_reducible refine (laws_toMatrix.calls k a0_0 a0_1 _ _ l0_2 t927 t928 t929 _ ?side1 ?side2 A19.out).mono ?_
            (case side1 => repeat (first | exact (Kd.C_below HR0_2.out HB.out) | (with_reducible refine Kd.C_alloc ?_ _) | (with_reducible refine Kd.C_drewN ?_ _) | (with_reducible refine Kd.C_drew ?_)))
            (case side2 => exact HC0_2.out)
            rintro e w44 ⟨v930, rfl, ho0, hb⟩
            refine ⟨_, rfl, ?_⟩
            have n0_ := Aside0.mk (Kd.R_lower ho0 (below_size (by repeat (first | (with_reducible first | exact HB.out | apply below_alloc | apply pw_below_drewN | apply below_drew1 | refine below_set ?_ GE923.out | refine below_set ?_ GE924.out) | exact HB.out))))
            have n1_ := Aside0.mk (blk_below (g := gb923) (o := .cells #[.int .i64 a0_0, .int .i64 a0_1, .slice A0_2 l0_2.length c0_2] 55 (0, 0)) (by (with_reducible repeat (first | refine blk_drewN ?_ _ | refine blk_drew ?_ | refine blk_alloc ?_ _)); exact BK923.out) hb)
            have n2_ := Aside0.mk (blk_below (g := gb924) (o := .cells #[.int .i64 a1_0, .int .i64 a1_1, .slice A1_2 l1_2.length c1_2] 48 (0, 0)) (by (with_reducible repeat (first | refine blk_drewN ?_ _ | refine blk_drew ?_ | refine blk_alloc ?_ _)); exact BK924.out) hb)
            have n3_ := Aside0.mk (below_step (by repeat (first | (with_reducible first | exact HB.out | apply below_alloc | apply pw_below_drewN | apply below_drew1 | refine below_set ?_ GE923.out | refine below_set ?_ GE924.out) | exact HB.out)) hb)
            clear BK923
            clear BK924
            clear HB
            have HO931 := n0_
            have BK923 := n1_
            have BK924 := n2_
            have HB := n3_
            clear n0_ n1_ n2_ n3_
            (try clear hb)
            (try clear hb2)
            (try clear hk)
            (try clear hi)
            (try clear ho0)
            refine hK.out _ _ ⟨(blk_cell BK923.out 0).trans rfl, (blk_cell BK923.out 1).trans rfl, (blk_cell BK923.out 2).trans rfl, (blk_cell BK924.out 0).trans rfl, (blk_cell BK924.out 1).trans rfl, (blk_cell BK924.out 2).trans rfl⟩ (fun hHeld => ?_)
            clear hK K
            refine norm_ (a' := ?_) ?_ ?_
            rotate_left
            · show Act.put _ (some 25) _ = _
              simp only [Act.put, List.setIfInBounds_toArray, List.set_cons_zero, List.set_cons_succ, i64_w, i32_w]
              rfl
            refine one_ (i := 3) (N := some 27) #[true, true, true, true, false, false] rfl rfl (by kernel_rfl) (by decide) (fun K hK => ?_)
            refine goes_ Try.func48 (by kernel_rfl) rfl #[.agg #[.int .i64 a1_0, .int .i64 a1_1, .slice A1_2 l1_2.length c1_2]] (by rfl) rfl rfl (by (try simp only [List.map_toArray, List.map_cons, List.map_nil]); first | done | rfl | (simp only [List.length_drop, List.length_take]; rfl)) ?_
            with_reducible refine (laws_toPicture.calls k a1_0 a1_1 _ _ l1_2 t932 t933 t934 _ ?side1 ?side2 A20.out).mono ?_
            (case side1 => repeat (first | exact (Kd.C_below HR1_2.out HB.out) | (with_reducible refine Kd.C_alloc ?_ _) | (with_reducible refine Kd.C_drewN ?_ _) | (with_reducible refine Kd.C_drew ?_)))
            (case side2 => exact HC1_2.out)
            rintro e w45 ⟨v935, rfl, ho0, hb⟩
            refine ⟨_, rfl, ?_⟩
            have n0_ := Aside0.mk (Kd.R_elder' (by (with_reducible repeat (first | apply Kd.R_alloc | apply Kd.R_drewN | apply Kd.R_drew)); exact HO931.out) (Kd.R_base ho0) hb)
            have n1_ := Aside0.mk (Kd.R_lower (Kd.R_new' ho0 (Kd.R_lt (by (with_reducible repeat (first | apply Kd.R_alloc | apply Kd.R_drewN | apply Kd.R_drew)); exact HO931.out))) (below_size (by repeat (first | (with_reducible first | exact HB.out | apply below_alloc | apply pw_below_drewN | apply below_drew1 | refine below_set ?_ GE923.out | refine below_set ?_ GE924.out) | exact HB.out))))
            have n2_ := Aside0.mk (blk_below (g := gb923) (o := .cells #[.int .i64 a0_0, .int .i64 a0_1, .slice A0_2 l0_2.length c0_2] 55 (0, 0)) (by (with_reducible repeat (first | refine blk_drewN ?_ _ | refine blk_drew ?_ | refine blk_alloc ?_ _)); exact BK923.out) hb)
            have n3_ := Aside0.mk (blk_below (g := gb924) (o := .cells #[.int .i64 a1_0, .int .i64 a1_1, .slice A1_2 l1_2.length c1_2] 48 (0, 0)) (by (with_reducible repeat (first | refine blk_drewN ?_ _ | refine blk_drew ?_ | refine blk_alloc ?_ _)); exact BK924.out) hb)
            have n4_ := Aside0.mk (below_step (by repeat (first | (with_reducible first | exact HB.out | apply below_alloc | apply pw_below_drewN | apply below_drew1 | refine below_set ?_ GE923.out | refine below_set ?_ GE924.out) | exact HB.out)) hb)
            clear HO931
            clear BK923
            clear BK924
            clear HB
            have HO931 := n0_
            have HO936 := n1_
            have BK923 := n2_
            have BK924 := n3_
            have HB := n4_
            clear n0_ n1_ n2_ n3_ n4_
            (try clear hb)
            (try clear hb2)
            (try clear hk)
            (try clear hi)
            (try clear ho0)
            obtain ⟨Ao46, co46, eo46⟩ := Kd.R_slice HO931.out
            (first | subst eo46 | (injection eo46 with f1_ f2_ f3_; have f4_ := f1_.symm; have f5_ := f3_.symm; clear f1_ f2_ f3_; subst f4_; subst f5_))
            obtain ⟨Ao47, co47, eo47⟩ := Kd.R_slice HO936.out
            (first | subst eo47 | (injection eo47 with f1_ f2_ f3_; have f4_ := f1_.symm; have f5_ := f3_.symm; clear f1_ f2_ f3_; subst f4_; subst f5_))
            refine hK.out _ _ ⟨(blk_cell BK923.out 0).trans rfl, (blk_cell BK923.out 1).trans rfl, (blk_cell BK923.out 2).trans rfl, (blk_cell BK924.out 0).trans rfl, (blk_cell BK924.out 1).trans rfl, (blk_cell BK924.out 2).trans rfl⟩ (fun hHeld => ?_)
            clear hK K
            refine norm_ (a' := ?_) ?_ ?_
            rotate_left
            · show Act.put _ (some 27) _ = _
              simp only [Act.put, List.setIfInBounds_toArray, List.set_cons_zero, List.set_cons_succ, i64_w, i32_w]
              rfl
            refine one_ (i := 4) (N := some 28) #[true, true, true, true, true, false] rfl rfl (by kernel_rfl) (by decide) (fun K hK => ?_)
            refine goes_ Try.func62 (by kernel_rfl) rfl #[.agg #[.int .i64 t927, .int .i64 t928, .slice Ao46 t929.length co46], .agg #[.int .i64 t932, .int .i64 t933, .slice Ao47 t934.length co47]] (by rfl) rfl rfl (by (try simp only [List.map_toArray, List.map_cons, List.map_nil]); first | done | rfl | (simp only [List.length_drop, List.length_take]; rfl)) ?_
            with_reducible refine (spec_LevelsFor.calls k t927 t928 _ _ t929 t932 t933 _ _ t934 t937 _ ?side1 ?side2 ?side3 ?side4 A21.out).mono ?_
            (case side1 => repeat (first | exact (Kd.R_reads' HO931.out).2.2 | (with_reducible refine Kd.C_alloc ?_ _) | (with_reducible refine Kd.C_drewN ?_ _) | (with_reducible refine Kd.C_drew ?_)))
            (case side2 => exact (Kd.R_reads' HO931.out).2.1)
            (case side3 => repeat (first | exact (Kd.R_reads' HO936.out).2.2 | (with_reducible refine Kd.C_alloc ?_ _) | (with_reducible refine Kd.C_drewN ?_ _) | (with_reducible refine Kd.C_drew ?_)))
            (case side4 => exact (Kd.R_reads' HO936.out).2.1)
            rintro e w48 ⟨v938, rfl, ho0, hb⟩
            refine ⟨_, rfl, ?_⟩
            have n0_ := Aside0.mk (Kd.R_elder' (by (with_reducible repeat (first | apply Kd.R_alloc | apply Kd.R_drewN | apply Kd.R_drew)); exact HO931.out) (Kd.R_base ho0) hb)
            have n1_ := Aside0.mk (Kd.R_elder' (by (with_reducible repeat (first | apply Kd.R_alloc | apply Kd.R_drewN | apply Kd.R_drew)); exact HO936.out) (Kd.R_base ho0) hb)
            have n2_ := Aside0.mk (Kd.R_lower (Kd.R_new' (Kd.R_new' ho0 (Kd.R_lt (by (with_reducible repeat (first | apply Kd.R_alloc | apply Kd.R_drewN | apply Kd.R_drew)); exact HO931.out))) (Kd.R_lt (by (with_reducible repeat (first | apply Kd.R_alloc | apply Kd.R_drewN | apply Kd.R_drew)); exact HO936.out))) (below_size (by repeat (first | (with_reducible first | exact HB.out | apply below_alloc | apply pw_below_drewN | apply below_drew1 | refine below_set ?_ GE923.out | refine below_set ?_ GE924.out) | exact HB.out))))
            have n3_ := Aside0.mk (blk_below (g := gb923) (o := .cells #[.int .i64 a0_0, .int .i64 a0_1, .slice A0_2 l0_2.length c0_2] 55 (0, 0)) (by (with_reducible repeat (first | refine blk_drewN ?_ _ | refine blk_drew ?_ | refine blk_alloc ?_ _)); exact BK923.out) hb)
            have n4_ := Aside0.mk (blk_below (g := gb924) (o := .cells #[.int .i64 a1_0, .int .i64 a1_1, .slice A1_2 l1_2.length c1_2] 48 (0, 0)) (by (with_reducible repeat (first | refine blk_drewN ?_ _ | refine blk_drew ?_ | refine blk_alloc ?_ _)); exact BK924.out) hb)
            have n5_ := Aside0.mk (below_step (by repeat (first | (with_reducible first | exact HB.out | apply below_alloc | apply pw_below_drewN | apply below_drew1 | refine below_set ?_ GE923.out | refine below_set ?_ GE924.out) | exact HB.out)) hb)
            clear HO931
            clear HO936
            clear BK923
            clear BK924
            clear HB
            have HO931 := n0_
            have HO936 := n1_
            have HO939 := n2_
            have BK923 := n3_
            have BK924 := n4_
            have HB := n5_
            clear n0_ n1_ n2_ n3_ n4_ n5_
            (try clear hb)
            (try clear hb2)
            (try clear hk)
            (try clear hi)
            (try clear ho0)
            refine hK.out _ _ ⟨(blk_cell BK923.out 0).trans rfl, (blk_cell BK923.out 1).trans rfl, (blk_cell BK923.out 2).trans rfl, (blk_cell BK924.out 0).trans rfl, (blk_cell BK924.out 1).trans rfl, (blk_cell BK924.out 2).trans rfl⟩ (fun hHeld => ?_)
            clear hK K
            refine norm_ (a' := ?_) ?_ ?_
            rotate_left
            · show Act.put _ (some 28) _ = _
              simp only [Act.put, List.setIfInBounds_toArray, List.set_cons_zero, List.set_cons_succ, i64_w, i32_w]
              rfl
            refine pure_ (i := 5) (N := some 6) (v := ?_) (a' := ?_) #[true, true, true, true, true, true] rfl rfl (by kernel_rfl) (fun _ _ _ h => h) (Or.inl ⟨by rfl, ?_⟩) ?_ ?_
            rotate_left
            · intro w'
              go_simp
              with_reducible rfl
            rotate_left
            · simp only [Act.put, List.setIfInBounds_toArray, List.set_cons_zero, List.set_cons_succ, i64_w, i32_w]
              rfl
            refine done_ (by kernel_rfl) ?_
            have hcz49_0 : w48.cell? ⟨gb923, 0, none⟩ = some (.int .i64 a0_0) := (blk_cell BK923.out 0).trans rfl
            have hcz49_1 : w48.cell? ⟨gb923, 1, none⟩ = some (.int .i64 a0_1) := (blk_cell BK923.out 1).trans rfl
            have hcz49_2 : w48.cell? ⟨gb923, 2, none⟩ = some (.slice A0_2 l0_2.length c0_2) := (blk_cell BK923.out 2).trans rfl
            have hfz49_0 := blk_frozen BK923.out 0
            have hfz49_1 := blk_frozen BK923.out 1
            have hfz49_2 := blk_frozen BK923.out 2
            try go_wp2_with (first | ((with_reducible refine gate_callee (f := 58) rfl ?_); refine goesL_ (some 30) rfl rfl Try.func58 (by kernel_rfl) rfl #[.agg #[.int .i64 a0_0, .int .i64 a0_1, .slice A0_2 l0_2.length c0_2]] rfl (by (try simp only [List.map_toArray, List.map_cons, List.map_nil]); first | done | rfl | (simp only [List.length_drop, List.length_take]; rfl)) ?_; (with_reducible refine (laws_toMatrix.calls k a0_0 a0_1 _ _ l0_2 t940 t941 t942 _ ?side1 ?side2 A22.out).mono ?_); (case side1 => repeat (first | exact (Kd.C_below HR0_2.out HB.out) | (with_reducible refine Kd.C_alloc ?_ _) | (with_reducible refine Kd.C_drewN ?_ _) | (with_reducible refine Kd.C_drew ?_))); (case side2 => exact HC0_2.out); rintro e w50 ⟨v943, rfl, ho0, hb⟩; refine ⟨_, rfl, ?_⟩; have n0_ := Aside0.mk (Kd.R_elder' (by (with_reducible repeat (first | apply Kd.R_alloc | apply Kd.R_drewN | apply Kd.R_drew)); exact HO931.out) (Kd.R_base ho0) hb); have n1_ := Aside0.mk (Kd.R_elder' (by (with_reducible repeat (first | apply Kd.R_alloc | apply Kd.R_drewN | apply Kd.R_drew)); exact HO936.out) (Kd.R_base ho0) hb); have n2_ := Aside0.mk (Kd.R_elder' (by (with_reducible repeat (first | apply Kd.R_alloc | apply Kd.R_drewN | apply Kd.R_drew)); exact HO939.out) (Kd.R_base ho0) hb); have n3_ := Aside0.mk (Kd.R_lower (Kd.R_new' (Kd.R_new' (Kd.R_new' ho0 (Kd.R_lt (by (with_reducible repeat (first | apply Kd.R_alloc | apply Kd.R_drewN | apply Kd.R_drew)); exact HO931.out))) (Kd.R_lt (by (with_reducible repeat (first | apply Kd.R_alloc | apply Kd.R_drewN | apply Kd.R_drew)); exact HO936.out))) (Kd.R_lt (by (with_reducible repeat (first | apply Kd.R_alloc | apply Kd.R_drewN | apply Kd.R_drew)); exact HO939.out))) (below_size (by repeat (first | (with_reducible first | exact HB.out | apply below_alloc | apply pw_below_drewN | apply below_drew1 | refine below_set ?_ GE923.out | refine below_set ?_ GE924.out) | exact HB.out)))); have n4_ := Aside0.mk (blk_below (g := gb923) (o := .cells #[.int .i64 a0_0, .int .i64 a0_1, .slice A0_2 l0_2.length c0_2] 55 (0, 0)) (by (with_reducible repeat (first | refine blk_drewN ?_ _ | refine blk_drew ?_ | refine blk_alloc ?_ _)); exact BK923.out) hb); have n5_ := Aside0.mk (blk_below (g := gb924) (o := .cells #[.int .i64 a1_0, .int .i64 a1_1, .slice A1_2 l1_2.length c1_2] 48 (0, 0)) (by (with_reducible repeat (first | refine blk_drewN ?_ _ | refine blk_drew ?_ | refine blk_alloc ?_ _)); exact BK924.out) hb); have n6_ := Aside0.mk (below_step (by repeat (first | (with_reducible first | exact HB.out | apply below_alloc | apply pw_below_drewN | apply below_drew1 | refine below_set ?_ GE923.out | refine below_set ?_ GE924.out) | exact HB.out)) hb); clear HO931; clear HO936; clear HO939; clear BK923; clear BK924; clear HB; have HO931 := n0_; have HO936 := n1_; have HO939 := n2_; have HO944 := n3_; have BK923 := n4_; have BK924 := n5_; have HB := n6_; clear n0_ n1_ n2_ n3_ n4_ n5_ n6_; (try clear hb); (try clear hb2); (try clear hk); (try clear hi); (try clear ho0)) | ((with_reducible refine gate_dst (N := 7) rfl ?_); refine box_event ?hg (N := 7) ?hd (cs := #[.int .i64 0, .int .i64 0, .slice none 0 0]) (t := 26) ?hr ?_; (case hd => rfl); (case hg => rfl); (case hr => first | (go_simp; done) | (go_simp; rfl)); intro gb945 hg w51 hbox hb; have n0_ := Aside0.mk (Kd.R_below (by (with_reducible repeat (first | apply Kd.R_alloc | apply Kd.R_drewN | apply Kd.R_drew)); exact HO931.out) hb); have n1_ := Aside0.mk (Kd.R_below (by (with_reducible repeat (first | apply Kd.R_alloc | apply Kd.R_drewN | apply Kd.R_drew)); exact HO936.out) hb); have n2_ := Aside0.mk (Kd.R_below (by (with_reducible repeat (first | apply Kd.R_alloc | apply Kd.R_drewN | apply Kd.R_drew)); exact HO939.out) hb); have n3_ := Aside0.mk (Kd.R_below (by (with_reducible repeat (first | apply Kd.R_alloc | apply Kd.R_drewN | apply Kd.R_drew)); exact HO944.out) hb); have n4_ := Aside0.mk (blk_below (g := gb923) (o := .cells #[.int .i64 a0_0, .int .i64 a0_1, .slice A0_2 l0_2.length c0_2] 55 (0, 0)) (by (with_reducible repeat (first | refine blk_drewN ?_ _ | refine blk_drew ?_ | refine blk_alloc ?_ _)); exact BK923.out) hb); have n5_ := Aside0.mk (blk_below (g := gb924) (o := .cells #[.int .i64 a1_0, .int .i64 a1_1, .slice A1_2 l1_2.length c1_2] 48 (0, 0)) (by (with_reducible repeat (first | refine blk_drewN ?_ _ | refine blk_drew ?_ | refine blk_alloc ?_ _)); exact BK924.out) hb); have n6_ := Aside0.mk (below_step (by repeat (first | (with_reducible first | exact HB.out | apply below_alloc | apply pw_below_drewN | apply below_drew1 | refine below_set ?_ GE923.out | refine below_set ?_ GE924.out) | exact HB.out)) hb); have n7_ := Aside0.mk (hbox); have n8_ := Aside0.mk ((by rw [hg]; exact (below_size (by repeat (first | (with_reducible first | exact HB.out | apply below_alloc | apply pw_below_drewN | apply below_drew1 | refine below_set ?_ GE923.out | refine below_set ?_ GE924.out) | exact HB.out))) : w.heap.size ≤ gb945)); have n9_ := Aside0.mk ((by rw [hg]; exact (below_size (by repeat (first | (with_reducible first | exact HB.out | apply below_alloc | apply pw_below_drewN | apply below_drew1 | refine below_set ?_ GE923.out | refine below_set ?_ GE924.out) | exact HB.out))) : w.heap.size ≤ gb945)); have n10_ := Aside0.mk ((by rw [hg]; exact Nat.ne_of_lt (blk_lt (g := gb923) (o := .cells #[.int .i64 a0_0, .int .i64 a0_1, .slice A0_2 l0_2.length c0_2] 55 (0, 0)) (by (with_reducible repeat (first | refine blk_drewN ?_ _ | refine blk_drew ?_ | refine blk_alloc ?_ _)); exact BK923.out)) : gb923 ≠ gb945)); have n11_ := Aside0.mk ((by rw [hg]; exact Nat.ne_of_gt (blk_lt (g := gb923) (o := .cells #[.int .i64 a0_0, .int .i64 a0_1, .slice A0_2 l0_2.length c0_2] 55 (0, 0)) (by (with_reducible repeat (first | refine blk_drewN ?_ _ | refine blk_drew ?_ | refine blk_alloc ?_ _)); exact BK923.out)) : gb945 ≠ gb923)); have n12_ := Aside0.mk ((by rw [hg]; exact Nat.ne_of_lt (blk_lt (g := gb924) (o := .cells #[.int .i64 a1_0, .int .i64 a1_1, .slice A1_2 l1_2.length c1_2] 48 (0, 0)) (by (with_reducible repeat (first | refine blk_drewN ?_ _ | refine blk_drew ?_ | refine blk_alloc ?_ _)); exact BK924.out)) : gb924 ≠ gb945)); have n13_ := Aside0.mk ((by rw [hg]; exact Nat.ne_of_gt (blk_lt (g := gb924) (o := .cells #[.int .i64 a1_0, .int .i64 a1_1, .slice A1_2 l1_2.length c1_2] 48 (0, 0)) (by (with_reducible repeat (first | refine blk_drewN ?_ _ | refine blk_drew ?_ | refine blk_alloc ?_ _)); exact BK924.out)) : gb945 ≠ gb924)); clear HO931; clear HO936; clear HO939; clear HO944; clear BK923; clear BK924; clear HB; have HO931 := n0_; have HO936 := n1_; have HO939 := n2_; have HO944 := n3_; have BK923 := n4_; have BK924 := n5_; have HB := n6_; have BK945 := n7_; have GW945 := n8_; have GE945 := n9_; have NB923_945 := n10_; have NB945_923 := n11_; have NB924_945 := n12_; have NB945_924 := n13_; clear n0_ n1_ n2_ n3_ n4_ n5_ n6_ n7_ n8_ n9_ n10_ n11_ n12_ n13_; clear hb hbox hg; have hnb52 := NB945_923.out; have hnc52 := NB923_945.out; have hnb53 := NB945_924.out; have hnc53 := NB924_945.out; have hcz54_0 : w51.cell? ⟨gb945, 0, none⟩ = some (.int .i64 0) := (blk_cell BK945.out 0).trans rfl; have hcz54_1 : w51.cell? ⟨gb945, 1, none⟩ = some (.int .i64 0) := (blk_cell BK945.out 1).trans rfl; have hcz54_2 : w51.cell? ⟨gb945, 2, none⟩ = some (.slice none 0 0) := (blk_cell BK945.out 2).trans rfl; have hfz54_0 := blk_frozen BK945.out 0; have hfz54_1 := blk_frozen BK945.out 1; have hfz54_2 := blk_frozen BK945.out 2; obtain ⟨Ao55, co55, eo55⟩ := Kd.R_slice HO944.out; subst eo55; have hcz56_0 : w51.cell? ⟨gb924, 0, none⟩ = some (.int .i64 a1_0) := (blk_cell BK924.out 0).trans rfl; have hcz56_1 : w51.cell? ⟨gb924, 1, none⟩ = some (.int .i64 a1_1) := (blk_cell BK924.out 1).trans rfl; have hcz56_2 : w51.cell? ⟨gb924, 2, none⟩ = some (.slice A1_2 l1_2.length c1_2) := (blk_cell BK924.out 2).trans rfl; have hfz56_0 := blk_frozen BK924.out 0; have hfz56_1 := blk_frozen BK924.out 1; have hfz56_2 := blk_frozen BK924.out 2) | ((with_reducible refine gate_callee (f := 48) rfl ?_); refine goesL_ (some 32) rfl rfl Try.func48 (by kernel_rfl) rfl #[.agg #[.int .i64 a1_0, .int .i64 a1_1, .slice A1_2 l1_2.length c1_2]] rfl (by (try simp only [List.map_toArray, List.map_cons, List.map_nil]); first | done | rfl | (simp only [List.length_drop, List.length_take]; rfl)) ?_; (with_reducible refine (laws_toPicture.calls k a1_0 a1_1 _ _ l1_2 t946 t947 t948 _ ?side1 ?side2 A23.out).mono ?_); (case side1 => exact Kd.C_below HR1_2.out (by repeat (first | (with_reducible first | exact HB.out | apply below_alloc | apply pw_below_drewN | apply below_drew1 | refine below_set ?_ GE923.out | refine below_set ?_ GE924.out | refine below_set ?_ GE945.out) | exact HB.out))); (case side2 => exact HC1_2.out); rintro e w57 ⟨v949, rfl, ho0, hb⟩; refine ⟨_, rfl, ?_⟩; have n0_ := Aside0.mk (Kd.R_elder' (by (with_reducible repeat (first | apply Kd.R_alloc | apply Kd.R_drewN | apply Kd.R_drew)); exact (Kd.R_mono (Kd.R_far (p := ⟨gb945, 2, none⟩) (Kd.R_far (p := ⟨gb945, 1, none⟩) (Kd.R_far (p := ⟨gb945, 0, none⟩) (Kd.R_types HO931.out BK945.out (by decide)) (fun _ hk => hk.2) (.int .i64 t940)) (fun _ hk => hk.2) (.int .i64 t941)) (fun _ hk => hk.2) (.slice Ao55 t942.length co55)) (fun _ h_ => h_.1))) (Kd.R_base ho0) hb); have n1_ := Aside0.mk (Kd.R_elder' (by (with_reducible repeat (first | apply Kd.R_alloc | apply Kd.R_drewN | apply Kd.R_drew)); exact (Kd.R_mono (Kd.R_far (p := ⟨gb945, 2, none⟩) (Kd.R_far (p := ⟨gb945, 1, none⟩) (Kd.R_far (p := ⟨gb945, 0, none⟩) (Kd.R_types HO936.out BK945.out (by decide)) (fun _ hk => hk.2) (.int .i64 t940)) (fun _ hk => hk.2) (.int .i64 t941)) (fun _ hk => hk.2) (.slice Ao55 t942.length co55)) (fun _ h_ => h_.1))) (Kd.R_base ho0) hb); have n2_ := Aside0.mk (Kd.R_elder' (by (with_reducible repeat (first | apply Kd.R_alloc | apply Kd.R_drewN | apply Kd.R_drew)); exact (Kd.R_mono (Kd.R_far (p := ⟨gb945, 2, none⟩) (Kd.R_far (p := ⟨gb945, 1, none⟩) (Kd.R_far (p := ⟨gb945, 0, none⟩) (Kd.R_types HO939.out BK945.out (by decide)) (fun _ hk => hk.2) (.int .i64 t940)) (fun _ hk => hk.2) (.int .i64 t941)) (fun _ hk => hk.2) (.slice Ao55 t942.length co55)) (fun _ h_ => h_.1))) (Kd.R_base ho0) hb); have n3_ := Aside0.mk (Kd.R_elder' (by (with_reducible repeat (first | apply Kd.R_alloc | apply Kd.R_drewN | apply Kd.R_drew)); exact (Kd.R_mono (Kd.R_far (p := ⟨gb945, 2, none⟩) (Kd.R_far (p := ⟨gb945, 1, none⟩) (Kd.R_far (p := ⟨gb945, 0, none⟩) (Kd.R_types HO944.out BK945.out (by decide)) (fun _ hk => hk.2) (.int .i64 t940)) (fun _ hk => hk.2) (.int .i64 t941)) (fun _ hk => hk.2) (.slice Ao55 t942.length co55)) (fun _ h_ => h_.1))) (Kd.R_base ho0) hb); have n4_ := Aside0.mk (Kd.R_lower (Kd.R_new' (Kd.R_new' (Kd.R_new' (Kd.R_new' ho0 (Kd.R_lt (by (with_reducible repeat (first | apply Kd.R_alloc | apply Kd.R_drewN | apply Kd.R_drew)); exact (Kd.R_mono (Kd.R_far (p := ⟨gb945, 2, none⟩) (Kd.R_far (p := ⟨gb945, 1, none⟩) (Kd.R_far (p := ⟨gb945, 0, none⟩) (Kd.R_types HO931.out BK945.out (by decide)) (fun _ hk => hk.2) (.int .i64 t940)) (fun _ hk => hk.2) (.int .i64 t941)) (fun _ hk => hk.2) (.slice Ao55 t942.length co55)) (fun _ h_ => h_.1))))) (Kd.R_lt (by (with_reducible repeat (first | apply Kd.R_alloc | apply Kd.R_drewN | apply Kd.R_drew)); exact (Kd.R_mono (Kd.R_far (p := ⟨gb945, 2, none⟩) (Kd.R_far (p := ⟨gb945, 1, none⟩) (Kd.R_far (p := ⟨gb945, 0, none⟩) (Kd.R_types HO936.out BK945.out (by decide)) (fun _ hk => hk.2) (.int .i64 t940)) (fun _ hk => hk.2) (.int .i64 t941)) (fun _ hk => hk.2) (.slice Ao55 t942.length co55)) (fun _ h_ => h_.1))))) (Kd.R_lt (by (with_reducible repeat (first | apply Kd.R_alloc | apply Kd.R_drewN | apply Kd.R_drew)); exact (Kd.R_mono (Kd.R_far (p := ⟨gb945, 2, none⟩) (Kd.R_far (p := ⟨gb945, 1, none⟩) (Kd.R_far (p := ⟨gb945, 0, none⟩) (Kd.R_types HO939.out BK945.out (by decide)) (fun _ hk => hk.2) (.int .i64 t940)) (fun _ hk => hk.2) (.int .i64 t941)) (fun _ hk => hk.2) (.slice Ao55 t942.length co55)) (fun _ h_ => h_.1))))) (Kd.R_lt (by (with_reducible repeat (first | apply Kd.R_alloc | apply Kd.R_drewN | apply Kd.R_drew)); exact (Kd.R_mono (Kd.R_far (p := ⟨gb945, 2, none⟩) (Kd.R_far (p := ⟨gb945, 1, none⟩) (Kd.R_far (p := ⟨gb945, 0, none⟩) (Kd.R_types HO944.out BK945.out (by decide)) (fun _ hk => hk.2) (.int .i64 t940)) (fun _ hk => hk.2) (.int .i64 t941)) (fun _ hk => hk.2) (.slice Ao55 t942.length co55)) (fun _ h_ => h_.1))))) (below_size (by repeat (first | (with_reducible first | exact HB.out | apply below_alloc | apply pw_below_drewN | apply below_drew1 | refine below_set ?_ GE923.out | refine below_set ?_ GE924.out | refine below_set ?_ GE945.out) | exact HB.out)))); have n5_ := Aside0.mk (blk_below (g := gb923) (o := .cells #[.int .i64 a0_0, .int .i64 a0_1, .slice A0_2 l0_2.length c0_2] 55 (0, 0)) (by (with_reducible repeat (first | refine blk_drewN ?_ _ | refine blk_drew ?_ | refine blk_alloc ?_ _)); refine blk_far ?_ NB923_945.out _; (with_reducible repeat (first | refine blk_drewN ?_ _ | refine blk_drew ?_ | refine blk_alloc ?_ _)); refine blk_far ?_ NB923_945.out _; (with_reducible repeat (first | refine blk_drewN ?_ _ | refine blk_drew ?_ | refine blk_alloc ?_ _)); refine blk_far ?_ NB923_945.out _; (with_reducible repeat (first | refine blk_drewN ?_ _ | refine blk_drew ?_ | refine blk_alloc ?_ _)); exact BK923.out) hb); have n6_ := Aside0.mk (blk_below (g := gb924) (o := .cells #[.int .i64 a1_0, .int .i64 a1_1, .slice A1_2 l1_2.length c1_2] 48 (0, 0)) (by (with_reducible repeat (first | refine blk_drewN ?_ _ | refine blk_drew ?_ | refine blk_alloc ?_ _)); refine blk_far ?_ NB924_945.out _; (with_reducible repeat (first | refine blk_drewN ?_ _ | refine blk_drew ?_ | refine blk_alloc ?_ _)); refine blk_far ?_ NB924_945.out _; (with_reducible repeat (first | refine blk_drewN ?_ _ | refine blk_drew ?_ | refine blk_alloc ?_ _)); refine blk_far ?_ NB924_945.out _; (with_reducible repeat (first | refine blk_drewN ?_ _ | refine blk_drew ?_ | refine blk_alloc ?_ _)); exact BK924.out) hb); have n7_ := Aside0.mk (blk_below (g := gb945) (o := .cells #[.int .i64 t940, .int .i64 t941, .slice Ao55 t942.length co55] 26 (0, 0)) (by (with_reducible repeat (first | refine blk_drewN ?_ _ | refine blk_drew ?_ | refine blk_alloc ?_ _)); refine blk_put (cs := #[.int .i64 t940, .int .i64 t941, .slice none 0 0]) ?_ 2 _ rfl; (with_reducible repeat (first | refine blk_drewN ?_ _ | refine blk_drew ?_ | refine blk_alloc ?_ _)); refine blk_put (cs := #[.int .i64 t940, .int .i64 0, .slice none 0 0]) ?_ 1 _ rfl; (with_reducible repeat (first | refine blk_drewN ?_ _ | refine blk_drew ?_ | refine blk_alloc ?_ _)); refine blk_put (cs := #[.int .i64 0, .int .i64 0, .slice none 0 0]) ?_ 0 _ rfl; (with_reducible repeat (first | refine blk_drewN ?_ _ | refine blk_drew ?_ | refine blk_alloc ?_ _)); exact BK945.out) hb); have n8_ := Aside0.mk (below_step (by repeat (first | (with_reducible first | exact HB.out | apply below_alloc | apply pw_below_drewN | apply below_drew1 | refine below_set ?_ GE923.out | refine below_set ?_ GE924.out | refine below_set ?_ GE945.out) | exact HB.out)) hb); clear HO931; clear HO936; clear HO939; clear HO944; clear BK923; clear BK924; clear BK945; clear HB; have HO931 := n0_; have HO936 := n1_; have HO939 := n2_; have HO944 := n3_; have HO950 := n4_; have BK923 := n5_; have BK924 := n6_; have BK945 := n7_; have HB := n8_; clear n0_ n1_ n2_ n3_ n4_ n5_ n6_ n7_ n8_; (try clear hb); (try clear hb2); (try clear hk); (try clear hi); (try clear ho0)) | ((with_reducible refine gate_dst (N := 8) rfl ?_); refine box_event ?hg (N := 8) ?hd (cs := #[.int .i64 0, .int .i64 0, .slice none 0 0]) (t := 41) ?hr ?_; (case hd => rfl); (case hg => rfl); (case hr => first | (go_simp; done) | (go_simp; rfl)); intro gb951 hg w58 hbox hb; have n0_ := Aside0.mk (Kd.R_below (by (with_reducible repeat (first | apply Kd.R_alloc | apply Kd.R_drewN | apply Kd.R_drew)); exact HO931.out) hb); have n1_ := Aside0.mk (Kd.R_below (by (with_reducible repeat (first | apply Kd.R_alloc | apply Kd.R_drewN | apply Kd.R_drew)); exact HO936.out) hb); have n2_ := Aside0.mk (Kd.R_below (by (with_reducible repeat (first | apply Kd.R_alloc | apply Kd.R_drewN | apply Kd.R_drew)); exact HO939.out) hb); have n3_ := Aside0.mk (Kd.R_below (by (with_reducible repeat (first | apply Kd.R_alloc | apply Kd.R_drewN | apply Kd.R_drew)); exact HO944.out) hb); have n4_ := Aside0.mk (Kd.R_below (by (with_reducible repeat (first | apply Kd.R_alloc | apply Kd.R_drewN | apply Kd.R_drew)); exact HO950.out) hb); have n5_ := Aside0.mk (blk_below (g := gb923) (o := .cells #[.int .i64 a0_0, .int .i64 a0_1, .slice A0_2 l0_2.length c0_2] 55 (0, 0)) (by (with_reducible repeat (first | refine blk_drewN ?_ _ | refine blk_drew ?_ | refine blk_alloc ?_ _)); exact BK923.out) hb); have n6_ := Aside0.mk (blk_below (g := gb924) (o := .cells #[.int .i64 a1_0, .int .i64 a1_1, .slice A1_2 l1_2.length c1_2] 48 (0, 0)) (by (with_reducible repeat (first | refine blk_drewN ?_ _ | refine blk_drew ?_ | refine blk_alloc ?_ _)); exact BK924.out) hb); have n7_ := Aside0.mk (blk_below (g := gb945) (o := .cells #[.int .i64 t940, .int .i64 t941, .slice Ao55 t942.length co55] 26 (0, 0)) (by (with_reducible repeat (first | refine blk_drewN ?_ _ | refine blk_drew ?_ | refine blk_alloc ?_ _)); exact BK945.out) hb); have n8_ := Aside0.mk (below_step (by repeat (first | (with_reducible first | exact HB.out | apply below_alloc | apply pw_below_drewN | apply below_drew1 | refine below_set ?_ GE923.out | refine below_set ?_ GE924.out | refine below_set ?_ GE945.out) | exact HB.out)) hb); have n9_ := Aside0.mk (hbox); have n10_ := Aside0.mk ((by rw [hg]; exact (below_size (by repeat (first | (with_reducible first | exact HB.out | apply below_alloc | apply pw_below_drewN | apply below_drew1 | refine below_set ?_ GE923.out | refine below_set ?_ GE924.out | refine below_set ?_ GE945.out) | exact HB.out))) : w.heap.size ≤ gb951)); have n11_ := Aside0.mk ((by rw [hg]; exact (below_size (by repeat (first | (with_reducible first | exact HB.out | apply below_alloc | apply pw_below_drewN | apply below_drew1 | refine below_set ?_ GE923.out | refine below_set ?_ GE924.out | refine below_set ?_ GE945.out) | exact HB.out))) : w.heap.size ≤ gb951)); have n12_ := Aside0.mk ((by rw [hg]; exact Nat.ne_of_lt (blk_lt (g := gb923) (o := .cells #[.int .i64 a0_0, .int .i64 a0_1, .slice A0_2 l0_2.length c0_2] 55 (0, 0)) (by (with_reducible repeat (first | refine blk_drewN ?_ _ | refine blk_drew ?_ | refine blk_alloc ?_ _)); exact BK923.out)) : gb923 ≠ gb951)); have n13_ := Aside0.mk ((by rw [hg]; exact Nat.ne_of_gt (blk_lt (g := gb923) (o := .cells #[.int .i64 a0_0, .int .i64 a0_1, .slice A0_2 l0_2.length c0_2] 55 (0, 0)) (by (with_reducible repeat (first | refine blk_drewN ?_ _ | refine blk_drew ?_ | refine blk_alloc ?_ _)); exact BK923.out)) : gb951 ≠ gb923)); have n14_ := Aside0.mk ((by rw [hg]; exact Nat.ne_of_lt (blk_lt (g := gb924) (o := .cells #[.int .i64 a1_0, .int .i64 a1_1, .slice A1_2 l1_2.length c1_2] 48 (0, 0)) (by (with_reducible repeat (first | refine blk_drewN ?_ _ | refine blk_drew ?_ | refine blk_alloc ?_ _)); exact BK924.out)) : gb924 ≠ gb951)); have n15_ := Aside0.mk ((by rw [hg]; exact Nat.ne_of_gt (blk_lt (g := gb924) (o := .cells #[.int .i64 a1_0, .int .i64 a1_1, .slice A1_2 l1_2.length c1_2] 48 (0, 0)) (by (with_reducible repeat (first | refine blk_drewN ?_ _ | refine blk_drew ?_ | refine blk_alloc ?_ _)); exact BK924.out)) : gb951 ≠ gb924)); have n16_ := Aside0.mk ((by rw [hg]; exact Nat.ne_of_lt (blk_lt (g := gb945) (o := .cells #[.int .i64 t940, .int .i64 t941, .slice Ao55 t942.length co55] 26 (0, 0)) (by (with_reducible repeat (first | refine blk_drewN ?_ _ | refine blk_drew ?_ | refine blk_alloc ?_ _)); exact BK945.out)) : gb945 ≠ gb951)); have n17_ := Aside0.mk ((by rw [hg]; exact Nat.ne_of_gt (blk_lt (g := gb945) (o := .cells #[.int .i64 t940, .int .i64 t941, .slice Ao55 t942.length co55] 26 (0, 0)) (by (with_reducible repeat (first | refine blk_drewN ?_ _ | refine blk_drew ?_ | refine blk_alloc ?_ _)); exact BK945.out)) : gb951 ≠ gb945)); clear HO931; clear HO936; clear HO939; clear HO944; clear HO950; clear BK923; clear BK924; clear BK945; clear HB; have HO931 := n0_; have HO936 := n1_; have HO939 := n2_; have HO944 := n3_; have HO950 := n4_; have BK923 := n5_; have BK924 := n6_; have BK945 := n7_; have HB := n8_; have BK951 := n9_; have GW951 := n10_; have GE951 := n11_; have NB923_951 := n12_; have NB951_923 := n13_; have NB924_951 := n14_; have NB951_924 := n15_; have NB945_951 := n16_; have NB951_945 := n17_; clear n0_ n1_ n2_ n3_ n4_ n5_ n6_ n7_ n8_ n9_ n10_ n11_ n12_ n13_ n14_ n15_ n16_ n17_; clear hb hbox hg; have hnb59 := NB951_923.out; have hnc59 := NB923_951.out; have hnb60 := NB951_924.out; have hnc60 := NB924_951.out; have hnb61 := NB951_945.out; have hnc61 := NB945_951.out; have hcz62_0 : w58.cell? ⟨gb951, 0, none⟩ = some (.int .i64 0) := (blk_cell BK951.out 0).trans rfl; have hcz62_1 : w58.cell? ⟨gb951, 1, none⟩ = some (.int .i64 0) := (blk_cell BK951.out 1).trans rfl; have hcz62_2 : w58.cell? ⟨gb951, 2, none⟩ = some (.slice none 0 0) := (blk_cell BK951.out 2).trans rfl; have hfz62_0 := blk_frozen BK951.out 0; have hfz62_1 := blk_frozen BK951.out 1; have hfz62_2 := blk_frozen BK951.out 2; obtain ⟨Ao63, co63, eo63⟩ := Kd.R_slice HO950.out; subst eo63; have hcz64_0 : w58.cell? ⟨gb945, 0, none⟩ = some (.int .i64 t940) := (blk_cell BK945.out 0).trans rfl; have hcz64_1 : w58.cell? ⟨gb945, 1, none⟩ = some (.int .i64 t941) := (blk_cell BK945.out 1).trans rfl; have hcz64_2 : w58.cell? ⟨gb945, 2, none⟩ = some (.slice Ao55 t942.length co55) := (blk_cell BK945.out 2).trans rfl; have hfz64_0 := blk_frozen BK945.out 0; have hfz64_1 := blk_frozen BK945.out 1; have hfz64_2 := blk_frozen BK945.out 2) | ((with_reducible refine gate_callee (f := 63) rfl ?_); refine goesL_ (some 35) rfl rfl Try.func63 (by kernel_rfl) rfl #[.agg #[.int .i64 t940, .int .i64 t941, .slice Ao55 t942.length co55], .agg #[.int .i64 t946, .int .i64 t947, .slice Ao63 t948.length co63]] rfl (by (try simp only [List.map_toArray, List.map_cons, List.map_nil]); first | done | rfl | (simp only [List.length_drop, List.length_take]; rfl)) ?_; (with_reducible refine (impl_LevelsFor.calls k t940 t941 _ _ t942 t946 t947 _ _ t948 t952 _ ?side1 ?side2 ?side3 ?side4 A24.out).mono ?_); (case side1 => refine (Kd.R_reads' (e := 3) (base := w.heap.size) (ok := fun k_ => ((((True ∧ some k_ ≠ (.slice Ao46 t929.length co46 : Value).ownBlock) ∧ some k_ ≠ (.slice Ao47 t934.length co47 : Value).ownBlock) ∧ some k_ ≠ (v938 : Value).ownBlock) ∧ some k_ ≠ (.slice Ao63 t948.length co63 : Value).ownBlock)) (n := t942.length) (c := co55) ?_).2.2; exact (by (with_reducible repeat (first | apply Kd.R_alloc | apply Kd.R_drewN | apply Kd.R_drew)); exact (Kd.R_mono (Kd.R_far (p := ⟨gb951, 2, none⟩) (Kd.R_far (p := ⟨gb951, 1, none⟩) (Kd.R_far (p := ⟨gb951, 0, none⟩) (Kd.R_types HO944.out BK951.out (by decide)) (fun _ hk => hk.2) (.int .i64 t946)) (fun _ hk => hk.2) (.int .i64 t947)) (fun _ hk => hk.2) (.slice Ao63 t948.length co63)) (fun _ h_ => h_.1)))); (case side2 => exact (Kd.R_reads' HO944.out).2.1); (case side3 => refine (Kd.R_reads' (e := 3) (base := w.heap.size) (ok := fun k_ => ((((True ∧ some k_ ≠ (.slice Ao46 t929.length co46 : Value).ownBlock) ∧ some k_ ≠ (.slice Ao47 t934.length co47 : Value).ownBlock) ∧ some k_ ≠ (v938 : Value).ownBlock) ∧ some k_ ≠ (.slice Ao55 t942.length co55 : Value).ownBlock)) (n := t948.length) (c := co63) ?_).2.2; exact (by (with_reducible repeat (first | apply Kd.R_alloc | apply Kd.R_drewN | apply Kd.R_drew)); exact (Kd.R_mono (Kd.R_far (p := ⟨gb951, 2, none⟩) (Kd.R_far (p := ⟨gb951, 1, none⟩) (Kd.R_far (p := ⟨gb951, 0, none⟩) (Kd.R_types HO950.out BK951.out (by decide)) (fun _ hk => hk.2) (.int .i64 t946)) (fun _ hk => hk.2) (.int .i64 t947)) (fun _ hk => hk.2) (.slice Ao63 t948.length co63)) (fun _ h_ => h_.1)))); (case side4 => exact (Kd.R_reads' HO950.out).2.1); rintro e w65 ⟨v953, rfl, ho0, hb⟩; refine ⟨_, rfl, ?_⟩; have n0_ := Aside0.mk (Kd.R_elder' (by (with_reducible repeat (first | apply Kd.R_alloc | apply Kd.R_drewN | apply Kd.R_drew)); exact (Kd.R_mono (Kd.R_far (p := ⟨gb951, 2, none⟩) (Kd.R_far (p := ⟨gb951, 1, none⟩) (Kd.R_far (p := ⟨gb951, 0, none⟩) (Kd.R_types HO931.out BK951.out (by decide)) (fun _ hk => hk.2) (.int .i64 t946)) (fun _ hk => hk.2) (.int .i64 t947)) (fun _ hk => hk.2) (.slice Ao63 t948.length co63)) (fun _ h_ => h_.1))) (Kd.R_base ho0) hb); have n1_ := Aside0.mk (Kd.R_elder' (by (with_reducible repeat (first | apply Kd.R_alloc | apply Kd.R_drewN | apply Kd.R_drew)); exact (Kd.R_mono (Kd.R_far (p := ⟨gb951, 2, none⟩) (Kd.R_far (p := ⟨gb951, 1, none⟩) (Kd.R_far (p := ⟨gb951, 0, none⟩) (Kd.R_types HO936.out BK951.out (by decide)) (fun _ hk => hk.2) (.int .i64 t946)) (fun _ hk => hk.2) (.int .i64 t947)) (fun _ hk => hk.2) (.slice Ao63 t948.length co63)) (fun _ h_ => h_.1))) (Kd.R_base ho0) hb); have n2_ := Aside0.mk (Kd.R_elder' (by (with_reducible repeat (first | apply Kd.R_alloc | apply Kd.R_drewN | apply Kd.R_drew)); exact (Kd.R_mono (Kd.R_far (p := ⟨gb951, 2, none⟩) (Kd.R_far (p := ⟨gb951, 1, none⟩) (Kd.R_far (p := ⟨gb951, 0, none⟩) (Kd.R_types HO939.out BK951.out (by decide)) (fun _ hk => hk.2) (.int .i64 t946)) (fun _ hk => hk.2) (.int .i64 t947)) (fun _ hk => hk.2) (.slice Ao63 t948.length co63)) (fun _ h_ => h_.1))) (Kd.R_base ho0) hb); have n3_ := Aside0.mk (Kd.R_elder' (by (with_reducible repeat (first | apply Kd.R_alloc | apply Kd.R_drewN | apply Kd.R_drew)); exact (Kd.R_mono (Kd.R_far (p := ⟨gb951, 2, none⟩) (Kd.R_far (p := ⟨gb951, 1, none⟩) (Kd.R_far (p := ⟨gb951, 0, none⟩) (Kd.R_types HO944.out BK951.out (by decide)) (fun _ hk => hk.2) (.int .i64 t946)) (fun _ hk => hk.2) (.int .i64 t947)) (fun _ hk => hk.2) (.slice Ao63 t948.length co63)) (fun _ h_ => h_.1))) (Kd.R_base ho0) hb); have n4_ := Aside0.mk (Kd.R_elder' (by (with_reducible repeat (first | apply Kd.R_alloc | apply Kd.R_drewN | apply Kd.R_drew)); exact (Kd.R_mono (Kd.R_far (p := ⟨gb951, 2, none⟩) (Kd.R_far (p := ⟨gb951, 1, none⟩) (Kd.R_far (p := ⟨gb951, 0, none⟩) (Kd.R_types HO950.out BK951.out (by decide)) (fun _ hk => hk.2) (.int .i64 t946)) (fun _ hk => hk.2) (.int .i64 t947)) (fun _ hk => hk.2) (.slice Ao63 t948.length co63)) (fun _ h_ => h_.1))) (Kd.R_base ho0) hb); have n5_ := Aside0.mk (Kd.R_lower (Kd.R_new' (Kd.R_new' (Kd.R_new' (Kd.R_new' (Kd.R_new' ho0 (Kd.R_lt (by (with_reducible repeat (first | apply Kd.R_alloc | apply Kd.R_drewN | apply Kd.R_drew)); exact (Kd.R_mono (Kd.R_far (p := ⟨gb951, 2, none⟩) (Kd.R_far (p := ⟨gb951, 1, none⟩) (Kd.R_far (p := ⟨gb951, 0, none⟩) (Kd.R_types HO931.out BK951.out (by decide)) (fun _ hk => hk.2) (.int .i64 t946)) (fun _ hk => hk.2) (.int .i64 t947)) (fun _ hk => hk.2) (.slice Ao63 t948.length co63)) (fun _ h_ => h_.1))))) (Kd.R_lt (by (with_reducible repeat (first | apply Kd.R_alloc | apply Kd.R_drewN | apply Kd.R_drew)); exact (Kd.R_mono (Kd.R_far (p := ⟨gb951, 2, none⟩) (Kd.R_far (p := ⟨gb951, 1, none⟩) (Kd.R_far (p := ⟨gb951, 0, none⟩) (Kd.R_types HO936.out BK951.out (by decide)) (fun _ hk => hk.2) (.int .i64 t946)) (fun _ hk => hk.2) (.int .i64 t947)) (fun _ hk => hk.2) (.slice Ao63 t948.length co63)) (fun _ h_ => h_.1))))) (Kd.R_lt (by (with_reducible repeat (first | apply Kd.R_alloc | apply Kd.R_drewN | apply Kd.R_drew)); exact (Kd.R_mono (Kd.R_far (p := ⟨gb951, 2, none⟩) (Kd.R_far (p := ⟨gb951, 1, none⟩) (Kd.R_far (p := ⟨gb951, 0, none⟩) (Kd.R_types HO939.out BK951.out (by decide)) (fun _ hk => hk.2) (.int .i64 t946)) (fun _ hk => hk.2) (.int .i64 t947)) (fun _ hk => hk.2) (.slice Ao63 t948.length co63)) (fun _ h_ => h_.1))))) (Kd.R_lt (by (with_reducible repeat (first | apply Kd.R_alloc | apply Kd.R_drewN | apply Kd.R_drew)); exact (Kd.R_mono (Kd.R_far (p := ⟨gb951, 2, none⟩) (Kd.R_far (p := ⟨gb951, 1, none⟩) (Kd.R_far (p := ⟨gb951, 0, none⟩) (Kd.R_types HO944.out BK951.out (by decide)) (fun _ hk => hk.2) (.int .i64 t946)) (fun _ hk => hk.2) (.int .i64 t947)) (fun _ hk => hk.2) (.slice Ao63 t948.length co63)) (fun _ h_ => h_.1))))) (Kd.R_lt (by (with_reducible repeat (first | apply Kd.R_alloc | apply Kd.R_drewN | apply Kd.R_drew)); exact (Kd.R_mono (Kd.R_far (p := ⟨gb951, 2, none⟩) (Kd.R_far (p := ⟨gb951, 1, none⟩) (Kd.R_far (p := ⟨gb951, 0, none⟩) (Kd.R_types HO950.out BK951.out (by decide)) (fun _ hk => hk.2) (.int .i64 t946)) (fun _ hk => hk.2) (.int .i64 t947)) (fun _ hk => hk.2) (.slice Ao63 t948.length co63)) (fun _ h_ => h_.1))))) (below_size (by repeat (first | (with_reducible first | exact HB.out | apply below_alloc | apply pw_below_drewN | apply below_drew1 | refine below_set ?_ GE923.out | refine below_set ?_ GE924.out | refine below_set ?_ GE945.out | refine below_set ?_ GE951.out) | exact HB.out)))); have n6_ := Aside0.mk (blk_below (g := gb923) (o := .cells #[.int .i64 a0_0, .int .i64 a0_1, .slice A0_2 l0_2.length c0_2] 55 (0, 0)) (by (with_reducible repeat (first | refine blk_drewN ?_ _ | refine blk_drew ?_ | refine blk_alloc ?_ _)); refine blk_far ?_ NB923_951.out _; (with_reducible repeat (first | refine blk_drewN ?_ _ | refine blk_drew ?_ | refine blk_alloc ?_ _)); refine blk_far ?_ NB923_951.out _; (with_reducible repeat (first | refine blk_drewN ?_ _ | refine blk_drew ?_ | refine blk_alloc ?_ _)); refine blk_far ?_ NB923_951.out _; (with_reducible repeat (first | refine blk_drewN ?_ _ | refine blk_drew ?_ | refine blk_alloc ?_ _)); exact BK923.out) hb); have n7_ := Aside0.mk (blk_below (g := gb924) (o := .cells #[.int .i64 a1_0, .int .i64 a1_1, .slice A1_2 l1_2.length c1_2] 48 (0, 0)) (by (with_reducible repeat (first | refine blk_drewN ?_ _ | refine blk_drew ?_ | refine blk_alloc ?_ _)); refine blk_far ?_ NB924_951.out _; (with_reducible repeat (first | refine blk_drewN ?_ _ | refine blk_drew ?_ | refine blk_alloc ?_ _)); refine blk_far ?_ NB924_951.out _; (with_reducible repeat (first | refine blk_drewN ?_ _ | refine blk_drew ?_ | refine blk_alloc ?_ _)); refine blk_far ?_ NB924_951.out _; (with_reducible repeat (first | refine blk_drewN ?_ _ | refine blk_drew ?_ | refine blk_alloc ?_ _)); exact BK924.out) hb); have n8_ := Aside0.mk (blk_below (g := gb945) (o := .cells #[.int .i64 t940, .int .i64 t941, .slice Ao55 t942.length co55] 26 (0, 0)) (by (with_reducible repeat (first | refine blk_drewN ?_ _ | refine blk_drew ?_ | refine blk_alloc ?_ _)); refine blk_far ?_ NB945_951.out _; (with_reducible repeat (first | refine blk_drewN ?_ _ | refine blk_drew ?_ | refine blk_alloc ?_ _)); refine blk_far ?_ NB945_951.out _; (with_reducible repeat (first | refine blk_drewN ?_ _ | refine blk_drew ?_ | refine blk_alloc ?_ _)); refine blk_far ?_ NB945_951.out _; (with_reducible repeat (first | refine blk_drewN ?_ _ | refine blk_drew ?_ | refine blk_alloc ?_ _)); exact BK945.out) hb); have n9_ := Aside0.mk (blk_below (g := gb951) (o := .cells #[.int .i64 t946, .int .i64 t947, .slice Ao63 t948.length co63] 41 (0, 0)) (by (with_reducible repeat (first | refine blk_drewN ?_ _ | refine blk_drew ?_ | refine blk_alloc ?_ _)); refine blk_put (cs := #[.int .i64 t946, .int .i64 t947, .slice none 0 0]) ?_ 2 _ rfl; (with_reducible repeat (first | refine blk_drewN ?_ _ | refine blk_drew ?_ | refine blk_alloc ?_ _)); refine blk_put (cs := #[.int .i64 t946, .int .i64 0, .slice none 0 0]) ?_ 1 _ rfl; (with_reducible repeat (first | refine blk_drewN ?_ _ | refine blk_drew ?_ | refine blk_alloc ?_ _)); refine blk_put (cs := #[.int .i64 0, .int .i64 0, .slice none 0 0]) ?_ 0 _ rfl; (with_reducible repeat (first | refine blk_drewN ?_ _ | refine blk_drew ?_ | refine blk_alloc ?_ _)); exact BK951.out) hb); have n10_ := Aside0.mk (below_step (by repeat (first | (with_reducible first | exact HB.out | apply below_alloc | apply pw_below_drewN | apply below_drew1 | refine below_set ?_ GE923.out | refine below_set ?_ GE924.out | refine below_set ?_ GE945.out | refine below_set ?_ GE951.out) | exact HB.out)) hb); clear HO931; clear HO936; clear HO939; clear HO944; clear HO950; clear BK923; clear BK924; clear BK945; clear BK951; clear HB; have HO931 := n0_; have HO936 := n1_; have HO939 := n2_; have HO944 := n3_; have HO950 := n4_; have HO954 := n5_; have BK923 := n6_; have BK924 := n7_; have BK945 := n8_; have BK951 := n9_; have HB := n10_; clear n0_ n1_ n2_ n3_ n4_ n5_ n6_ n7_ n8_ n9_ n10_; (try clear hb); (try clear hb2); (try clear hk); (try clear hi); (try clear ho0); obtain ⟨Ao66, co66, eo66⟩ := Kd.R_slice HO954.out; subst eo66; obtain ⟨Ao67, co67, eo67⟩ := Kd.R_slice HO939.out; subst eo67) | ((with_reducible refine gate_callee (f := 53) rfl ?_); refine goesL_ (some 38) rfl rfl Try.func53 (by kernel_rfl) rfl #[.slice Ao66 t952.length co66, .slice Ao67 t937.length co67] rfl (by (try simp only [List.map_toArray, List.map_cons, List.map_nil]); first | done | rfl | (simp only [List.length_drop, List.length_take]; rfl)) ?_; (with_reducible refine (laws_eqIntS.calls k _ _ t952 _ _ t937 true _ ?side1 ?side2 ?side3 ?side4 A25.out).mono ?_); (case side1 => repeat (first | exact (Kd.R_reads' HO954.out).2.2 | (with_reducible refine Kd.C_alloc ?_ _) | (with_reducible refine Kd.C_drewN ?_ _) | (with_reducible refine Kd.C_drew ?_))); (case side2 => exact (Kd.R_reads' HO954.out).2.1); (case side3 => repeat (first | exact (Kd.R_reads' HO939.out).2.2 | (with_reducible refine Kd.C_alloc ?_ _) | (with_reducible refine Kd.C_drewN ?_ _) | (with_reducible refine Kd.C_drew ?_))); (case side4 => exact (Kd.R_reads' HO939.out).2.1); rintro e w' ⟨rfl, ⟨nd, rfl⟩⟩; refine ⟨_, rfl, ?_⟩))
            (try (rw [drewN_self w65]; generalize hq_ : World.drewN w65 _ = w65; have n0_ : Aside0 (Kd.R (Kd.int .i64) 3 w65 w.heap.size (fun k_ => some k_ ≠ (.slice Ao47 t934.length co47 : Value).ownBlock ∧ some k_ ≠ (.slice Ao67 t937.length co67 : Value).ownBlock ∧ some k_ ≠ (.slice Ao55 t942.length co55 : Value).ownBlock ∧ some k_ ≠ (.slice Ao63 t948.length co63 : Value).ownBlock ∧ some k_ ≠ (.slice Ao66 t952.length co66 : Value).ownBlock) (.slice Ao46 t929.length co46) t929) := ⟨by rw [← hq_]; exact (by (with_reducible repeat (first | apply Kd.R_alloc | apply Kd.R_drewN | apply Kd.R_drew)); exact Kd.R_mono HO931.out (fun _ hk => ⟨hk.1.1.1.1.2, ⟨hk.1.1.1.2, ⟨hk.1.1.2, ⟨hk.1.2, hk.2⟩⟩⟩⟩))⟩; have n1_ : Aside0 (Kd.R (Kd.int .i64) 3 w65 w.heap.size (fun k_ => some k_ ≠ (.slice Ao46 t929.length co46 : Value).ownBlock ∧ some k_ ≠ (.slice Ao67 t937.length co67 : Value).ownBlock ∧ some k_ ≠ (.slice Ao55 t942.length co55 : Value).ownBlock ∧ some k_ ≠ (.slice Ao63 t948.length co63 : Value).ownBlock ∧ some k_ ≠ (.slice Ao66 t952.length co66 : Value).ownBlock) (.slice Ao47 t934.length co47) t934) := ⟨by rw [← hq_]; exact (by (with_reducible repeat (first | apply Kd.R_alloc | apply Kd.R_drewN | apply Kd.R_drew)); exact Kd.R_mono HO936.out (fun _ hk => ⟨hk.1.1.1.1.2, ⟨hk.1.1.1.2, ⟨hk.1.1.2, ⟨hk.1.2, hk.2⟩⟩⟩⟩))⟩; have n2_ : Aside0 (Kd.R (Kd.int .i64) 3 w65 w.heap.size (fun k_ => some k_ ≠ (.slice Ao46 t929.length co46 : Value).ownBlock ∧ some k_ ≠ (.slice Ao47 t934.length co47 : Value).ownBlock ∧ some k_ ≠ (.slice Ao55 t942.length co55 : Value).ownBlock ∧ some k_ ≠ (.slice Ao63 t948.length co63 : Value).ownBlock ∧ some k_ ≠ (.slice Ao66 t952.length co66 : Value).ownBlock) (.slice Ao67 t937.length co67) t937) := ⟨by rw [← hq_]; exact (by (with_reducible repeat (first | apply Kd.R_alloc | apply Kd.R_drewN | apply Kd.R_drew)); exact Kd.R_mono HO939.out (fun _ hk => ⟨hk.1.1.1.1.2, ⟨hk.1.1.1.2, ⟨hk.1.1.2, ⟨hk.1.2, hk.2⟩⟩⟩⟩))⟩; have n3_ : Aside0 (Kd.R (Kd.int .i64) 3 w65 w.heap.size (fun k_ => some k_ ≠ (.slice Ao46 t929.length co46 : Value).ownBlock ∧ some k_ ≠ (.slice Ao47 t934.length co47 : Value).ownBlock ∧ some k_ ≠ (.slice Ao67 t937.length co67 : Value).ownBlock ∧ some k_ ≠ (.slice Ao63 t948.length co63 : Value).ownBlock ∧ some k_ ≠ (.slice Ao66 t952.length co66 : Value).ownBlock) (.slice Ao55 t942.length co55) t942) := ⟨by rw [← hq_]; exact (by (with_reducible repeat (first | apply Kd.R_alloc | apply Kd.R_drewN | apply Kd.R_drew)); exact Kd.R_mono HO944.out (fun _ hk => ⟨hk.1.1.1.1.2, ⟨hk.1.1.1.2, ⟨hk.1.1.2, ⟨hk.1.2, hk.2⟩⟩⟩⟩))⟩; have n4_ : Aside0 (Kd.R (Kd.int .i64) 3 w65 w.heap.size (fun k_ => some k_ ≠ (.slice Ao46 t929.length co46 : Value).ownBlock ∧ some k_ ≠ (.slice Ao47 t934.length co47 : Value).ownBlock ∧ some k_ ≠ (.slice Ao67 t937.length co67 : Value).ownBlock ∧ some k_ ≠ (.slice Ao55 t942.length co55 : Value).ownBlock ∧ some k_ ≠ (.slice Ao66 t952.length co66 : Value).ownBlock) (.slice Ao63 t948.length co63) t948) := ⟨by rw [← hq_]; exact (by (with_reducible repeat (first | apply Kd.R_alloc | apply Kd.R_drewN | apply Kd.R_drew)); exact Kd.R_mono HO950.out (fun _ hk => ⟨hk.1.1.1.1.2, ⟨hk.1.1.1.2, ⟨hk.1.1.2, ⟨hk.1.2, hk.2⟩⟩⟩⟩))⟩; have n5_ : Aside0 (Kd.R (Kd.int .i64) 3 w65 w.heap.size (fun k_ => some k_ ≠ (.slice Ao46 t929.length co46 : Value).ownBlock ∧ some k_ ≠ (.slice Ao47 t934.length co47 : Value).ownBlock ∧ some k_ ≠ (.slice Ao67 t937.length co67 : Value).ownBlock ∧ some k_ ≠ (.slice Ao55 t942.length co55 : Value).ownBlock ∧ some k_ ≠ (.slice Ao63 t948.length co63 : Value).ownBlock) (.slice Ao66 t952.length co66) t952) := ⟨by rw [← hq_]; exact (by (with_reducible repeat (first | apply Kd.R_alloc | apply Kd.R_drewN | apply Kd.R_drew)); exact Kd.R_mono HO954.out (fun _ hk => ⟨hk.1.1.1.1.2, ⟨hk.1.1.1.2, ⟨hk.1.1.2, ⟨hk.1.2, hk.2⟩⟩⟩⟩))⟩; have n6_ : Aside0 (w65.heap[gb923]? = some (.cells #[.int .i64 a0_0, .int .i64 a0_1, .slice A0_2 l0_2.length c0_2] 55 (0, 0))) := ⟨by rw [← hq_]; exact (by (with_reducible repeat (first | refine blk_drewN ?_ _ | refine blk_drew ?_ | refine blk_alloc ?_ _)); exact BK923.out)⟩; have n7_ : Aside0 (w65.heap[gb924]? = some (.cells #[.int .i64 a1_0, .int .i64 a1_1, .slice A1_2 l1_2.length c1_2] 48 (0, 0))) := ⟨by rw [← hq_]; exact (by (with_reducible repeat (first | refine blk_drewN ?_ _ | refine blk_drew ?_ | refine blk_alloc ?_ _)); exact BK924.out)⟩; have n8_ : Aside0 (w65.heap[gb945]? = some (.cells #[.int .i64 t940, .int .i64 t941, .slice Ao55 t942.length co55] 26 (0, 0))) := ⟨by rw [← hq_]; exact (by (with_reducible repeat (first | refine blk_drewN ?_ _ | refine blk_drew ?_ | refine blk_alloc ?_ _)); exact BK945.out)⟩; have n9_ : Aside0 (w65.heap[gb951]? = some (.cells #[.int .i64 t946, .int .i64 t947, .slice Ao63 t948.length co63] 41 (0, 0))) := ⟨by rw [← hq_]; exact (by (with_reducible repeat (first | refine blk_drewN ?_ _ | refine blk_drew ?_ | refine blk_alloc ?_ _)); exact BK951.out)⟩; have n10_ : Aside0 (Below w.heap.size w w65) := ⟨by rw [← hq_]; exact (by repeat (first | (with_reducible first | exact HB.out | apply below_alloc | apply pw_below_drewN | apply below_drew1 | refine below_set ?_ GE923.out | refine below_set ?_ GE924.out | refine below_set ?_ GE945.out | refine below_set ?_ GE951.out) | exact HB.out))⟩; clear HO931 HO936 HO939 HO944 HO950 HO954 BK923 BK924 BK945 BK951 HB hq_; have HO931 := n0_; have HO936 := n1_; have HO939 := n2_; have HO944 := n3_; have HO950 := n4_; have HO954 := n5_; have BK923 := n6_; have BK924 := n7_; have BK945 := n8_; have BK951 := n9_; have HB := n10_; clear n0_ n1_ n2_ n3_ n4_ n5_ n6_ n7_ n8_ n9_ n10_))
            have n0_ := Aside0.mk (Kd.R_drew HO931.out)
            have n1_ := Aside0.mk (Kd.R_drew HO936.out)
            have n2_ := Aside0.mk (Kd.R_drew HO939.out)
            have n3_ := Aside0.mk (Kd.R_drew HO944.out)
            have n4_ := Aside0.mk (Kd.R_drew HO950.out)
            have n5_ := Aside0.mk (Kd.R_drew HO954.out)
            have n6_ := Aside0.mk (blk_drew BK923.out)
            have n7_ := Aside0.mk (blk_drew BK924.out)
            have n8_ := Aside0.mk (blk_drew BK945.out)
            have n9_ := Aside0.mk (blk_drew BK951.out)
            have n10_ := Aside0.mk (below_drew1 HB.out)
            clear HO931
            clear HO936
            clear HO939
            clear HO944
            clear HO950
            clear HO954
            clear BK923
            clear BK924
            clear BK945
            clear BK951
            clear HB
            have HO931 := n0_
            have HO936 := n1_
            have HO939 := n2_
            have HO944 := n3_
            have HO950 := n4_
            have HO954 := n5_
            have BK923 := n6_
            have BK924 := n7_
            have BK945 := n8_
            have BK951 := n9_
            have HB := n10_
            clear n0_ n1_ n2_ n3_ n4_ n5_ n6_ n7_ n8_ n9_ n10_
            refine start_ (n := 5) (S := fun w' => w'.cell? ⟨gb945, 0, none⟩ = some (.int .i64 t940) ∧ w'.cell? ⟨gb945, 1, none⟩ = some (.int .i64 t941) ∧ w'.cell? ⟨gb945, 2, none⟩ = some (.slice Ao55 t942.length co55) ∧ w'.cell? ⟨gb923, 0, none⟩ = some (.int .i64 a0_0) ∧ w'.cell? ⟨gb923, 1, none⟩ = some (.int .i64 a0_1) ∧ w'.cell? ⟨gb923, 2, none⟩ = some (.slice A0_2 l0_2.length c0_2)) (ds := []) #[false, false, false, false, false] (by kernel_rfl) rfl rfl ⟨(blk_cell BK945.out 0).trans rfl, (blk_cell BK945.out 1).trans rfl, (blk_cell BK945.out 2).trans rfl, (blk_cell BK923.out 0).trans rfl, (blk_cell BK923.out 1).trans rfl, (blk_cell BK923.out 2).trans rfl⟩ (fun hHeld => ?_)
            generalize w65.drew = w68 at HO931 HO936 HO939 HO944 HO950 HO954 BK923 BK924 BK945 BK951 HB hHeld ⊢
            refine take_ (i := 0) (N := some 40) (v := ?_) (a' := ?_) #[true, false, false, false, false] rfl rfl (by kernel_rfl) (fun _ _ _ h => h) (Or.inl ⟨by rfl, ?_⟩) hHeld ?_ ?_
            rotate_left
            · rintro w' ⟨s0, s1, s2, s3, s4, s5⟩
              go_simp
              with_reducible rfl
            rotate_left
            · simp only [Act.put, List.setIfInBounds_toArray, List.set_cons_zero, List.set_cons_succ, i64_w, i32_w]
              rfl
            refine take_ (i := 1) (N := some 41) (v := ?_) (a' := ?_) #[true, true, false, false, false] rfl rfl (by kernel_rfl) (fun _ _ _ h => h) (Or.inl ⟨by rfl, ?_⟩) hHeld ?_ ?_
            rotate_left
            · rintro w' ⟨s0, s1, s2, s3, s4, s5⟩
              go_simp
              with_reducible rfl
            rotate_left
            · simp only [Act.put, List.setIfInBounds_toArray, List.set_cons_zero, List.set_cons_succ, i64_w, i32_w]
              rfl
            refine one_ (i := 2) (N := some 42) #[true, true, true, false, false] rfl rfl (by kernel_rfl) (by decide) (fun K hK => ?_)
            refine goes_ Try.func58 (by kernel_rfl) rfl #[.agg #[.int .i64 a0_0, .int .i64 a0_1, .slice A0_2 l0_2.length c0_2]] (by rfl) rfl rfl (by (try simp only [List.map_toArray, List.map_cons, List.map_nil]); first | done | rfl | (simp only [List.length_drop, List.length_take]; rfl)) ?_
            with_reducible refine (laws_toMatrix.calls k a0_0 a0_1 _ _ l0_2 t956 t957 t958 _ ?side1 ?side2 A27.out).mono ?_
            (case side1 => repeat (first | exact (Kd.C_below HR0_2.out HB.out) | (with_reducible refine Kd.C_alloc ?_ _) | (with_reducible refine Kd.C_drewN ?_ _) | (with_reducible refine Kd.C_drew ?_)))
            (case side2 => exact HC0_2.out)
            rintro e w69 ⟨v959, rfl, ho0, hb⟩
            refine ⟨_, rfl, ?_⟩
            have n0_ := Aside0.mk (Kd.R_elder' (by (with_reducible repeat (first | apply Kd.R_alloc | apply Kd.R_drewN | apply Kd.R_drew)); exact HO931.out) (Kd.R_base ho0) hb)
            have n1_ := Aside0.mk (Kd.R_elder' (by (with_reducible repeat (first | apply Kd.R_alloc | apply Kd.R_drewN | apply Kd.R_drew)); exact HO936.out) (Kd.R_base ho0) hb)
            have n2_ := Aside0.mk (Kd.R_elder' (by (with_reducible repeat (first | apply Kd.R_alloc | apply Kd.R_drewN | apply Kd.R_drew)); exact HO939.out) (Kd.R_base ho0) hb)
            have n3_ := Aside0.mk (Kd.R_elder' (by (with_reducible repeat (first | apply Kd.R_alloc | apply Kd.R_drewN | apply Kd.R_drew)); exact HO944.out) (Kd.R_base ho0) hb)
            have n4_ := Aside0.mk (Kd.R_elder' (by (with_reducible repeat (first | apply Kd.R_alloc | apply Kd.R_drewN | apply Kd.R_drew)); exact HO950.out) (Kd.R_base ho0) hb)
            have n5_ := Aside0.mk (Kd.R_elder' (by (with_reducible repeat (first | apply Kd.R_alloc | apply Kd.R_drewN | apply Kd.R_drew)); exact HO954.out) (Kd.R_base ho0) hb)
            have n6_ := Aside0.mk (Kd.R_lower (Kd.R_new' (Kd.R_new' (Kd.R_new' (Kd.R_new' (Kd.R_new' (Kd.R_new' ho0 (Kd.R_lt (by (with_reducible repeat (first | apply Kd.R_alloc | apply Kd.R_drewN | apply Kd.R_drew)); exact HO931.out))) (Kd.R_lt (by (with_reducible repeat (first | apply Kd.R_alloc | apply Kd.R_drewN | apply Kd.R_drew)); exact HO936.out))) (Kd.R_lt (by (with_reducible repeat (first | apply Kd.R_alloc | apply Kd.R_drewN | apply Kd.R_drew)); exact HO939.out))) (Kd.R_lt (by (with_reducible repeat (first | apply Kd.R_alloc | apply Kd.R_drewN | apply Kd.R_drew)); exact HO944.out))) (Kd.R_lt (by (with_reducible repeat (first | apply Kd.R_alloc | apply Kd.R_drewN | apply Kd.R_drew)); exact HO950.out))) (Kd.R_lt (by (with_reducible repeat (first | apply Kd.R_alloc | apply Kd.R_drewN | apply Kd.R_drew)); exact HO954.out))) (below_size (by repeat (first | (with_reducible first | exact HB.out | apply below_alloc | apply pw_below_drewN | apply below_drew1 | refine below_set ?_ GE923.out | refine below_set ?_ GE924.out | refine below_set ?_ GE945.out | refine below_set ?_ GE951.out) | exact HB.out))))
            have n7_ := Aside0.mk (blk_below (g := gb923) (o := .cells #[.int .i64 a0_0, .int .i64 a0_1, .slice A0_2 l0_2.length c0_2] 55 (0, 0)) (by (with_reducible repeat (first | refine blk_drewN ?_ _ | refine blk_drew ?_ | refine blk_alloc ?_ _)); exact BK923.out) hb)
            have n8_ := Aside0.mk (blk_below (g := gb924) (o := .cells #[.int .i64 a1_0, .int .i64 a1_1, .slice A1_2 l1_2.length c1_2] 48 (0, 0)) (by (with_reducible repeat (first | refine blk_drewN ?_ _ | refine blk_drew ?_ | refine blk_alloc ?_ _)); exact BK924.out) hb)
            have n9_ := Aside0.mk (blk_below (g := gb945) (o := .cells #[.int .i64 t940, .int .i64 t941, .slice Ao55 t942.length co55] 26 (0, 0)) (by (with_reducible repeat (first | refine blk_drewN ?_ _ | refine blk_drew ?_ | refine blk_alloc ?_ _)); exact BK945.out) hb)
            have n10_ := Aside0.mk (blk_below (g := gb951) (o := .cells #[.int .i64 t946, .int .i64 t947, .slice Ao63 t948.length co63] 41 (0, 0)) (by (with_reducible repeat (first | refine blk_drewN ?_ _ | refine blk_drew ?_ | refine blk_alloc ?_ _)); exact BK951.out) hb)
            have n11_ := Aside0.mk (below_step (by repeat (first | (with_reducible first | exact HB.out | apply below_alloc | apply pw_below_drewN | apply below_drew1 | refine below_set ?_ GE923.out | refine below_set ?_ GE924.out | refine below_set ?_ GE945.out | refine below_set ?_ GE951.out) | exact HB.out)) hb)
            clear HO931
            clear HO936
            clear HO939
            clear HO944
            clear HO950
            clear HO954
            clear BK923
            clear BK924
            clear BK945
            clear BK951
            clear HB
            have HO931 := n0_
            have HO936 := n1_
            have HO939 := n2_
            have HO944 := n3_
            have HO950 := n4_
            have HO954 := n5_
            have HO960 := n6_
            have BK923 := n7_
            have BK924 := n8_
            have BK945 := n9_
            have BK951 := n10_
            have HB := n11_
            clear n0_ n1_ n2_ n3_ n4_ n5_ n6_ n7_ n8_ n9_ n10_ n11_
            (try clear hb)
            (try clear hb2)
            (try clear hk)
            (try clear hi)
            (try clear ho0)
            obtain ⟨Ao70, co70, eo70⟩ := Kd.R_slice HO960.out
            (first | subst eo70 | (injection eo70 with f1_ f2_ f3_; have f4_ := f1_.symm; have f5_ := f3_.symm; clear f1_ f2_ f3_; subst f4_; subst f5_))
            refine hK.out _ _ ⟨(blk_cell BK945.out 0).trans rfl, (blk_cell BK945.out 1).trans rfl, (blk_cell BK945.out 2).trans rfl, (blk_cell BK923.out 0).trans rfl, (blk_cell BK923.out 1).trans rfl, (blk_cell BK923.out 2).trans rfl⟩ (fun hHeld => ?_)
            clear hK K
            refine norm_ (a' := ?_) ?_ ?_
            rotate_left
            · show Act.put _ (some 42) _ = _
              simp only [Act.put, List.setIfInBounds_toArray, List.set_cons_zero, List.set_cons_succ, i64_w, i32_w]
              rfl
            refine one_ (i := 3) (N := some 43) #[true, true, true, true, false] rfl rfl (by kernel_rfl) (by decide) (fun K hK => ?_)
            refine goes_ Try.func34 (by kernel_rfl) rfl #[.agg #[.int .i64 t940, .int .i64 t941, .slice Ao55 t942.length co55], .agg #[.int .i64 t956, .int .i64 t957, .slice Ao70 t958.length co70]] (by rfl) rfl rfl (by (try simp only [List.map_toArray, List.map_cons, List.map_nil]); first | done | rfl | (simp only [List.length_drop, List.length_take]; rfl)) ?_
            with_reducible refine (laws_eqMatrix.calls k t940 t941 _ _ t942 t956 t957 _ _ t958 true _ ?side1 ?side2 ?side3 ?side4 A28.out).mono ?_
            (case side1 => repeat (first | exact (Kd.R_reads' HO944.out).2.2 | (with_reducible refine Kd.C_alloc ?_ _) | (with_reducible refine Kd.C_drewN ?_ _) | (with_reducible refine Kd.C_drew ?_)))
            (case side2 => exact (Kd.R_reads' HO944.out).2.1)
            (case side3 => repeat (first | exact (Kd.R_reads' HO960.out).2.2 | (with_reducible refine Kd.C_alloc ?_ _) | (with_reducible refine Kd.C_drewN ?_ _) | (with_reducible refine Kd.C_drew ?_)))
            (case side4 => exact (Kd.R_reads' HO960.out).2.1)
            rintro e w71 ⟨rfl, hb⟩
            refine ⟨_, rfl, ?_⟩
            have n0_ := Aside0.mk (Kd.R_below (by (with_reducible repeat (first | apply Kd.R_alloc | apply Kd.R_drewN | apply Kd.R_drew)); exact HO931.out) hb)
            have n1_ := Aside0.mk (Kd.R_below (by (with_reducible repeat (first | apply Kd.R_alloc | apply Kd.R_drewN | apply Kd.R_drew)); exact HO936.out) hb)
            have n2_ := Aside0.mk (Kd.R_below (by (with_reducible repeat (first | apply Kd.R_alloc | apply Kd.R_drewN | apply Kd.R_drew)); exact HO939.out) hb)
            have n3_ := Aside0.mk (Kd.R_below (by (with_reducible repeat (first | apply Kd.R_alloc | apply Kd.R_drewN | apply Kd.R_drew)); exact HO944.out) hb)
            have n4_ := Aside0.mk (Kd.R_below (by (with_reducible repeat (first | apply Kd.R_alloc | apply Kd.R_drewN | apply Kd.R_drew)); exact HO950.out) hb)
            have n5_ := Aside0.mk (Kd.R_below (by (with_reducible repeat (first | apply Kd.R_alloc | apply Kd.R_drewN | apply Kd.R_drew)); exact HO954.out) hb)
            have n6_ := Aside0.mk (Kd.R_below (by (with_reducible repeat (first | apply Kd.R_alloc | apply Kd.R_drewN | apply Kd.R_drew)); exact HO960.out) hb)
            have n7_ := Aside0.mk (blk_below (g := gb923) (o := .cells #[.int .i64 a0_0, .int .i64 a0_1, .slice A0_2 l0_2.length c0_2] 55 (0, 0)) (by (with_reducible repeat (first | refine blk_drewN ?_ _ | refine blk_drew ?_ | refine blk_alloc ?_ _)); exact BK923.out) hb)
            have n8_ := Aside0.mk (blk_below (g := gb924) (o := .cells #[.int .i64 a1_0, .int .i64 a1_1, .slice A1_2 l1_2.length c1_2] 48 (0, 0)) (by (with_reducible repeat (first | refine blk_drewN ?_ _ | refine blk_drew ?_ | refine blk_alloc ?_ _)); exact BK924.out) hb)
            have n9_ := Aside0.mk (blk_below (g := gb945) (o := .cells #[.int .i64 t940, .int .i64 t941, .slice Ao55 t942.length co55] 26 (0, 0)) (by (with_reducible repeat (first | refine blk_drewN ?_ _ | refine blk_drew ?_ | refine blk_alloc ?_ _)); exact BK945.out) hb)
            have n10_ := Aside0.mk (blk_below (g := gb951) (o := .cells #[.int .i64 t946, .int .i64 t947, .slice Ao63 t948.length co63] 41 (0, 0)) (by (with_reducible repeat (first | refine blk_drewN ?_ _ | refine blk_drew ?_ | refine blk_alloc ?_ _)); exact BK951.out) hb)
            have n11_ := Aside0.mk (below_step (by repeat (first | (with_reducible first | exact HB.out | apply below_alloc | apply pw_below_drewN | apply below_drew1 | refine below_set ?_ GE923.out | refine below_set ?_ GE924.out | refine below_set ?_ GE945.out | refine below_set ?_ GE951.out) | exact HB.out)) hb)
            clear HO931
            clear HO936
            clear HO939
            clear HO944
            clear HO950
            clear HO954
            clear HO960
            clear BK923
            clear BK924
            clear BK945
            clear BK951
            clear HB
            have HO931 := n0_
            have HO936 := n1_
            have HO939 := n2_
            have HO944 := n3_
            have HO950 := n4_
            have HO954 := n5_
            have HO960 := n6_
            have BK923 := n7_
            have BK924 := n8_
            have BK945 := n9_
            have BK951 := n10_
            have HB := n11_
            clear n0_ n1_ n2_ n3_ n4_ n5_ n6_ n7_ n8_ n9_ n10_ n11_
            (try clear hb)
            (try clear hb2)
            (try clear hk)
            (try clear hi)
            refine hK.out _ _ ⟨(blk_cell BK945.out 0).trans rfl, (blk_cell BK945.out 1).trans rfl, (blk_cell BK945.out 2).trans rfl, (blk_cell BK923.out 0).trans rfl, (blk_cell BK923.out 1).trans rfl, (blk_cell BK923.out 2).trans rfl⟩ (fun hHeld => ?_)
            clear hK K
            refine norm_ (a' := ?_) ?_ ?_
            rotate_left
            · show Act.put _ (some 43) _ = _
              simp only [Act.put, List.setIfInBounds_toArray, List.set_cons_zero, List.set_cons_succ, i64_w, i32_w]
              rfl
            refine pure_ (i := 4) (N := some 44) (v := ?_) (a' := ?_) #[true, true, true, true, true] rfl rfl (by kernel_rfl) (fun _ _ _ h => h) (Or.inl ⟨by rfl, ?_⟩) ?_ ?_
            rotate_left
            · intro w'
              go_simp
              with_reducible rfl
            rotate_left
            · simp only [Act.put, List.setIfInBounds_toArray, List.set_cons_zero, List.set_cons_succ, i64_w, i32_w]
              rfl
            refine done_ (by kernel_rfl) ?_
            try go_wp2
            have n0_ := Aside0.mk (Kd.R_drew HO931.out)
            have n1_ := Aside0.mk (Kd.R_drew HO936.out)
            have n2_ := Aside0.mk (Kd.R_drew HO939.out)
            have n3_ := Aside0.mk (Kd.R_drew HO944.out)
            have n4_ := Aside0.mk (Kd.R_drew HO950.out)
            have n5_ := Aside0.mk (Kd.R_drew HO954.out)
            have n6_ := Aside0.mk (Kd.R_drew HO960.out)
            have n7_ := Aside0.mk (blk_drew BK923.out)
            have n8_ := Aside0.mk (blk_drew BK924.out)
            have n9_ := Aside0.mk (blk_drew BK945.out)
            have n10_ := Aside0.mk (blk_drew BK951.out)
            have n11_ := Aside0.mk (below_drew1 HB.out)
            clear HO931
            clear HO936
            clear HO939
            clear HO944
            clear HO950
            clear HO954
            clear HO960
            clear BK923
            clear BK924
            clear BK945
            clear BK951
            clear HB
            have HO931 := n0_
            have HO936 := n1_
            have HO939 := n2_
            have HO944 := n3_
            have HO950 := n4_
            have HO954 := n5_
            have HO960 := n6_
            have BK923 := n7_
            have BK924 := n8_
            have BK945 := n9_
            have BK951 := n10_
            have HB := n11_
            clear n0_ n1_ n2_ n3_ n4_ n5_ n6_ n7_ n8_ n9_ n10_ n11_
            refine start_ (n := 5) (S := fun w' => w'.cell? ⟨gb951, 0, none⟩ = some (.int .i64 t946) ∧ w'.cell? ⟨gb951, 1, none⟩ = some (.int .i64 t947) ∧ w'.cell? ⟨gb951, 2, none⟩ = some (.slice Ao63 t948.length co63) ∧ w'.cell? ⟨gb924, 0, none⟩ = some (.int .i64 a1_0) ∧ w'.cell? ⟨gb924, 1, none⟩ = some (.int .i64 a1_1) ∧ w'.cell? ⟨gb924, 2, none⟩ = some (.slice A1_2 l1_2.length c1_2)) (ds := []) #[false, false, false, false, false] (by kernel_rfl) rfl rfl ⟨(blk_cell BK951.out 0).trans rfl, (blk_cell BK951.out 1).trans rfl, (blk_cell BK951.out 2).trans rfl, (blk_cell BK924.out 0).trans rfl, (blk_cell BK924.out 1).trans rfl, (blk_cell BK924.out 2).trans rfl⟩ (fun hHeld => ?_)
            generalize w71.drew = w72 at HO931 HO936 HO939 HO944 HO950 HO954 HO960 BK923 BK924 BK945 BK951 HB hHeld ⊢
            refine take_ (i := 0) (N := some 45) (v := ?_) (a' := ?_) #[true, false, false, false, false] rfl rfl (by kernel_rfl) (fun _ _ _ h => h) (Or.inl ⟨by rfl, ?_⟩) hHeld ?_ ?_
            rotate_left
            · rintro w' ⟨s0, s1, s2, s3, s4, s5⟩
              go_simp
              with_reducible rfl
            rotate_left
            · simp only [Act.put, List.setIfInBounds_toArray, List.set_cons_zero, List.set_cons_succ, i64_w, i32_w]
              rfl
            refine take_ (i := 1) (N := some 46) (v := ?_) (a' := ?_) #[true, true, false, false, false] rfl rfl (by kernel_rfl) (fun _ _ _ h => h) (Or.inl ⟨by rfl, ?_⟩) hHeld ?_ ?_
            rotate_left
            · rintro w' ⟨s0, s1, s2, s3, s4, s5⟩
              go_simp
              with_reducible rfl
            rotate_left
            · simp only [Act.put, List.setIfInBounds_toArray, List.set_cons_zero, List.set_cons_succ, i64_w, i32_w]
              rfl
            refine one_ (i := 2) (N := some 47) #[true, true, true, false, false] rfl rfl (by kernel_rfl) (by decide) (fun K hK => ?_)
            refine goes_ Try.func48 (by kernel_rfl) rfl #[.agg #[.int .i64 a1_0, .int .i64 a1_1, .slice A1_2 l1_2.length c1_2]] (by rfl) rfl rfl (by (try simp only [List.map_toArray, List.map_cons, List.map_nil]); first | done | rfl | (simp only [List.length_drop, List.length_take]; rfl)) ?_
            with_reducible refine (laws_toPicture.calls k a1_0 a1_1 _ _ l1_2 t962 t963 t964 _ ?side1 ?side2 A30.out).mono ?_
            (case side1 => repeat (first | exact (Kd.C_below HR1_2.out HB.out) | (with_reducible refine Kd.C_alloc ?_ _) | (with_reducible refine Kd.C_drewN ?_ _) | (with_reducible refine Kd.C_drew ?_)))
            (case side2 => exact HC1_2.out)
            rintro e w73 ⟨v965, rfl, ho0, hb⟩
            refine ⟨_, rfl, ?_⟩
            have n0_ := Aside0.mk (Kd.R_elder' (by (with_reducible repeat (first | apply Kd.R_alloc | apply Kd.R_drewN | apply Kd.R_drew)); exact HO931.out) (Kd.R_base ho0) hb)
            have n1_ := Aside0.mk (Kd.R_elder' (by (with_reducible repeat (first | apply Kd.R_alloc | apply Kd.R_drewN | apply Kd.R_drew)); exact HO936.out) (Kd.R_base ho0) hb)
            have n2_ := Aside0.mk (Kd.R_elder' (by (with_reducible repeat (first | apply Kd.R_alloc | apply Kd.R_drewN | apply Kd.R_drew)); exact HO939.out) (Kd.R_base ho0) hb)
            have n3_ := Aside0.mk (Kd.R_elder' (by (with_reducible repeat (first | apply Kd.R_alloc | apply Kd.R_drewN | apply Kd.R_drew)); exact HO944.out) (Kd.R_base ho0) hb)
            have n4_ := Aside0.mk (Kd.R_elder' (by (with_reducible repeat (first | apply Kd.R_alloc | apply Kd.R_drewN | apply Kd.R_drew)); exact HO950.out) (Kd.R_base ho0) hb)
            have n5_ := Aside0.mk (Kd.R_elder' (by (with_reducible repeat (first | apply Kd.R_alloc | apply Kd.R_drewN | apply Kd.R_drew)); exact HO954.out) (Kd.R_base ho0) hb)
            have n6_ := Aside0.mk (Kd.R_elder' (by (with_reducible repeat (first | apply Kd.R_alloc | apply Kd.R_drewN | apply Kd.R_drew)); exact HO960.out) (Kd.R_base ho0) hb)
            have n7_ := Aside0.mk (Kd.R_lower (Kd.R_new' (Kd.R_new' (Kd.R_new' (Kd.R_new' (Kd.R_new' (Kd.R_new' (Kd.R_new' ho0 (Kd.R_lt (by (with_reducible repeat (first | apply Kd.R_alloc | apply Kd.R_drewN | apply Kd.R_drew)); exact HO931.out))) (Kd.R_lt (by (with_reducible repeat (first | apply Kd.R_alloc | apply Kd.R_drewN | apply Kd.R_drew)); exact HO936.out))) (Kd.R_lt (by (with_reducible repeat (first | apply Kd.R_alloc | apply Kd.R_drewN | apply Kd.R_drew)); exact HO939.out))) (Kd.R_lt (by (with_reducible repeat (first | apply Kd.R_alloc | apply Kd.R_drewN | apply Kd.R_drew)); exact HO944.out))) (Kd.R_lt (by (with_reducible repeat (first | apply Kd.R_alloc | apply Kd.R_drewN | apply Kd.R_drew)); exact HO950.out))) (Kd.R_lt (by (with_reducible repeat (first | apply Kd.R_alloc | apply Kd.R_drewN | apply Kd.R_drew)); exact HO954.out))) (Kd.R_lt (by (with_reducible repeat (first | apply Kd.R_alloc | apply Kd.R_drewN | apply Kd.R_drew)); exact HO960.out))) (below_size (by repeat (first | (with_reducible first | exact HB.out | apply below_alloc | apply pw_below_drewN | apply below_drew1 | refine below_set ?_ GE923.out | refine below_set ?_ GE924.out | refine below_set ?_ GE945.out | refine below_set ?_ GE951.out) | exact HB.out))))
            have n8_ := Aside0.mk (blk_below (g := gb923) (o := .cells #[.int .i64 a0_0, .int .i64 a0_1, .slice A0_2 l0_2.length c0_2] 55 (0, 0)) (by (with_reducible repeat (first | refine blk_drewN ?_ _ | refine blk_drew ?_ | refine blk_alloc ?_ _)); exact BK923.out) hb)
            have n9_ := Aside0.mk (blk_below (g := gb924) (o := .cells #[.int .i64 a1_0, .int .i64 a1_1, .slice A1_2 l1_2.length c1_2] 48 (0, 0)) (by (with_reducible repeat (first | refine blk_drewN ?_ _ | refine blk_drew ?_ | refine blk_alloc ?_ _)); exact BK924.out) hb)
            have n10_ := Aside0.mk (blk_below (g := gb945) (o := .cells #[.int .i64 t940, .int .i64 t941, .slice Ao55 t942.length co55] 26 (0, 0)) (by (with_reducible repeat (first | refine blk_drewN ?_ _ | refine blk_drew ?_ | refine blk_alloc ?_ _)); exact BK945.out) hb)
            have n11_ := Aside0.mk (blk_below (g := gb951) (o := .cells #[.int .i64 t946, .int .i64 t947, .slice Ao63 t948.length co63] 41 (0, 0)) (by (with_reducible repeat (first | refine blk_drewN ?_ _ | refine blk_drew ?_ | refine blk_alloc ?_ _)); exact BK951.out) hb)
            have n12_ := Aside0.mk (below_step (by repeat (first | (with_reducible first | exact HB.out | apply below_alloc | apply pw_below_drewN | apply below_drew1 | refine below_set ?_ GE923.out | refine below_set ?_ GE924.out | refine below_set ?_ GE945.out | refine below_set ?_ GE951.out) | exact HB.out)) hb)
            clear HO931
            clear HO936
            clear HO939
            clear HO944
            clear HO950
            clear HO954
            clear HO960
            clear BK923
            clear BK924
            clear BK945
            clear BK951
            clear HB
            have HO931 := n0_
            have HO936 := n1_
            have HO939 := n2_
            have HO944 := n3_
            have HO950 := n4_
            have HO954 := n5_
            have HO960 := n6_
            have HO966 := n7_
            have BK923 := n8_
            have BK924 := n9_
            have BK945 := n10_
            have BK951 := n11_
            have HB := n12_
            clear n0_ n1_ n2_ n3_ n4_ n5_ n6_ n7_ n8_ n9_ n10_ n11_ n12_
            (try clear hb)
            (try clear hb2)
            (try clear hk)
            (try clear hi)
            (try clear ho0)
            obtain ⟨Ao74, co74, eo74⟩ := Kd.R_slice HO966.out
            (first | subst eo74 | (injection eo74 with f1_ f2_ f3_; have f4_ := f1_.symm; have f5_ := f3_.symm; clear f1_ f2_ f3_; subst f4_; subst f5_))
            refine hK.out _ _ ⟨(blk_cell BK951.out 0).trans rfl, (blk_cell BK951.out 1).trans rfl, (blk_cell BK951.out 2).trans rfl, (blk_cell BK924.out 0).trans rfl, (blk_cell BK924.out 1).trans rfl, (blk_cell BK924.out 2).trans rfl⟩ (fun hHeld => ?_)
            clear hK K
            refine norm_ (a' := ?_) ?_ ?_
            rotate_left
            · show Act.put _ (some 47) _ = _
              simp only [Act.put, List.setIfInBounds_toArray, List.set_cons_zero, List.set_cons_succ, i64_w, i32_w]
              rfl
            refine one_ (i := 3) (N := some 48) #[true, true, true, true, false] rfl rfl (by kernel_rfl) (by decide) (fun K hK => ?_)
            refine goes_ Try.func49 (by kernel_rfl) rfl #[.agg #[.int .i64 t946, .int .i64 t947, .slice Ao63 t948.length co63], .agg #[.int .i64 t962, .int .i64 t963, .slice Ao74 t964.length co74]] (by rfl) rfl rfl (by (try simp only [List.map_toArray, List.map_cons, List.map_nil]); first | done | rfl | (simp only [List.length_drop, List.length_take]; rfl)) ?_
            with_reducible refine (laws_eqPicture.calls k t946 t947 _ _ t948 t962 t963 _ _ t964 true _ ?side1 ?side2 ?side3 ?side4 A31.out).mono ?_
            (case side1 => repeat (first | exact (Kd.R_reads' HO950.out).2.2 | (with_reducible refine Kd.C_alloc ?_ _) | (with_reducible refine Kd.C_drewN ?_ _) | (with_reducible refine Kd.C_drew ?_)))
            (case side2 => exact (Kd.R_reads' HO950.out).2.1)
            (case side3 => repeat (first | exact (Kd.R_reads' HO966.out).2.2 | (with_reducible refine Kd.C_alloc ?_ _) | (with_reducible refine Kd.C_drewN ?_ _) | (with_reducible refine Kd.C_drew ?_)))
            (case side4 => exact (Kd.R_reads' HO966.out).2.1)
            rintro e w75 ⟨rfl, hb⟩
            refine ⟨_, rfl, ?_⟩
            have n0_ := Aside0.mk (Kd.R_below (by (with_reducible repeat (first | apply Kd.R_alloc | apply Kd.R_drewN | apply Kd.R_drew)); exact HO931.out) hb)
            have n1_ := Aside0.mk (Kd.R_below (by (with_reducible repeat (first | apply Kd.R_alloc | apply Kd.R_drewN | apply Kd.R_drew)); exact HO936.out) hb)
            have n2_ := Aside0.mk (Kd.R_below (by (with_reducible repeat (first | apply Kd.R_alloc | apply Kd.R_drewN | apply Kd.R_drew)); exact HO939.out) hb)
            have n3_ := Aside0.mk (Kd.R_below (by (with_reducible repeat (first | apply Kd.R_alloc | apply Kd.R_drewN | apply Kd.R_drew)); exact HO944.out) hb)
            have n4_ := Aside0.mk (Kd.R_below (by (with_reducible repeat (first | apply Kd.R_alloc | apply Kd.R_drewN | apply Kd.R_drew)); exact HO950.out) hb)
            have n5_ := Aside0.mk (Kd.R_below (by (with_reducible repeat (first | apply Kd.R_alloc | apply Kd.R_drewN | apply Kd.R_drew)); exact HO954.out) hb)
            have n6_ := Aside0.mk (Kd.R_below (by (with_reducible repeat (first | apply Kd.R_alloc | apply Kd.R_drewN | apply Kd.R_drew)); exact HO960.out) hb)
            have n7_ := Aside0.mk (Kd.R_below (by (with_reducible repeat (first | apply Kd.R_alloc | apply Kd.R_drewN | apply Kd.R_drew)); exact HO966.out) hb)
            have n8_ := Aside0.mk (blk_below (g := gb923) (o := .cells #[.int .i64 a0_0, .int .i64 a0_1, .slice A0_2 l0_2.length c0_2] 55 (0, 0)) (by (with_reducible repeat (first | refine blk_drewN ?_ _ | refine blk_drew ?_ | refine blk_alloc ?_ _)); exact BK923.out) hb)
            have n9_ := Aside0.mk (blk_below (g := gb924) (o := .cells #[.int .i64 a1_0, .int .i64 a1_1, .slice A1_2 l1_2.length c1_2] 48 (0, 0)) (by (with_reducible repeat (first | refine blk_drewN ?_ _ | refine blk_drew ?_ | refine blk_alloc ?_ _)); exact BK924.out) hb)
            have n10_ := Aside0.mk (blk_below (g := gb945) (o := .cells #[.int .i64 t940, .int .i64 t941, .slice Ao55 t942.length co55] 26 (0, 0)) (by (with_reducible repeat (first | refine blk_drewN ?_ _ | refine blk_drew ?_ | refine blk_alloc ?_ _)); exact BK945.out) hb)
            have n11_ := Aside0.mk (blk_below (g := gb951) (o := .cells #[.int .i64 t946, .int .i64 t947, .slice Ao63 t948.length co63] 41 (0, 0)) (by (with_reducible repeat (first | refine blk_drewN ?_ _ | refine blk_drew ?_ | refine blk_alloc ?_ _)); exact BK951.out) hb)
            have n12_ := Aside0.mk (below_step (by repeat (first | (with_reducible first | exact HB.out | apply below_alloc | apply pw_below_drewN | apply below_drew1 | refine below_set ?_ GE923.out | refine below_set ?_ GE924.out | refine below_set ?_ GE945.out | refine below_set ?_ GE951.out) | exact HB.out)) hb)
            clear HO931
            clear HO936
            clear HO939
            clear HO944
            clear HO950
            clear HO954
            clear HO960
            clear HO966
            clear BK923
            clear BK924
            clear BK945
            clear BK951
            clear HB
            have HO931 := n0_
            have HO936 := n1_
            have HO939 := n2_
            have HO944 := n3_
            have HO950 := n4_
            have HO954 := n5_
            have HO960 := n6_
            have HO966 := n7_
            have BK923 := n8_
            have BK924 := n9_
            have BK945 := n10_
            have BK951 := n11_
            have HB := n12_
            clear n0_ n1_ n2_ n3_ n4_ n5_ n6_ n7_ n8_ n9_ n10_ n11_ n12_
            (try clear hb)
            (try clear hb2)
            (try clear hk)
            (try clear hi)
            refine hK.out _ _ ⟨(blk_cell BK951.out 0).trans rfl, (blk_cell BK951.out 1).trans rfl, (blk_cell BK951.out 2).trans rfl, (blk_cell BK924.out 0).trans rfl, (blk_cell BK924.out 1).trans rfl, (blk_cell BK924.out 2).trans rfl⟩ (fun hHeld => ?_)
            clear hK K
            refine norm_ (a' := ?_) ?_ ?_
            rotate_left
            · show Act.put _ (some 48) _ = _
              simp only [Act.put, List.setIfInBounds_toArray, List.set_cons_zero, List.set_cons_succ, i64_w, i32_w]
              rfl
            refine pure_ (i := 4) (N := some 49) (v := ?_) (a' := ?_) #[true, true, true, true, true] rfl rfl (by kernel_rfl) (fun _ _ _ h => h) (Or.inl ⟨by rfl, ?_⟩) ?_ ?_
            rotate_left
            · intro w'
              go_simp
              with_reducible rfl
            rotate_left
            · simp only [Act.put, List.setIfInBounds_toArray, List.set_cons_zero, List.set_cons_succ, i64_w, i32_w]
              rfl
            refine done_ (by kernel_rfl) ?_
            have hcz76_0 : w75.cell? ⟨gb945, 0, none⟩ = some (.int .i64 t940) := (blk_cell BK945.out 0).trans rfl
            have hcz76_1 : w75.cell? ⟨gb945, 1, none⟩ = some (.int .i64 t941) := (blk_cell BK945.out 1).trans rfl
            have hcz76_2 : w75.cell? ⟨gb945, 2, none⟩ = some (.slice Ao55 t942.length co55) := (blk_cell BK945.out 2).trans rfl
            have hfz76_0 := blk_frozen BK945.out 0
            have hfz76_1 := blk_frozen BK945.out 1
            have hfz76_2 := blk_frozen BK945.out 2
            go_upto_region 21 with (first | ((with_reducible refine gate_callee (f := 35) rfl ?_); refine goesL_ (some 52) rfl rfl Try.func35 (by kernel_rfl) rfl #[.agg #[.int .i64 t940, .int .i64 t941, .slice Ao55 t942.length co55], .int .i64 1] rfl (by (try simp only [List.map_toArray, List.map_cons, List.map_nil]); first | done | rfl | (simp only [List.length_drop, List.length_take]; rfl)) ?_; (with_reducible refine (laws_markMatrix.calls k t940 t941 (fun k_ => some k_ = (.slice Ao55 t942.length co55 : Value).ownBlock) (.slice Ao55 t942.length co55) t942 1 t968 t969 w _ ?side1 ?side2 A33.out).mono ?_); (case side1 => repeat (first | (with_reducible first | exact HB.out | apply below_alloc | apply pw_below_drewN | apply below_drew1 | refine below_set ?_ GE923.out | refine below_set ?_ GE924.out | refine below_set ?_ GE945.out | refine below_set ?_ GE951.out) | exact HB.out)); (case side2 => exact Kd.R_tight rfl HO944.out); rintro e w77 ⟨rfl, hy0, hb, hkp⟩; refine ⟨_, rfl, ?_⟩; have n0_ := Aside0.mk (blk_kept (by (with_reducible repeat (first | refine blk_drewN ?_ _ | refine blk_drew ?_ | refine blk_alloc ?_ _)); exact BK923.out) hkp (fun hs_ => (fun e_ => (Kd.R_ne HO944.out BK923.out (by decide)) e_) hs_)); have n1_ := Aside0.mk (blk_kept (by (with_reducible repeat (first | refine blk_drewN ?_ _ | refine blk_drew ?_ | refine blk_alloc ?_ _)); exact BK924.out) hkp (fun hs_ => (fun e_ => (Kd.R_ne HO944.out BK924.out (by decide)) e_) hs_)); have n2_ := Aside0.mk (Kd.R_mono (ok' := fun k_ => some k_ ≠ (.slice Ao47 t934.length co47 : Value).ownBlock ∧ some k_ ≠ (.slice Ao67 t937.length co67 : Value).ownBlock ∧ some k_ ≠ (.slice Ao55 t942.length co55 : Value).ownBlock ∧ some k_ ≠ (.slice Ao63 t948.length co63 : Value).ownBlock ∧ some k_ ≠ (.slice Ao66 t952.length co66 : Value).ownBlock ∧ some k_ ≠ (.slice Ao70 t958.length co70 : Value).ownBlock ∧ some k_ ≠ (.slice Ao74 t964.length co74 : Value).ownBlock) (Kd.R_keptB (HO931.out) hkp (fun k_ hk_ hs_ => (by revert hk_; simp only [and_imp]; intros; exact absurd (show some k_ = _ from hs_) (by assumption)))) (fun k_ hk_ => (by revert hk_; simp only [and_imp]; intros; refine ⟨?_, ?_, ?_, ?_, ?_, ?_, ?_⟩ <;> assumption))); have n3_ := Aside0.mk (Kd.R_mono (ok' := fun k_ => some k_ ≠ (.slice Ao46 t929.length co46 : Value).ownBlock ∧ some k_ ≠ (.slice Ao67 t937.length co67 : Value).ownBlock ∧ some k_ ≠ (.slice Ao55 t942.length co55 : Value).ownBlock ∧ some k_ ≠ (.slice Ao63 t948.length co63 : Value).ownBlock ∧ some k_ ≠ (.slice Ao66 t952.length co66 : Value).ownBlock ∧ some k_ ≠ (.slice Ao70 t958.length co70 : Value).ownBlock ∧ some k_ ≠ (.slice Ao74 t964.length co74 : Value).ownBlock) (Kd.R_keptB (HO936.out) hkp (fun k_ hk_ hs_ => (by revert hk_; simp only [and_imp]; intros; exact absurd (show some k_ = _ from hs_) (by assumption)))) (fun k_ hk_ => (by revert hk_; simp only [and_imp]; intros; refine ⟨?_, ?_, ?_, ?_, ?_, ?_, ?_⟩ <;> assumption))); have n4_ := Aside0.mk (Kd.R_mono (ok' := fun k_ => some k_ ≠ (.slice Ao46 t929.length co46 : Value).ownBlock ∧ some k_ ≠ (.slice Ao47 t934.length co47 : Value).ownBlock ∧ some k_ ≠ (.slice Ao55 t942.length co55 : Value).ownBlock ∧ some k_ ≠ (.slice Ao63 t948.length co63 : Value).ownBlock ∧ some k_ ≠ (.slice Ao66 t952.length co66 : Value).ownBlock ∧ some k_ ≠ (.slice Ao70 t958.length co70 : Value).ownBlock ∧ some k_ ≠ (.slice Ao74 t964.length co74 : Value).ownBlock) (Kd.R_keptB (HO939.out) hkp (fun k_ hk_ hs_ => (by revert hk_; simp only [and_imp]; intros; exact absurd (show some k_ = _ from hs_) (by assumption)))) (fun k_ hk_ => (by revert hk_; simp only [and_imp]; intros; refine ⟨?_, ?_, ?_, ?_, ?_, ?_, ?_⟩ <;> assumption))); have n5_ := Aside0.mk (Kd.R_reok rfl hy0 (fun k_ e_ => HO944.out.1 k_ e_)); have n6_ := Aside0.mk (blk_kept (by (with_reducible repeat (first | refine blk_drewN ?_ _ | refine blk_drew ?_ | refine blk_alloc ?_ _)); exact BK945.out) hkp (fun hs_ => (fun e_ => (Kd.R_ne HO944.out BK945.out (by decide)) e_) hs_)); have n7_ := Aside0.mk (Kd.R_mono (ok' := fun k_ => some k_ ≠ (.slice Ao46 t929.length co46 : Value).ownBlock ∧ some k_ ≠ (.slice Ao47 t934.length co47 : Value).ownBlock ∧ some k_ ≠ (.slice Ao67 t937.length co67 : Value).ownBlock ∧ some k_ ≠ (.slice Ao55 t942.length co55 : Value).ownBlock ∧ some k_ ≠ (.slice Ao66 t952.length co66 : Value).ownBlock ∧ some k_ ≠ (.slice Ao70 t958.length co70 : Value).ownBlock ∧ some k_ ≠ (.slice Ao74 t964.length co74 : Value).ownBlock) (Kd.R_keptB (HO950.out) hkp (fun k_ hk_ hs_ => (by revert hk_; simp only [and_imp]; intros; exact absurd (show some k_ = _ from hs_) (by assumption)))) (fun k_ hk_ => (by revert hk_; simp only [and_imp]; intros; refine ⟨?_, ?_, ?_, ?_, ?_, ?_, ?_⟩ <;> assumption))); have n8_ := Aside0.mk (blk_kept (by (with_reducible repeat (first | refine blk_drewN ?_ _ | refine blk_drew ?_ | refine blk_alloc ?_ _)); exact BK951.out) hkp (fun hs_ => (fun e_ => (Kd.R_ne HO944.out BK951.out (by decide)) e_) hs_)); have n9_ := Aside0.mk (Kd.R_mono (ok' := fun k_ => some k_ ≠ (.slice Ao46 t929.length co46 : Value).ownBlock ∧ some k_ ≠ (.slice Ao47 t934.length co47 : Value).ownBlock ∧ some k_ ≠ (.slice Ao67 t937.length co67 : Value).ownBlock ∧ some k_ ≠ (.slice Ao55 t942.length co55 : Value).ownBlock ∧ some k_ ≠ (.slice Ao63 t948.length co63 : Value).ownBlock ∧ some k_ ≠ (.slice Ao70 t958.length co70 : Value).ownBlock ∧ some k_ ≠ (.slice Ao74 t964.length co74 : Value).ownBlock) (Kd.R_keptB (HO954.out) hkp (fun k_ hk_ hs_ => (by revert hk_; simp only [and_imp]; intros; exact absurd (show some k_ = _ from hs_) (by assumption)))) (fun k_ hk_ => (by revert hk_; simp only [and_imp]; intros; refine ⟨?_, ?_, ?_, ?_, ?_, ?_, ?_⟩ <;> assumption))); have n10_ := Aside0.mk (Kd.R_mono (ok' := fun k_ => some k_ ≠ (.slice Ao46 t929.length co46 : Value).ownBlock ∧ some k_ ≠ (.slice Ao47 t934.length co47 : Value).ownBlock ∧ some k_ ≠ (.slice Ao67 t937.length co67 : Value).ownBlock ∧ some k_ ≠ (.slice Ao55 t942.length co55 : Value).ownBlock ∧ some k_ ≠ (.slice Ao63 t948.length co63 : Value).ownBlock ∧ some k_ ≠ (.slice Ao66 t952.length co66 : Value).ownBlock ∧ some k_ ≠ (.slice Ao74 t964.length co74 : Value).ownBlock) (Kd.R_keptB (HO960.out) hkp (fun k_ hk_ hs_ => (by revert hk_; simp only [and_imp]; intros; exact absurd (show some k_ = _ from hs_) (by assumption)))) (fun k_ hk_ => (by revert hk_; simp only [and_imp]; intros; refine ⟨?_, ?_, ?_, ?_, ?_, ?_, ?_⟩ <;> assumption))); have n11_ := Aside0.mk (Kd.R_mono (ok' := fun k_ => some k_ ≠ (.slice Ao46 t929.length co46 : Value).ownBlock ∧ some k_ ≠ (.slice Ao47 t934.length co47 : Value).ownBlock ∧ some k_ ≠ (.slice Ao67 t937.length co67 : Value).ownBlock ∧ some k_ ≠ (.slice Ao55 t942.length co55 : Value).ownBlock ∧ some k_ ≠ (.slice Ao63 t948.length co63 : Value).ownBlock ∧ some k_ ≠ (.slice Ao66 t952.length co66 : Value).ownBlock ∧ some k_ ≠ (.slice Ao70 t958.length co70 : Value).ownBlock) (Kd.R_keptB (HO966.out) hkp (fun k_ hk_ hs_ => (by revert hk_; simp only [and_imp]; intros; exact absurd (show some k_ = _ from hs_) (by assumption)))) (fun k_ hk_ => (by revert hk_; simp only [and_imp]; intros; refine ⟨?_, ?_, ?_, ?_, ?_, ?_, ?_⟩ <;> assumption))); have n12_ := Aside0.mk (hb); clear BK923; clear BK924; clear HO931; clear HO936; clear HO939; clear HO944; clear BK945; clear HO950; clear BK951; clear HO954; clear HO960; clear HO966; clear HB; have BK923 := n0_; have BK924 := n1_; have HO931 := n2_; have HO936 := n3_; have HO939 := n4_; have HO944 := n5_; have BK945 := n6_; have HO950 := n7_; have BK951 := n8_; have HO954 := n9_; have HO960 := n10_; have HO966 := n11_; have HB := n12_; clear n0_ n1_ n2_ n3_ n4_ n5_ n6_ n7_ n8_ n9_ n10_ n11_ n12_; (try clear hb); (try clear hkp); (try clear hy0); have hcz78_0 : w77.cell? ⟨gb951, 0, none⟩ = some (.int .i64 t946) := (blk_cell BK951.out 0).trans rfl; have hcz78_1 : w77.cell? ⟨gb951, 1, none⟩ = some (.int .i64 t947) := (blk_cell BK951.out 1).trans rfl; have hcz78_2 : w77.cell? ⟨gb951, 2, none⟩ = some (.slice Ao63 t948.length co63) := (blk_cell BK951.out 2).trans rfl; have hfz78_0 := blk_frozen BK951.out 0; have hfz78_1 := blk_frozen BK951.out 1; have hfz78_2 := blk_frozen BK951.out 2) | ((with_reducible refine gate_callee (f := 50) rfl ?_); refine goesL_ (some 55) rfl rfl Try.func50 (by kernel_rfl) rfl #[.agg #[.int .i64 t946, .int .i64 t947, .slice Ao63 t948.length co63], .int .i64 t968] rfl (by (try simp only [List.map_toArray, List.map_cons, List.map_nil]); first | done | rfl | (simp only [List.length_drop, List.length_take]; rfl)) ?_; (with_reducible refine (laws_markPicture.calls k t946 t947 (fun k_ => some k_ = (.slice Ao63 t948.length co63 : Value).ownBlock) (.slice Ao63 t948.length co63) t948 t968 t970 t971 w _ ?side1 ?side2 A34.out).mono ?_); (case side1 => repeat (first | (with_reducible first | exact HB.out | apply below_alloc | apply pw_below_drewN | apply below_drew1 | refine below_set ?_ GE923.out | refine below_set ?_ GE924.out | refine below_set ?_ GE945.out | refine below_set ?_ GE951.out) | exact HB.out)); (case side2 => exact Kd.R_tight rfl HO950.out); rintro e w79 ⟨rfl, hy0, hb, hkp⟩; refine ⟨_, rfl, ?_⟩; have n0_ := Aside0.mk (blk_kept (by (with_reducible repeat (first | refine blk_drewN ?_ _ | refine blk_drew ?_ | refine blk_alloc ?_ _)); exact BK923.out) hkp (fun hs_ => (fun e_ => (Kd.R_ne HO950.out BK923.out (by decide)) e_) hs_)); have n1_ := Aside0.mk (blk_kept (by (with_reducible repeat (first | refine blk_drewN ?_ _ | refine blk_drew ?_ | refine blk_alloc ?_ _)); exact BK924.out) hkp (fun hs_ => (fun e_ => (Kd.R_ne HO950.out BK924.out (by decide)) e_) hs_)); have n2_ := Aside0.mk (Kd.R_mono (ok' := fun k_ => some k_ ≠ (.slice Ao47 t934.length co47 : Value).ownBlock ∧ some k_ ≠ (.slice Ao67 t937.length co67 : Value).ownBlock ∧ some k_ ≠ (.slice Ao55 t942.length co55 : Value).ownBlock ∧ some k_ ≠ (.slice Ao63 t948.length co63 : Value).ownBlock ∧ some k_ ≠ (.slice Ao66 t952.length co66 : Value).ownBlock ∧ some k_ ≠ (.slice Ao70 t958.length co70 : Value).ownBlock ∧ some k_ ≠ (.slice Ao74 t964.length co74 : Value).ownBlock) (Kd.R_keptB (HO931.out) hkp (fun k_ hk_ hs_ => (by revert hk_; simp only [and_imp]; intros; exact absurd (show some k_ = _ from hs_) (by assumption)))) (fun k_ hk_ => (by revert hk_; simp only [and_imp]; intros; refine ⟨?_, ?_, ?_, ?_, ?_, ?_, ?_⟩ <;> assumption))); have n3_ := Aside0.mk (Kd.R_mono (ok' := fun k_ => some k_ ≠ (.slice Ao46 t929.length co46 : Value).ownBlock ∧ some k_ ≠ (.slice Ao67 t937.length co67 : Value).ownBlock ∧ some k_ ≠ (.slice Ao55 t942.length co55 : Value).ownBlock ∧ some k_ ≠ (.slice Ao63 t948.length co63 : Value).ownBlock ∧ some k_ ≠ (.slice Ao66 t952.length co66 : Value).ownBlock ∧ some k_ ≠ (.slice Ao70 t958.length co70 : Value).ownBlock ∧ some k_ ≠ (.slice Ao74 t964.length co74 : Value).ownBlock) (Kd.R_keptB (HO936.out) hkp (fun k_ hk_ hs_ => (by revert hk_; simp only [and_imp]; intros; exact absurd (show some k_ = _ from hs_) (by assumption)))) (fun k_ hk_ => (by revert hk_; simp only [and_imp]; intros; refine ⟨?_, ?_, ?_, ?_, ?_, ?_, ?_⟩ <;> assumption))); have n4_ := Aside0.mk (Kd.R_mono (ok' := fun k_ => some k_ ≠ (.slice Ao46 t929.length co46 : Value).ownBlock ∧ some k_ ≠ (.slice Ao47 t934.length co47 : Value).ownBlock ∧ some k_ ≠ (.slice Ao55 t942.length co55 : Value).ownBlock ∧ some k_ ≠ (.slice Ao63 t948.length co63 : Value).ownBlock ∧ some k_ ≠ (.slice Ao66 t952.length co66 : Value).ownBlock ∧ some k_ ≠ (.slice Ao70 t958.length co70 : Value).ownBlock ∧ some k_ ≠ (.slice Ao74 t964.length co74 : Value).ownBlock) (Kd.R_keptB (HO939.out) hkp (fun k_ hk_ hs_ => (by revert hk_; simp only [and_imp]; intros; exact absurd (show some k_ = _ from hs_) (by assumption)))) (fun k_ hk_ => (by revert hk_; simp only [and_imp]; intros; refine ⟨?_, ?_, ?_, ?_, ?_, ?_, ?_⟩ <;> assumption))); have n5_ := Aside0.mk (Kd.R_mono (ok' := fun k_ => some k_ ≠ (.slice Ao46 t929.length co46 : Value).ownBlock ∧ some k_ ≠ (.slice Ao47 t934.length co47 : Value).ownBlock ∧ some k_ ≠ (.slice Ao67 t937.length co67 : Value).ownBlock ∧ some k_ ≠ (.slice Ao63 t948.length co63 : Value).ownBlock ∧ some k_ ≠ (.slice Ao66 t952.length co66 : Value).ownBlock ∧ some k_ ≠ (.slice Ao70 t958.length co70 : Value).ownBlock ∧ some k_ ≠ (.slice Ao74 t964.length co74 : Value).ownBlock) (Kd.R_keptB (HO944.out) hkp (fun k_ hk_ hs_ => (by revert hk_; simp only [and_imp]; intros; exact absurd (show some k_ = _ from hs_) (by assumption)))) (fun k_ hk_ => (by revert hk_; simp only [and_imp]; intros; refine ⟨?_, ?_, ?_, ?_, ?_, ?_, ?_⟩ <;> assumption))); have n6_ := Aside0.mk (blk_kept (by (with_reducible repeat (first | refine blk_drewN ?_ _ | refine blk_drew ?_ | refine blk_alloc ?_ _)); exact BK945.out) hkp (fun hs_ => (fun e_ => (Kd.R_ne HO950.out BK945.out (by decide)) e_) hs_)); have n7_ := Aside0.mk (Kd.R_reok rfl hy0 (fun k_ e_ => HO950.out.1 k_ e_)); have n8_ := Aside0.mk (blk_kept (by (with_reducible repeat (first | refine blk_drewN ?_ _ | refine blk_drew ?_ | refine blk_alloc ?_ _)); exact BK951.out) hkp (fun hs_ => (fun e_ => (Kd.R_ne HO950.out BK951.out (by decide)) e_) hs_)); have n9_ := Aside0.mk (Kd.R_mono (ok' := fun k_ => some k_ ≠ (.slice Ao46 t929.length co46 : Value).ownBlock ∧ some k_ ≠ (.slice Ao47 t934.length co47 : Value).ownBlock ∧ some k_ ≠ (.slice Ao67 t937.length co67 : Value).ownBlock ∧ some k_ ≠ (.slice Ao55 t942.length co55 : Value).ownBlock ∧ some k_ ≠ (.slice Ao63 t948.length co63 : Value).ownBlock ∧ some k_ ≠ (.slice Ao70 t958.length co70 : Value).ownBlock ∧ some k_ ≠ (.slice Ao74 t964.length co74 : Value).ownBlock) (Kd.R_keptB (HO954.out) hkp (fun k_ hk_ hs_ => (by revert hk_; simp only [and_imp]; intros; exact absurd (show some k_ = _ from hs_) (by assumption)))) (fun k_ hk_ => (by revert hk_; simp only [and_imp]; intros; refine ⟨?_, ?_, ?_, ?_, ?_, ?_, ?_⟩ <;> assumption))); have n10_ := Aside0.mk (Kd.R_mono (ok' := fun k_ => some k_ ≠ (.slice Ao46 t929.length co46 : Value).ownBlock ∧ some k_ ≠ (.slice Ao47 t934.length co47 : Value).ownBlock ∧ some k_ ≠ (.slice Ao67 t937.length co67 : Value).ownBlock ∧ some k_ ≠ (.slice Ao55 t942.length co55 : Value).ownBlock ∧ some k_ ≠ (.slice Ao63 t948.length co63 : Value).ownBlock ∧ some k_ ≠ (.slice Ao66 t952.length co66 : Value).ownBlock ∧ some k_ ≠ (.slice Ao74 t964.length co74 : Value).ownBlock) (Kd.R_keptB (HO960.out) hkp (fun k_ hk_ hs_ => (by revert hk_; simp only [and_imp]; intros; exact absurd (show some k_ = _ from hs_) (by assumption)))) (fun k_ hk_ => (by revert hk_; simp only [and_imp]; intros; refine ⟨?_, ?_, ?_, ?_, ?_, ?_, ?_⟩ <;> assumption))); have n11_ := Aside0.mk (Kd.R_mono (ok' := fun k_ => some k_ ≠ (.slice Ao46 t929.length co46 : Value).ownBlock ∧ some k_ ≠ (.slice Ao47 t934.length co47 : Value).ownBlock ∧ some k_ ≠ (.slice Ao67 t937.length co67 : Value).ownBlock ∧ some k_ ≠ (.slice Ao55 t942.length co55 : Value).ownBlock ∧ some k_ ≠ (.slice Ao63 t948.length co63 : Value).ownBlock ∧ some k_ ≠ (.slice Ao66 t952.length co66 : Value).ownBlock ∧ some k_ ≠ (.slice Ao70 t958.length co70 : Value).ownBlock) (Kd.R_keptB (HO966.out) hkp (fun k_ hk_ hs_ => (by revert hk_; simp only [and_imp]; intros; exact absurd (show some k_ = _ from hs_) (by assumption)))) (fun k_ hk_ => (by revert hk_; simp only [and_imp]; intros; refine ⟨?_, ?_, ?_, ?_, ?_, ?_, ?_⟩ <;> assumption))); have n12_ := Aside0.mk (hb); clear BK923; clear BK924; clear HO931; clear HO936; clear HO939; clear HO944; clear BK945; clear HO950; clear BK951; clear HO954; clear HO960; clear HO966; clear HB; have BK923 := n0_; have BK924 := n1_; have HO931 := n2_; have HO936 := n3_; have HO939 := n4_; have HO944 := n5_; have BK945 := n6_; have HO950 := n7_; have BK951 := n8_; have HO954 := n9_; have HO960 := n10_; have HO966 := n11_; have HB := n12_; clear n0_ n1_ n2_ n3_ n4_ n5_ n6_ n7_ n8_ n9_ n10_ n11_ n12_; (try clear hb); (try clear hkp); (try clear hy0)))
            (try simp only [Act.put, List.setIfInBounds_toArray, List.set_cons_zero, List.set_cons_succ])
            go_cut [63] (fun v63 wc => ∃ (kq : Nat) (x63_34 : Bool), v63 = .bool x63_34 ∧ Aside0 (laws_FnExactLevelsFor.j0 kq t937 t952 x63_34 a0_0 a0_1 l0_2 a1_0 a1_1 l1_2 = some r) ∧ Aside0 (kq ≤ k) ∧ Aside0 (Kd.R (Kd.int .i64) 3 wc w.heap.size (fun k_ => some k_ ≠ ((.slice Ao66 t952.length co66) : Value).ownBlock ∧ some k_ ≠ ((.slice Ao55 t942.length co55) : Value).ownBlock ∧ some k_ ≠ ((.slice Ao63 t948.length co63) : Value).ownBlock) (.slice Ao67 t937.length co67) t937) ∧ Aside0 (Kd.R (Kd.int .i64) 3 wc w.heap.size (fun k_ => some k_ ≠ ((.slice Ao67 t937.length co67) : Value).ownBlock ∧ some k_ ≠ ((.slice Ao55 t942.length co55) : Value).ownBlock ∧ some k_ ≠ ((.slice Ao63 t948.length co63) : Value).ownBlock) (.slice Ao66 t952.length co66) t952) ∧ Aside0 (Kd.R (Kd.int .i64) 3 wc w.heap.size (fun k_ => some k_ ≠ ((.slice Ao67 t937.length co67) : Value).ownBlock ∧ some k_ ≠ ((.slice Ao66 t952.length co66) : Value).ownBlock ∧ some k_ ≠ ((.slice Ao63 t948.length co63) : Value).ownBlock) (.slice Ao55 t942.length co55) t969) ∧ Aside0 (Kd.R (Kd.int .i64) 3 wc w.heap.size (fun k_ => some k_ ≠ ((.slice Ao67 t937.length co67) : Value).ownBlock ∧ some k_ ≠ ((.slice Ao66 t952.length co66) : Value).ownBlock ∧ some k_ ≠ ((.slice Ao55 t942.length co55) : Value).ownBlock) (.slice Ao63 t948.length co63) t971) ∧ Aside0 (wc.heap[gb923]? = some (.cells #[.int .i64 a0_0, .int .i64 a0_1, (.slice A0_2 l0_2.length c0_2)] 55 (0, 0))) ∧ Aside0 (wc.heap[gb924]? = some (.cells #[.int .i64 a1_0, .int .i64 a1_1, (.slice A1_2 l1_2.length c1_2)] 48 (0, 0))) ∧ Aside0 (wc.heap[gb945]? = some (.cells #[.int .i64 t940, .int .i64 t941, (.slice Ao55 t942.length co55)] 26 (0, 0))) ∧ Aside0 (wc.heap[gb951]? = some (.cells #[.int .i64 t946, .int .i64 t947, (.slice Ao63 t948.length co63)] 41 (0, 0))) ∧ Aside0 (Below w.heap.size w wc))
            case first =>
              have H := HC35.out
              clear HC35
              by_cases c80 : t970 < 0
              · rw [if_pos c80] at H
                have c80b0 : decide (t970 < 0) = true := decide_eq_true c80
                clear c80
                (first | rw [c80b0] | (simp only [i64_w, i32_w]; rw [c80b0]) | skip)
                have H' := Aside0.mk H
                clear H
                go_wp2
                go_meet
                case rel => exact ⟨_, (true), (by first | rfl | (simp; done) | (simp [*]; done)), H', ⟨by first | omega | exact Nat.le_refl _⟩, ⟨by (with_reducible repeat (first | apply Kd.R_alloc | apply Kd.R_drewN | apply Kd.R_drew)); exact Kd.R_mono HO939.out (fun _ hk => ⟨hk.2.2.2.2.1, ⟨hk.2.2.1, hk.2.2.2.1⟩⟩)⟩, ⟨by (with_reducible repeat (first | apply Kd.R_alloc | apply Kd.R_drewN | apply Kd.R_drew)); exact Kd.R_mono HO954.out (fun _ hk => ⟨hk.2.2.1, ⟨hk.2.2.2.1, hk.2.2.2.2.1⟩⟩)⟩, ⟨by (with_reducible repeat (first | apply Kd.R_alloc | apply Kd.R_drewN | apply Kd.R_drew)); exact Kd.R_mono HO944.out (fun _ hk => ⟨hk.2.2.1, ⟨hk.2.2.2.2.1, hk.2.2.2.1⟩⟩)⟩, ⟨by (with_reducible repeat (first | apply Kd.R_alloc | apply Kd.R_drewN | apply Kd.R_drew)); exact Kd.R_mono HO950.out (fun _ hk => ⟨hk.2.2.1, ⟨hk.2.2.2.2.1, hk.2.2.2.1⟩⟩)⟩, ⟨by (with_reducible repeat (first | refine blk_drewN ?_ _ | refine blk_drew ?_ | refine blk_alloc ?_ _)); exact BK923.out⟩, ⟨by (with_reducible repeat (first | refine blk_drewN ?_ _ | refine blk_drew ?_ | refine blk_alloc ?_ _)); exact BK924.out⟩, ⟨by (with_reducible repeat (first | refine blk_drewN ?_ _ | refine blk_drew ?_ | refine blk_alloc ?_ _)); exact BK945.out⟩, ⟨by (with_reducible repeat (first | refine blk_drewN ?_ _ | refine blk_drew ?_ | refine blk_alloc ?_ _)); exact BK951.out⟩, ⟨by repeat (first | (with_reducible first | exact HB.out | apply below_alloc | apply pw_below_drewN | apply below_drew1 | refine below_set ?_ GE923.out | refine below_set ?_ GE924.out | refine below_set ?_ GE945.out | refine below_set ?_ GE951.out) | exact HB.out)⟩⟩
              · rw [if_neg c80] at H
                have c80b0 : decide (t970 < 0) = false := decide_eq_false c80
                clear c80
                (first | rw [c80b0] | (simp only [i64_w, i32_w]; rw [c80b0]) | skip)
                replace H := Option.bind_eq_some_iff.mp H
                obtain ⟨t972, A810, H⟩ := H
                replace H : (laws_FnExactLevelsFor.j0 k t937 t952 (!t972) a0_0 a0_1 l0_2 a1_0 a1_1 l1_2) = some r := H
                have A81 := Aside0.mk A810
                clear A810
                have H' := Aside0.mk H
                clear H
                go_wp2_with (first | (go_at_call 53; (with_reducible refine (laws_eqIntS.calls k _ _ t952 _ _ t937 t972 _ ?side1 ?side2 ?side3 ?side4 A81.out).mono ?_); (case side1 => repeat (first | exact (Kd.R_reads' HO954.out).2.2 | (with_reducible refine Kd.C_alloc ?_ _) | (with_reducible refine Kd.C_drewN ?_ _) | (with_reducible refine Kd.C_drew ?_))); (case side2 => exact (Kd.R_reads' HO954.out).2.1); (case side3 => repeat (first | exact (Kd.R_reads' HO939.out).2.2 | (with_reducible refine Kd.C_alloc ?_ _) | (with_reducible refine Kd.C_drewN ?_ _) | (with_reducible refine Kd.C_drew ?_))); (case side4 => exact (Kd.R_reads' HO939.out).2.1); rintro e w' ⟨rfl, ⟨nd, rfl⟩⟩))
                go_meet
                case rel => exact ⟨_, (!t972), (by first | rfl | (simp; done) | (simp [*]; done)), H', ⟨by first | omega | exact Nat.le_refl _⟩, ⟨by (with_reducible repeat (first | apply Kd.R_alloc | apply Kd.R_drewN | apply Kd.R_drew)); exact Kd.R_mono HO939.out (fun _ hk => ⟨hk.2.2.2.2.1, ⟨hk.2.2.1, hk.2.2.2.1⟩⟩)⟩, ⟨by (with_reducible repeat (first | apply Kd.R_alloc | apply Kd.R_drewN | apply Kd.R_drew)); exact Kd.R_mono HO954.out (fun _ hk => ⟨hk.2.2.1, ⟨hk.2.2.2.1, hk.2.2.2.2.1⟩⟩)⟩, ⟨by (with_reducible repeat (first | apply Kd.R_alloc | apply Kd.R_drewN | apply Kd.R_drew)); exact Kd.R_mono HO944.out (fun _ hk => ⟨hk.2.2.1, ⟨hk.2.2.2.2.1, hk.2.2.2.1⟩⟩)⟩, ⟨by (with_reducible repeat (first | apply Kd.R_alloc | apply Kd.R_drewN | apply Kd.R_drew)); exact Kd.R_mono HO950.out (fun _ hk => ⟨hk.2.2.1, ⟨hk.2.2.2.2.1, hk.2.2.2.1⟩⟩)⟩, ⟨by (with_reducible repeat (first | refine blk_drewN ?_ _ | refine blk_drew ?_ | refine blk_alloc ?_ _)); exact BK923.out⟩, ⟨by (with_reducible repeat (first | refine blk_drewN ?_ _ | refine blk_drew ?_ | refine blk_alloc ?_ _)); exact BK924.out⟩, ⟨by (with_reducible repeat (first | refine blk_drewN ?_ _ | refine blk_drew ?_ | refine blk_alloc ?_ _)); exact BK945.out⟩, ⟨by (with_reducible repeat (first | refine blk_drewN ?_ _ | refine blk_drew ?_ | refine blk_alloc ?_ _)); exact BK951.out⟩, ⟨by repeat (first | (with_reducible first | exact HB.out | apply below_alloc | apply pw_below_drewN | apply below_drew1 | refine below_set ?_ GE923.out | refine below_set ?_ GE924.out | refine below_set ?_ GE945.out | refine below_set ?_ GE951.out) | exact HB.out)⟩⟩
            case rest =>
              clear HC35
              try clear c1
              try clear c2
              try clear p2
              try clear c3
              try clear c4
              try clear c5
              try clear c6
              try clear c8
              try clear c16
              try clear c29
              try clear c32
              try clear c34
              try clear c35
              try clear c38
              try clear c46
              try clear c48
              try clear c49
              try clear c50
              try clear c52
              try clear c53
              try clear c56
              try clear c58
              try clear c59
              try clear c60
              try clear c61
              try clear c62
              try clear c63
              try clear c80
              try clear c80b0
              try clear hcz39_0
              try clear hcz39_1
              try clear hcz39_2
              try clear hcz41_0
              try clear hcz41_1
              try clear hcz41_2
              try clear hcz49_0
              try clear hcz49_1
              try clear hcz49_2
              try clear hcz54_0
              try clear hcz54_1
              try clear hcz54_2
              try clear hcz56_0
              try clear hcz56_1
              try clear hcz56_2
              try clear hcz62_0
              try clear hcz62_1
              try clear hcz62_2
              try clear hcz64_0
              try clear hcz64_1
              try clear hcz64_2
              try clear hcz76_0
              try clear hcz76_1
              try clear hcz76_2
              try clear hcz78_0
              try clear hcz78_1
              try clear hcz78_2
              try clear hfz39_0
              try clear hfz39_1
              try clear hfz39_2
              try clear hfz41_0
              try clear hfz41_1
              try clear hfz41_2
              try clear hfz49_0
              try clear hfz49_1
              try clear hfz49_2
              try clear hfz54_0
              try clear hfz54_1
              try clear hfz54_2
              try clear hfz56_0
              try clear hfz56_1
              try clear hfz56_2
              try clear hfz62_0
              try clear hfz62_1
              try clear hfz62_2
              try clear hfz64_0
              try clear hfz64_1
              try clear hfz64_2
              try clear hfz76_0
              try clear hfz76_1
              try clear hfz76_2
              try clear hfz78_0
              try clear hfz78_1
              try clear hfz78_2
              obtain ⟨kq, x63_34, rfl, HA, HJ34, HO_6, HO_9, HO_946002, HO_952002, BK923, BK924, BK945, BK951, HB⟩ := hcut
              have hl946002_34 := (Kd.R_reads' HO_946002.out).1
              rw [hl946002_34] at HO_946002
              (try simp only [hl946002_34])
              (try simp only [hl946002_34] at BK923)
              (try simp only [hl946002_34] at BK924)
              (try simp only [hl946002_34] at BK945)
              (try simp only [hl946002_34] at BK951)
              (try simp only [hl946002_34] at HO_6)
              (try simp only [hl946002_34] at HO_9)
              (try simp only [hl946002_34] at HO_952002)
              have hl952002_34 := (Kd.R_reads' HO_952002.out).1
              rw [hl952002_34] at HO_952002
              (try simp only [hl952002_34])
              (try simp only [hl952002_34] at BK923)
              (try simp only [hl952002_34] at BK924)
              (try simp only [hl952002_34] at BK945)
              (try simp only [hl952002_34] at BK951)
              (try simp only [hl952002_34] at HO_6)
              (try simp only [hl952002_34] at HO_9)
              (try simp only [hl952002_34] at HO_946002)
              cases kq with
              | zero => exact absurd HA.out (by simp [laws_FnExactLevelsFor.j0])
              | succ kj34 =>
                have H := HA.out
                clear HA
                simp only [laws_FnExactLevelsFor.j0] at H
                by_cases c82 : x63_34 = true
                · subst c82
                  have H1 : (some false) = some r := by rw [if_pos rfl] at H; exact H
                  clear H
                  have H := H1
                  clear H1
                  exact absurd ((Option.some.inj H).trans hT.out) (by decide)
                · replace c82 := Bool.eq_false_iff.mpr c82
                  subst c82
                  have H1 : ((laws_markIntS.f kj34 t952 1).bind fun bt973 => ((laws_heldIntS.f kj34 bt973.2 1).bind fun t975 => (if t975 < 0 then (some false) else (if t975 = bt973.1 then ((laws_toMatrix.f kj34 a0_0 a0_1 l0_2).bind fun bt976 => ((laws_toPicture.f kj34 a1_0 a1_1 l1_2).bind fun bt981 => ((impl_LevelsFor.f kj34 bt976.1 bt976.2.1 bt976.2.2 bt981.1 bt981.2.1 bt981.2.2).bind fun t986 => ((laws_eqIntS.f kj34 t986 t937).bind fun t989 => (if t989 = true then ((laws_heldIntS.f kj34 bt973.2 1).bind fun t990 => (if t990 < 0 then (some false) else (if t990 = bt973.1 then (some true) else (some false)))) else (some false)))))) else (some false))))) = some r := by rw [if_neg (show ¬ (false = true) by decide)] at H; exact H
                  clear H
                  have H := H1
                  clear H1
                  replace H := Option.bind_eq_some_iff.mp H
                  obtain ⟨⟨t973, t974⟩, A830, H⟩ := H
                  replace H : ((laws_heldIntS.f kj34 t974 1).bind fun t975 => (if t975 < 0 then (some false) else (if t975 = t973 then ((laws_toMatrix.f kj34 a0_0 a0_1 l0_2).bind fun bt976 => ((laws_toPicture.f kj34 a1_0 a1_1 l1_2).bind fun bt981 => ((impl_LevelsFor.f kj34 bt976.1 bt976.2.1 bt976.2.2 bt981.1 bt981.2.1 bt981.2.2).bind fun t986 => ((laws_eqIntS.f kj34 t986 t937).bind fun t989 => (if t989 = true then ((laws_heldIntS.f kj34 t974 1).bind fun t990 => (if t990 < 0 then (some false) else (if t990 = t973 then (some true) else (some false)))) else (some false)))))) else (some false)))) = some r := H
                  have A83 := Aside0.mk A830
                  clear A830
                  replace H := Option.bind_eq_some_iff.mp H
                  obtain ⟨t975, A840, H⟩ := H
                  replace H : (if t975 < 0 then (some false) else (if t975 = t973 then ((laws_toMatrix.f kj34 a0_0 a0_1 l0_2).bind fun bt976 => ((laws_toPicture.f kj34 a1_0 a1_1 l1_2).bind fun bt981 => ((impl_LevelsFor.f kj34 bt976.1 bt976.2.1 bt976.2.2 bt981.1 bt981.2.1 bt981.2.2).bind fun t986 => ((laws_eqIntS.f kj34 t986 t937).bind fun t989 => (if t989 = true then ((laws_heldIntS.f kj34 t974 1).bind fun t990 => (if t990 < 0 then (some false) else (if t990 = t973 then (some true) else (some false)))) else (some false)))))) else (some false))) = some r := H
                  have A84 := Aside0.mk A840
                  clear A840
                  by_cases c85 : t975 < 0
                  · rw [if_pos c85] at H
                    have c85b0 : decide (t975 < 0) = true := decide_eq_true c85
                    clear c85
                    exact absurd ((Option.some.inj H).trans hT.out) (by decide)
                  · rw [if_neg c85] at H
                    have c85b0 : decide (t975 < 0) = false := decide_eq_false c85
                    clear c85
                    by_cases c86 : t975 = t973
                    · rw [if_pos c86] at H
                      have c86b0 : (t975 == t973) = true := beq_iff_eq.mpr c86
                      have c86b1 : (t975 != t973) = false := bne_eq_false_iff_eq.mpr c86
                      clear c86
                      replace H := Option.bind_eq_some_iff.mp H
                      obtain ⟨⟨t976, t977, t978⟩, A870, H⟩ := H
                      replace H : ((laws_toPicture.f kj34 a1_0 a1_1 l1_2).bind fun bt981 => ((impl_LevelsFor.f kj34 t976 t977 t978 bt981.1 bt981.2.1 bt981.2.2).bind fun t986 => ((laws_eqIntS.f kj34 t986 t937).bind fun t989 => (if t989 = true then ((laws_heldIntS.f kj34 t974 1).bind fun t990 => (if t990 < 0 then (some false) else (if t990 = t973 then (some true) else (some false)))) else (some false))))) = some r := H
                      have A87 := Aside0.mk A870
                      clear A870
                      replace H := Option.bind_eq_some_iff.mp H
                      obtain ⟨⟨t981, t982, t983⟩, A880, H⟩ := H
                      replace H : ((impl_LevelsFor.f kj34 t976 t977 t978 t981 t982 t983).bind fun t986 => ((laws_eqIntS.f kj34 t986 t937).bind fun t989 => (if t989 = true then ((laws_heldIntS.f kj34 t974 1).bind fun t990 => (if t990 < 0 then (some false) else (if t990 = t973 then (some true) else (some false)))) else (some false)))) = some r := H
                      have A88 := Aside0.mk A880
                      clear A880
                      replace H := Option.bind_eq_some_iff.mp H
                      obtain ⟨t986, A890, H⟩ := H
                      replace H : ((laws_eqIntS.f kj34 t986 t937).bind fun t989 => (if t989 = true then ((laws_heldIntS.f kj34 t974 1).bind fun t990 => (if t990 < 0 then (some false) else (if t990 = t973 then (some true) else (some false)))) else (some false))) = some r := H
                      have A89 := Aside0.mk A890
                      clear A890
                      replace H := Option.bind_eq_some_iff.mp H
                      obtain ⟨t989, A900, H⟩ := H
                      replace H : (if t989 = true then ((laws_heldIntS.f kj34 t974 1).bind fun t990 => (if t990 < 0 then (some false) else (if t990 = t973 then (some true) else (some false)))) else (some false)) = some r := H
                      have A90 := Aside0.mk A900
                      clear A900
                      by_cases c91 : t989 = true
                      · subst c91
                        have H1 : ((laws_heldIntS.f kj34 t974 1).bind fun t990 => (if t990 < 0 then (some false) else (if t990 = t973 then (some true) else (some false)))) = some r := by rw [if_pos rfl] at H; exact H
                        clear H
                        have H := H1
                        clear H1
                        replace H := Option.bind_eq_some_iff.mp H
                        obtain ⟨t990, A920, H⟩ := H
                        replace H : (if t990 < 0 then (some false) else (if t990 = t973 then (some true) else (some false))) = some r := H
                        have A92 := Aside0.mk A920
                        clear A920
                        by_cases c93 : t990 < 0
                        · rw [if_pos c93] at H
                          have c93b0 : decide (t990 < 0) = true := decide_eq_true c93
                          clear c93
                          exact absurd ((Option.some.inj H).trans hT.out) (by decide)
                        · rw [if_neg c93] at H
                          have c93b0 : decide (t990 < 0) = false := decide_eq_false c93
                          clear c93
                          by_cases c94 : t990 = t973
                          · rw [if_pos c94] at H
                            have c94b0 : (t990 == t973) = true := beq_iff_eq.mpr c94
                            have c94b1 : (t990 != t973) = false := bne_eq_false_iff_eq.mpr c94
                            clear c94
                            obtain rfl := Option.some.inj H
                            try go_wp2_with (first | ((with_reducible refine gate_callee (f := 54) rfl ?_); refine goesL_ (some 66) rfl rfl Try.func54 (by kernel_rfl) rfl #[.slice Ao66 t952.length co66, .int .i64 1] rfl (by (try simp only [List.map_toArray, List.map_cons, List.map_nil]); first | done | rfl | (simp only [List.length_drop, List.length_take]; rfl)) ?_; (with_reducible refine (laws_markIntS.calls kj34 (fun k_ => some k_ = (.slice Ao66 t952.length co66 : Value).ownBlock) (.slice Ao66 t952.length co66) t952 1 t973 t974 w _ ?side1 ?side2 A83.out).mono ?_); (case side1 => repeat (first | (with_reducible first | exact HB.out | apply below_alloc | apply pw_below_drewN | apply below_drew1 | refine below_set ?_ GE923.out | refine below_set ?_ GE924.out | refine below_set ?_ GE945.out | refine below_set ?_ GE951.out) | exact HB.out)); (case side2 => exact Kd.R_tight rfl HO_9.out); rintro e w95 ⟨rfl, hy0, hb, hkp⟩; refine ⟨_, rfl, ?_⟩; have n0_ := Aside0.mk (Kd.R_mono (ok' := fun k_ => some k_ ≠ (.slice Ao66 t952.length co66 : Value).ownBlock ∧ some k_ ≠ (.slice Ao55 t969.length co55 : Value).ownBlock ∧ some k_ ≠ (.slice Ao63 t971.length co63 : Value).ownBlock) (Kd.R_keptB (HO_6.out) hkp (fun k_ hk_ hs_ => (by revert hk_; simp only [and_imp]; intros; exact absurd (show some k_ = _ from hs_) (by assumption)))) (fun k_ hk_ => (by revert hk_; simp only [and_imp]; intros; refine ⟨?_, ?_, ?_⟩ <;> assumption))); have n1_ := Aside0.mk (Kd.R_reok rfl hy0 (fun k_ e_ => HO_9.out.1 k_ e_)); have n2_ := Aside0.mk (Kd.R_mono (ok' := fun k_ => some k_ ≠ (.slice Ao67 t937.length co67 : Value).ownBlock ∧ some k_ ≠ (.slice Ao66 t952.length co66 : Value).ownBlock ∧ some k_ ≠ (.slice Ao63 t971.length co63 : Value).ownBlock) (Kd.R_keptB (HO_946002.out) hkp (fun k_ hk_ hs_ => (by revert hk_; simp only [and_imp]; intros; exact absurd (show some k_ = _ from hs_) (by assumption)))) (fun k_ hk_ => (by revert hk_; simp only [and_imp]; intros; refine ⟨?_, ?_, ?_⟩ <;> assumption))); have n3_ := Aside0.mk (Kd.R_mono (ok' := fun k_ => some k_ ≠ (.slice Ao67 t937.length co67 : Value).ownBlock ∧ some k_ ≠ (.slice Ao66 t952.length co66 : Value).ownBlock ∧ some k_ ≠ (.slice Ao55 t969.length co55 : Value).ownBlock) (Kd.R_keptB (HO_952002.out) hkp (fun k_ hk_ hs_ => (by revert hk_; simp only [and_imp]; intros; exact absurd (show some k_ = _ from hs_) (by assumption)))) (fun k_ hk_ => (by revert hk_; simp only [and_imp]; intros; refine ⟨?_, ?_, ?_⟩ <;> assumption))); have n4_ := Aside0.mk (blk_kept (by (with_reducible repeat (first | refine blk_drewN ?_ _ | refine blk_drew ?_ | refine blk_alloc ?_ _)); exact BK923.out) hkp (fun hs_ => (fun e_ => (Kd.R_ne HO_9.out BK923.out (by decide)) e_) hs_)); have n5_ := Aside0.mk (blk_kept (by (with_reducible repeat (first | refine blk_drewN ?_ _ | refine blk_drew ?_ | refine blk_alloc ?_ _)); exact BK924.out) hkp (fun hs_ => (fun e_ => (Kd.R_ne HO_9.out BK924.out (by decide)) e_) hs_)); have n6_ := Aside0.mk (blk_kept (by (with_reducible repeat (first | refine blk_drewN ?_ _ | refine blk_drew ?_ | refine blk_alloc ?_ _)); exact BK945.out) hkp (fun hs_ => (fun e_ => (Kd.R_ne HO_9.out BK945.out (by decide)) e_) hs_)); have n7_ := Aside0.mk (blk_kept (by (with_reducible repeat (first | refine blk_drewN ?_ _ | refine blk_drew ?_ | refine blk_alloc ?_ _)); exact BK951.out) hkp (fun hs_ => (fun e_ => (Kd.R_ne HO_9.out BK951.out (by decide)) e_) hs_)); have n8_ := Aside0.mk (hb); clear HO_6; clear HO_9; clear HO_946002; clear HO_952002; clear BK923; clear BK924; clear BK945; clear BK951; clear HB; have HO_6 := n0_; have HO_9 := n1_; have HO_946002 := n2_; have HO_952002 := n3_; have BK923 := n4_; have BK924 := n5_; have BK945 := n6_; have BK951 := n7_; have HB := n8_; clear n0_ n1_ n2_ n3_ n4_ n5_ n6_ n7_ n8_; (try clear hb); (try clear hkp); (try clear hy0)) | ((with_reducible refine gate_callee (f := 55) rfl ?_); refine goesL_ (some 69) rfl rfl Try.func55 (by kernel_rfl) rfl #[.slice Ao66 t974.length co66, .int .i64 1] rfl (by (try simp only [List.map_toArray, List.map_cons, List.map_nil]); first | done | (rw [show t974.length = t952.length from (Kd.R_reads' HO_9.out).1.symm] <;> rfl) | rfl | (simp only [List.length_drop, List.length_take]; rfl)) ?_; (with_reducible refine (laws_heldIntS.calls kj34 _ _ t974 1 t975 _ ?side1 ?side2 A84.out).mono ?_); (case side1 => repeat (first | exact (Kd.R_reads' HO_9.out).2.2 | (with_reducible refine Kd.C_alloc ?_ _) | (with_reducible refine Kd.C_drewN ?_ _) | (with_reducible refine Kd.C_drew ?_))); (case side2 => rw [show t974.length = t952.length from (Kd.R_reads' HO_9.out).1.symm]; exact (Kd.R_reads' HO_9.out).2.1); rintro e w' ⟨rfl, ⟨nd, rfl⟩⟩; refine ⟨_, rfl, ?_⟩))
                            (try (rw [drewN_self w95]; generalize hq_ : World.drewN w95 _ = w95; have n0_ : Aside0 (Kd.R (Kd.int .i64) 3 w95 w.heap.size (fun k_ => some k_ ≠ (.slice Ao66 t952.length co66 : Value).ownBlock ∧ some k_ ≠ (.slice Ao55 t969.length co55 : Value).ownBlock ∧ some k_ ≠ (.slice Ao63 t971.length co63 : Value).ownBlock) (.slice Ao67 t937.length co67) t937) := ⟨by rw [← hq_]; exact (by (with_reducible repeat (first | apply Kd.R_alloc | apply Kd.R_drewN | apply Kd.R_drew)); exact HO_6.out)⟩; have n1_ : Aside0 (Kd.R (Kd.int .i64) 3 w95 w.heap.size (fun k_ => some k_ ≠ (.slice Ao67 t937.length co67 : Value).ownBlock ∧ some k_ ≠ (.slice Ao55 t969.length co55 : Value).ownBlock ∧ some k_ ≠ (.slice Ao63 t971.length co63 : Value).ownBlock) (.slice Ao66 t952.length co66) t974) := ⟨by rw [← hq_]; exact (by (with_reducible repeat (first | apply Kd.R_alloc | apply Kd.R_drewN | apply Kd.R_drew)); exact HO_9.out)⟩; have n2_ : Aside0 (Kd.R (Kd.int .i64) 3 w95 w.heap.size (fun k_ => some k_ ≠ (.slice Ao67 t937.length co67 : Value).ownBlock ∧ some k_ ≠ (.slice Ao66 t952.length co66 : Value).ownBlock ∧ some k_ ≠ (.slice Ao63 t971.length co63 : Value).ownBlock) (.slice Ao55 t969.length co55) t969) := ⟨by rw [← hq_]; exact (by (with_reducible repeat (first | apply Kd.R_alloc | apply Kd.R_drewN | apply Kd.R_drew)); exact HO_946002.out)⟩; have n3_ : Aside0 (Kd.R (Kd.int .i64) 3 w95 w.heap.size (fun k_ => some k_ ≠ (.slice Ao67 t937.length co67 : Value).ownBlock ∧ some k_ ≠ (.slice Ao66 t952.length co66 : Value).ownBlock ∧ some k_ ≠ (.slice Ao55 t969.length co55 : Value).ownBlock) (.slice Ao63 t971.length co63) t971) := ⟨by rw [← hq_]; exact (by (with_reducible repeat (first | apply Kd.R_alloc | apply Kd.R_drewN | apply Kd.R_drew)); exact HO_952002.out)⟩; have n4_ : Aside0 (w95.heap[gb923]? = some (.cells #[.int .i64 a0_0, .int .i64 a0_1, .slice A0_2 l0_2.length c0_2] 55 (0, 0))) := ⟨by rw [← hq_]; exact (by (with_reducible repeat (first | refine blk_drewN ?_ _ | refine blk_drew ?_ | refine blk_alloc ?_ _)); exact BK923.out)⟩; have n5_ : Aside0 (w95.heap[gb924]? = some (.cells #[.int .i64 a1_0, .int .i64 a1_1, .slice A1_2 l1_2.length c1_2] 48 (0, 0))) := ⟨by rw [← hq_]; exact (by (with_reducible repeat (first | refine blk_drewN ?_ _ | refine blk_drew ?_ | refine blk_alloc ?_ _)); exact BK924.out)⟩; have n6_ : Aside0 (w95.heap[gb945]? = some (.cells #[.int .i64 t940, .int .i64 t941, .slice Ao55 t969.length co55] 26 (0, 0))) := ⟨by rw [← hq_]; exact (by (with_reducible repeat (first | refine blk_drewN ?_ _ | refine blk_drew ?_ | refine blk_alloc ?_ _)); exact BK945.out)⟩; have n7_ : Aside0 (w95.heap[gb951]? = some (.cells #[.int .i64 t946, .int .i64 t947, .slice Ao63 t971.length co63] 41 (0, 0))) := ⟨by rw [← hq_]; exact (by (with_reducible repeat (first | refine blk_drewN ?_ _ | refine blk_drew ?_ | refine blk_alloc ?_ _)); exact BK951.out)⟩; have n8_ : Aside0 (Below w.heap.size w w95) := ⟨by rw [← hq_]; exact (by repeat (first | (with_reducible first | exact HB.out | apply below_alloc | apply pw_below_drewN | apply below_drew1 | refine below_set ?_ GE923.out | refine below_set ?_ GE924.out | refine below_set ?_ GE945.out | refine below_set ?_ GE951.out) | exact HB.out))⟩; clear HO_6 HO_9 HO_946002 HO_952002 BK923 BK924 BK945 BK951 HB hq_; have HO_6 := n0_; have HO_9 := n1_; have HO_946002 := n2_; have HO_952002 := n3_; have BK923 := n4_; have BK924 := n5_; have BK945 := n6_; have BK951 := n7_; have HB := n8_; clear n0_ n1_ n2_ n3_ n4_ n5_ n6_ n7_ n8_))
                            have n0_ := Aside0.mk (Kd.R_drew HO_6.out)
                            have n1_ := Aside0.mk (Kd.R_drew HO_9.out)
                            have n2_ := Aside0.mk (Kd.R_drew HO_946002.out)
                            have n3_ := Aside0.mk (Kd.R_drew HO_952002.out)
                            have n4_ := Aside0.mk (blk_drew BK923.out)
                            have n5_ := Aside0.mk (blk_drew BK924.out)
                            have n6_ := Aside0.mk (blk_drew BK945.out)
                            have n7_ := Aside0.mk (blk_drew BK951.out)
                            have n8_ := Aside0.mk (below_drew1 HB.out)
                            clear HO_6
                            clear HO_9
                            clear HO_946002
                            clear HO_952002
                            clear BK923
                            clear BK924
                            clear BK945
                            clear BK951
                            clear HB
                            have HO_6 := n0_
                            have HO_9 := n1_
                            have HO_946002 := n2_
                            have HO_952002 := n3_
                            have BK923 := n4_
                            have BK924 := n5_
                            have BK945 := n6_
                            have BK951 := n7_
                            have HB := n8_
                            clear n0_ n1_ n2_ n3_ n4_ n5_ n6_ n7_ n8_
                            refine start_ (n := 6) (S := fun w' => w'.cell? ⟨gb923, 0, none⟩ = some (.int .i64 a0_0) ∧ w'.cell? ⟨gb923, 1, none⟩ = some (.int .i64 a0_1) ∧ w'.cell? ⟨gb923, 2, none⟩ = some (.slice A0_2 l0_2.length c0_2) ∧ w'.cell? ⟨gb924, 0, none⟩ = some (.int .i64 a1_0) ∧ w'.cell? ⟨gb924, 1, none⟩ = some (.int .i64 a1_1) ∧ w'.cell? ⟨gb924, 2, none⟩ = some (.slice A1_2 l1_2.length c1_2)) (ds := []) #[false, false, false, false, false, false] (by kernel_rfl) rfl rfl ⟨(blk_cell BK923.out 0).trans rfl, (blk_cell BK923.out 1).trans rfl, (blk_cell BK923.out 2).trans rfl, (blk_cell BK924.out 0).trans rfl, (blk_cell BK924.out 1).trans rfl, (blk_cell BK924.out 2).trans rfl⟩ (fun hHeld => ?_)
                            generalize w95.drew = w96 at HO_6 HO_9 HO_946002 HO_952002 BK923 BK924 BK945 BK951 HB hHeld ⊢
                            refine take_ (i := 0) (N := some 75) (v := ?_) (a' := ?_) #[true, false, false, false, false, false] rfl rfl (by kernel_rfl) (fun _ _ _ h => h) (Or.inl ⟨by rfl, ?_⟩) hHeld ?_ ?_
                            rotate_left
                            · rintro w' ⟨s0, s1, s2, s3, s4, s5⟩
                              go_simp
                              with_reducible rfl
                            rotate_left
                            · simp only [Act.put, List.setIfInBounds_toArray, List.set_cons_zero, List.set_cons_succ, i64_w, i32_w]
                              rfl
                            refine take_ (i := 2) (N := some 77) (v := ?_) (a' := ?_) #[true, false, true, false, false, false] rfl rfl (by kernel_rfl) (fun _ _ _ h => h) (Or.inl ⟨by rfl, ?_⟩) hHeld ?_ ?_
                            rotate_left
                            · rintro w' ⟨s0, s1, s2, s3, s4, s5⟩
                              go_simp
                              with_reducible rfl
                            rotate_left
                            · simp only [Act.put, List.setIfInBounds_toArray, List.set_cons_zero, List.set_cons_succ, i64_w, i32_w]
                              rfl
                            refine one_ (i := 1) (N := some 76) #[true, true, true, false, false, false] rfl rfl (by kernel_rfl) (by decide) (fun K hK => ?_)
                            refine goes_ Try.func58 (by kernel_rfl) rfl #[.agg #[.int .i64 a0_0, .int .i64 a0_1, .slice A0_2 l0_2.length c0_2]] (by rfl) rfl rfl (by (try simp only [List.map_toArray, List.map_cons, List.map_nil]); first | done | rfl | (simp only [List.length_drop, List.length_take]; rfl)) ?_
                            with_reducible refine (laws_toMatrix.calls kj34 a0_0 a0_1 _ _ l0_2 t976 t977 t978 _ ?side1 ?side2 A87.out).mono ?_
                            (case side1 => repeat (first | exact (Kd.C_below HR0_2.out HB.out) | (with_reducible refine Kd.C_alloc ?_ _) | (with_reducible refine Kd.C_drewN ?_ _) | (with_reducible refine Kd.C_drew ?_)))
                            (case side2 => exact HC0_2.out)
                            rintro e w97 ⟨v979, rfl, ho0, hb⟩
                            refine ⟨_, rfl, ?_⟩
                            have n0_ := Aside0.mk (Kd.R_elder' (by (with_reducible repeat (first | apply Kd.R_alloc | apply Kd.R_drewN | apply Kd.R_drew)); exact HO_6.out) (Kd.R_base ho0) hb)
                            have n1_ := Aside0.mk (Kd.R_elder' (by (with_reducible repeat (first | apply Kd.R_alloc | apply Kd.R_drewN | apply Kd.R_drew)); exact HO_9.out) (Kd.R_base ho0) hb)
                            have n2_ := Aside0.mk (Kd.R_elder' (by (with_reducible repeat (first | apply Kd.R_alloc | apply Kd.R_drewN | apply Kd.R_drew)); exact HO_946002.out) (Kd.R_base ho0) hb)
                            have n3_ := Aside0.mk (Kd.R_elder' (by (with_reducible repeat (first | apply Kd.R_alloc | apply Kd.R_drewN | apply Kd.R_drew)); exact HO_952002.out) (Kd.R_base ho0) hb)
                            have n4_ := Aside0.mk (Kd.R_lower (Kd.R_new' (Kd.R_new' (Kd.R_new' (Kd.R_new' ho0 (Kd.R_lt (by (with_reducible repeat (first | apply Kd.R_alloc | apply Kd.R_drewN | apply Kd.R_drew)); exact HO_6.out))) (Kd.R_lt (by (with_reducible repeat (first | apply Kd.R_alloc | apply Kd.R_drewN | apply Kd.R_drew)); exact HO_9.out))) (Kd.R_lt (by (with_reducible repeat (first | apply Kd.R_alloc | apply Kd.R_drewN | apply Kd.R_drew)); exact HO_946002.out))) (Kd.R_lt (by (with_reducible repeat (first | apply Kd.R_alloc | apply Kd.R_drewN | apply Kd.R_drew)); exact HO_952002.out))) (below_size (by repeat (first | (with_reducible first | exact HB.out | apply below_alloc | apply pw_below_drewN | apply below_drew1 | refine below_set ?_ GE923.out | refine below_set ?_ GE924.out | refine below_set ?_ GE945.out | refine below_set ?_ GE951.out) | exact HB.out))))
                            have n5_ := Aside0.mk (blk_below (g := gb923) (o := .cells #[.int .i64 a0_0, .int .i64 a0_1, .slice A0_2 l0_2.length c0_2] 55 (0, 0)) (by (with_reducible repeat (first | refine blk_drewN ?_ _ | refine blk_drew ?_ | refine blk_alloc ?_ _)); exact BK923.out) hb)
                            have n6_ := Aside0.mk (blk_below (g := gb924) (o := .cells #[.int .i64 a1_0, .int .i64 a1_1, .slice A1_2 l1_2.length c1_2] 48 (0, 0)) (by (with_reducible repeat (first | refine blk_drewN ?_ _ | refine blk_drew ?_ | refine blk_alloc ?_ _)); exact BK924.out) hb)
                            have n7_ := Aside0.mk (blk_below (g := gb945) (o := .cells #[.int .i64 t940, .int .i64 t941, .slice Ao55 t969.length co55] 26 (0, 0)) (by (with_reducible repeat (first | refine blk_drewN ?_ _ | refine blk_drew ?_ | refine blk_alloc ?_ _)); exact BK945.out) hb)
                            have n8_ := Aside0.mk (blk_below (g := gb951) (o := .cells #[.int .i64 t946, .int .i64 t947, .slice Ao63 t971.length co63] 41 (0, 0)) (by (with_reducible repeat (first | refine blk_drewN ?_ _ | refine blk_drew ?_ | refine blk_alloc ?_ _)); exact BK951.out) hb)
                            have n9_ := Aside0.mk (below_step (by repeat (first | (with_reducible first | exact HB.out | apply below_alloc | apply pw_below_drewN | apply below_drew1 | refine below_set ?_ GE923.out | refine below_set ?_ GE924.out | refine below_set ?_ GE945.out | refine below_set ?_ GE951.out) | exact HB.out)) hb)
                            clear HO_6
                            clear HO_9
                            clear HO_946002
                            clear HO_952002
                            clear BK923
                            clear BK924
                            clear BK945
                            clear BK951
                            clear HB
                            have HO_6 := n0_
                            have HO_9 := n1_
                            have HO_946002 := n2_
                            have HO_952002 := n3_
                            have HO980 := n4_
                            have BK923 := n5_
                            have BK924 := n6_
                            have BK945 := n7_
                            have BK951 := n8_
                            have HB := n9_
                            clear n0_ n1_ n2_ n3_ n4_ n5_ n6_ n7_ n8_ n9_
                            (try clear hb)
                            (try clear hb2)
                            (try clear hk)
                            (try clear hi)
                            (try clear ho0)
                            refine hK.out _ _ ⟨(blk_cell BK923.out 0).trans rfl, (blk_cell BK923.out 1).trans rfl, (blk_cell BK923.out 2).trans rfl, (blk_cell BK924.out 0).trans rfl, (blk_cell BK924.out 1).trans rfl, (blk_cell BK924.out 2).trans rfl⟩ (fun hHeld => ?_)
                            clear hK K
                            refine norm_ (a' := ?_) ?_ ?_
                            rotate_left
                            · show Act.put _ (some 76) _ = _
                              simp only [Act.put, List.setIfInBounds_toArray, List.set_cons_zero, List.set_cons_succ, i64_w, i32_w]
                              rfl
                            refine one_ (i := 3) (N := some 78) #[true, true, true, true, false, false] rfl rfl (by kernel_rfl) (by decide) (fun K hK => ?_)
                            refine goes_ Try.func48 (by kernel_rfl) rfl #[.agg #[.int .i64 a1_0, .int .i64 a1_1, .slice A1_2 l1_2.length c1_2]] (by rfl) rfl rfl (by (try simp only [List.map_toArray, List.map_cons, List.map_nil]); first | done | rfl | (simp only [List.length_drop, List.length_take]; rfl)) ?_
                            with_reducible refine (laws_toPicture.calls kj34 a1_0 a1_1 _ _ l1_2 t981 t982 t983 _ ?side1 ?side2 A88.out).mono ?_
                            (case side1 => repeat (first | exact (Kd.C_below HR1_2.out HB.out) | (with_reducible refine Kd.C_alloc ?_ _) | (with_reducible refine Kd.C_drewN ?_ _) | (with_reducible refine Kd.C_drew ?_)))
                            (case side2 => exact HC1_2.out)
                            rintro e w98 ⟨v984, rfl, ho0, hb⟩
                            refine ⟨_, rfl, ?_⟩
                            have n0_ := Aside0.mk (Kd.R_elder' (by (with_reducible repeat (first | apply Kd.R_alloc | apply Kd.R_drewN | apply Kd.R_drew)); exact HO_6.out) (Kd.R_base ho0) hb)
                            have n1_ := Aside0.mk (Kd.R_elder' (by (with_reducible repeat (first | apply Kd.R_alloc | apply Kd.R_drewN | apply Kd.R_drew)); exact HO_9.out) (Kd.R_base ho0) hb)
                            have n2_ := Aside0.mk (Kd.R_elder' (by (with_reducible repeat (first | apply Kd.R_alloc | apply Kd.R_drewN | apply Kd.R_drew)); exact HO_946002.out) (Kd.R_base ho0) hb)
                            have n3_ := Aside0.mk (Kd.R_elder' (by (with_reducible repeat (first | apply Kd.R_alloc | apply Kd.R_drewN | apply Kd.R_drew)); exact HO_952002.out) (Kd.R_base ho0) hb)
                            have n4_ := Aside0.mk (Kd.R_elder' (by (with_reducible repeat (first | apply Kd.R_alloc | apply Kd.R_drewN | apply Kd.R_drew)); exact HO980.out) (Kd.R_base ho0) hb)
                            have n5_ := Aside0.mk (Kd.R_lower (Kd.R_new' (Kd.R_new' (Kd.R_new' (Kd.R_new' (Kd.R_new' ho0 (Kd.R_lt (by (with_reducible repeat (first | apply Kd.R_alloc | apply Kd.R_drewN | apply Kd.R_drew)); exact HO_6.out))) (Kd.R_lt (by (with_reducible repeat (first | apply Kd.R_alloc | apply Kd.R_drewN | apply Kd.R_drew)); exact HO_9.out))) (Kd.R_lt (by (with_reducible repeat (first | apply Kd.R_alloc | apply Kd.R_drewN | apply Kd.R_drew)); exact HO_946002.out))) (Kd.R_lt (by (with_reducible repeat (first | apply Kd.R_alloc | apply Kd.R_drewN | apply Kd.R_drew)); exact HO_952002.out))) (Kd.R_lt (by (with_reducible repeat (first | apply Kd.R_alloc | apply Kd.R_drewN | apply Kd.R_drew)); exact HO980.out))) (below_size (by repeat (first | (with_reducible first | exact HB.out | apply below_alloc | apply pw_below_drewN | apply below_drew1 | refine below_set ?_ GE923.out | refine below_set ?_ GE924.out | refine below_set ?_ GE945.out | refine below_set ?_ GE951.out) | exact HB.out))))
                            have n6_ := Aside0.mk (blk_below (g := gb923) (o := .cells #[.int .i64 a0_0, .int .i64 a0_1, .slice A0_2 l0_2.length c0_2] 55 (0, 0)) (by (with_reducible repeat (first | refine blk_drewN ?_ _ | refine blk_drew ?_ | refine blk_alloc ?_ _)); exact BK923.out) hb)
                            have n7_ := Aside0.mk (blk_below (g := gb924) (o := .cells #[.int .i64 a1_0, .int .i64 a1_1, .slice A1_2 l1_2.length c1_2] 48 (0, 0)) (by (with_reducible repeat (first | refine blk_drewN ?_ _ | refine blk_drew ?_ | refine blk_alloc ?_ _)); exact BK924.out) hb)
                            have n8_ := Aside0.mk (blk_below (g := gb945) (o := .cells #[.int .i64 t940, .int .i64 t941, .slice Ao55 t969.length co55] 26 (0, 0)) (by (with_reducible repeat (first | refine blk_drewN ?_ _ | refine blk_drew ?_ | refine blk_alloc ?_ _)); exact BK945.out) hb)
                            have n9_ := Aside0.mk (blk_below (g := gb951) (o := .cells #[.int .i64 t946, .int .i64 t947, .slice Ao63 t971.length co63] 41 (0, 0)) (by (with_reducible repeat (first | refine blk_drewN ?_ _ | refine blk_drew ?_ | refine blk_alloc ?_ _)); exact BK951.out) hb)
                            have n10_ := Aside0.mk (below_step (by repeat (first | (with_reducible first | exact HB.out | apply below_alloc | apply pw_below_drewN | apply below_drew1 | refine below_set ?_ GE923.out | refine below_set ?_ GE924.out | refine below_set ?_ GE945.out | refine below_set ?_ GE951.out) | exact HB.out)) hb)
                            clear HO_6
                            clear HO_9
                            clear HO_946002
                            clear HO_952002
                            clear HO980
                            clear BK923
                            clear BK924
                            clear BK945
                            clear BK951
                            clear HB
                            have HO_6 := n0_
                            have HO_9 := n1_
                            have HO_946002 := n2_
                            have HO_952002 := n3_
                            have HO980 := n4_
                            have HO985 := n5_
                            have BK923 := n6_
                            have BK924 := n7_
                            have BK945 := n8_
                            have BK951 := n9_
                            have HB := n10_
                            clear n0_ n1_ n2_ n3_ n4_ n5_ n6_ n7_ n8_ n9_ n10_
                            (try clear hb)
                            (try clear hb2)
                            (try clear hk)
                            (try clear hi)
                            (try clear ho0)
                            obtain ⟨Ao99, co99, eo99⟩ := Kd.R_slice HO980.out
                            (first | subst eo99 | (injection eo99 with f1_ f2_ f3_; have f4_ := f1_.symm; have f5_ := f3_.symm; clear f1_ f2_ f3_; subst f4_; subst f5_))
                            obtain ⟨Ao100, co100, eo100⟩ := Kd.R_slice HO985.out
                            (first | subst eo100 | (injection eo100 with f1_ f2_ f3_; have f4_ := f1_.symm; have f5_ := f3_.symm; clear f1_ f2_ f3_; subst f4_; subst f5_))
                            refine hK.out _ _ ⟨(blk_cell BK923.out 0).trans rfl, (blk_cell BK923.out 1).trans rfl, (blk_cell BK923.out 2).trans rfl, (blk_cell BK924.out 0).trans rfl, (blk_cell BK924.out 1).trans rfl, (blk_cell BK924.out 2).trans rfl⟩ (fun hHeld => ?_)
                            clear hK K
                            refine norm_ (a' := ?_) ?_ ?_
                            rotate_left
                            · show Act.put _ (some 78) _ = _
                              simp only [Act.put, List.setIfInBounds_toArray, List.set_cons_zero, List.set_cons_succ, i64_w, i32_w]
                              rfl
                            refine one_ (i := 4) (N := some 79) #[true, true, true, true, true, false] rfl rfl (by kernel_rfl) (by decide) (fun K hK => ?_)
                            refine goes_ Try.func63 (by kernel_rfl) rfl #[.agg #[.int .i64 t976, .int .i64 t977, .slice Ao99 t978.length co99], .agg #[.int .i64 t981, .int .i64 t982, .slice Ao100 t983.length co100]] (by rfl) rfl rfl (by (try simp only [List.map_toArray, List.map_cons, List.map_nil]); first | done | rfl | (simp only [List.length_drop, List.length_take]; rfl)) ?_
                            with_reducible refine (impl_LevelsFor.calls kj34 t976 t977 _ _ t978 t981 t982 _ _ t983 t986 _ ?side1 ?side2 ?side3 ?side4 A89.out).mono ?_
                            (case side1 => repeat (first | exact (Kd.R_reads' HO980.out).2.2 | (with_reducible refine Kd.C_alloc ?_ _) | (with_reducible refine Kd.C_drewN ?_ _) | (with_reducible refine Kd.C_drew ?_)))
                            (case side2 => exact (Kd.R_reads' HO980.out).2.1)
                            (case side3 => repeat (first | exact (Kd.R_reads' HO985.out).2.2 | (with_reducible refine Kd.C_alloc ?_ _) | (with_reducible refine Kd.C_drewN ?_ _) | (with_reducible refine Kd.C_drew ?_)))
                            (case side4 => exact (Kd.R_reads' HO985.out).2.1)
                            rintro e w101 ⟨v987, rfl, ho0, hb⟩
                            refine ⟨_, rfl, ?_⟩
                            have n0_ := Aside0.mk (Kd.R_elder' (by (with_reducible repeat (first | apply Kd.R_alloc | apply Kd.R_drewN | apply Kd.R_drew)); exact HO_6.out) (Kd.R_base ho0) hb)
                            have n1_ := Aside0.mk (Kd.R_elder' (by (with_reducible repeat (first | apply Kd.R_alloc | apply Kd.R_drewN | apply Kd.R_drew)); exact HO_9.out) (Kd.R_base ho0) hb)
                            have n2_ := Aside0.mk (Kd.R_elder' (by (with_reducible repeat (first | apply Kd.R_alloc | apply Kd.R_drewN | apply Kd.R_drew)); exact HO_946002.out) (Kd.R_base ho0) hb)
                            have n3_ := Aside0.mk (Kd.R_elder' (by (with_reducible repeat (first | apply Kd.R_alloc | apply Kd.R_drewN | apply Kd.R_drew)); exact HO_952002.out) (Kd.R_base ho0) hb)
                            have n4_ := Aside0.mk (Kd.R_elder' (by (with_reducible repeat (first | apply Kd.R_alloc | apply Kd.R_drewN | apply Kd.R_drew)); exact HO980.out) (Kd.R_base ho0) hb)
                            have n5_ := Aside0.mk (Kd.R_elder' (by (with_reducible repeat (first | apply Kd.R_alloc | apply Kd.R_drewN | apply Kd.R_drew)); exact HO985.out) (Kd.R_base ho0) hb)
                            have n6_ := Aside0.mk (Kd.R_lower (Kd.R_new' (Kd.R_new' (Kd.R_new' (Kd.R_new' (Kd.R_new' (Kd.R_new' ho0 (Kd.R_lt (by (with_reducible repeat (first | apply Kd.R_alloc | apply Kd.R_drewN | apply Kd.R_drew)); exact HO_6.out))) (Kd.R_lt (by (with_reducible repeat (first | apply Kd.R_alloc | apply Kd.R_drewN | apply Kd.R_drew)); exact HO_9.out))) (Kd.R_lt (by (with_reducible repeat (first | apply Kd.R_alloc | apply Kd.R_drewN | apply Kd.R_drew)); exact HO_946002.out))) (Kd.R_lt (by (with_reducible repeat (first | apply Kd.R_alloc | apply Kd.R_drewN | apply Kd.R_drew)); exact HO_952002.out))) (Kd.R_lt (by (with_reducible repeat (first | apply Kd.R_alloc | apply Kd.R_drewN | apply Kd.R_drew)); exact HO980.out))) (Kd.R_lt (by (with_reducible repeat (first | apply Kd.R_alloc | apply Kd.R_drewN | apply Kd.R_drew)); exact HO985.out))) (below_size (by repeat (first | (with_reducible first | exact HB.out | apply below_alloc | apply pw_below_drewN | apply below_drew1 | refine below_set ?_ GE923.out | refine below_set ?_ GE924.out | refine below_set ?_ GE945.out | refine below_set ?_ GE951.out) | exact HB.out))))
                            have n7_ := Aside0.mk (blk_below (g := gb923) (o := .cells #[.int .i64 a0_0, .int .i64 a0_1, .slice A0_2 l0_2.length c0_2] 55 (0, 0)) (by (with_reducible repeat (first | refine blk_drewN ?_ _ | refine blk_drew ?_ | refine blk_alloc ?_ _)); exact BK923.out) hb)
                            have n8_ := Aside0.mk (blk_below (g := gb924) (o := .cells #[.int .i64 a1_0, .int .i64 a1_1, .slice A1_2 l1_2.length c1_2] 48 (0, 0)) (by (with_reducible repeat (first | refine blk_drewN ?_ _ | refine blk_drew ?_ | refine blk_alloc ?_ _)); exact BK924.out) hb)
                            have n9_ := Aside0.mk (blk_below (g := gb945) (o := .cells #[.int .i64 t940, .int .i64 t941, .slice Ao55 t969.length co55] 26 (0, 0)) (by (with_reducible repeat (first | refine blk_drewN ?_ _ | refine blk_drew ?_ | refine blk_alloc ?_ _)); exact BK945.out) hb)
                            have n10_ := Aside0.mk (blk_below (g := gb951) (o := .cells #[.int .i64 t946, .int .i64 t947, .slice Ao63 t971.length co63] 41 (0, 0)) (by (with_reducible repeat (first | refine blk_drewN ?_ _ | refine blk_drew ?_ | refine blk_alloc ?_ _)); exact BK951.out) hb)
                            have n11_ := Aside0.mk (below_step (by repeat (first | (with_reducible first | exact HB.out | apply below_alloc | apply pw_below_drewN | apply below_drew1 | refine below_set ?_ GE923.out | refine below_set ?_ GE924.out | refine below_set ?_ GE945.out | refine below_set ?_ GE951.out) | exact HB.out)) hb)
                            clear HO_6
                            clear HO_9
                            clear HO_946002
                            clear HO_952002
                            clear HO980
                            clear HO985
                            clear BK923
                            clear BK924
                            clear BK945
                            clear BK951
                            clear HB
                            have HO_6 := n0_
                            have HO_9 := n1_
                            have HO_946002 := n2_
                            have HO_952002 := n3_
                            have HO980 := n4_
                            have HO985 := n5_
                            have HO988 := n6_
                            have BK923 := n7_
                            have BK924 := n8_
                            have BK945 := n9_
                            have BK951 := n10_
                            have HB := n11_
                            clear n0_ n1_ n2_ n3_ n4_ n5_ n6_ n7_ n8_ n9_ n10_ n11_
                            (try clear hb)
                            (try clear hb2)
                            (try clear hk)
                            (try clear hi)
                            (try clear ho0)
                            refine hK.out _ _ ⟨(blk_cell BK923.out 0).trans rfl, (blk_cell BK923.out 1).trans rfl, (blk_cell BK923.out 2).trans rfl, (blk_cell BK924.out 0).trans rfl, (blk_cell BK924.out 1).trans rfl, (blk_cell BK924.out 2).trans rfl⟩ (fun hHeld => ?_)
                            clear hK K
                            refine norm_ (a' := ?_) ?_ ?_
                            rotate_left
                            · show Act.put _ (some 79) _ = _
                              simp only [Act.put, List.setIfInBounds_toArray, List.set_cons_zero, List.set_cons_succ, i64_w, i32_w]
                              rfl
                            refine pure_ (i := 5) (N := some 13) (v := ?_) (a' := ?_) #[true, true, true, true, true, true] rfl rfl (by kernel_rfl) (fun _ _ _ h => h) (Or.inl ⟨by rfl, ?_⟩) ?_ ?_
                            rotate_left
                            · intro w'
                              go_simp
                              with_reducible rfl
                            rotate_left
                            · simp only [Act.put, List.setIfInBounds_toArray, List.set_cons_zero, List.set_cons_succ, i64_w, i32_w]
                              rfl
                            refine done_ (by kernel_rfl) ?_
                            obtain ⟨Ao102, co102, eo102⟩ := Kd.R_slice HO988.out
                            subst eo102
                            try go_wp2_with (first | ((with_reducible refine gate_callee (f := 53) rfl ?_); refine goesL_ (some 82) rfl rfl Try.func53 (by kernel_rfl) rfl #[.slice Ao102 t986.length co102, .slice Ao67 t937.length co67] rfl (by (try simp only [List.map_toArray, List.map_cons, List.map_nil]); first | done | rfl | (simp only [List.length_drop, List.length_take]; rfl)) ?_; (with_reducible refine (laws_eqIntS.calls kj34 _ _ t986 _ _ t937 true _ ?side1 ?side2 ?side3 ?side4 A90.out).mono ?_); (case side1 => repeat (first | exact (Kd.R_reads' HO988.out).2.2 | (with_reducible refine Kd.C_alloc ?_ _) | (with_reducible refine Kd.C_drewN ?_ _) | (with_reducible refine Kd.C_drew ?_))); (case side2 => exact (Kd.R_reads' HO988.out).2.1); (case side3 => repeat (first | exact (Kd.R_reads' HO_6.out).2.2 | (with_reducible refine Kd.C_alloc ?_ _) | (with_reducible refine Kd.C_drewN ?_ _) | (with_reducible refine Kd.C_drew ?_))); (case side4 => exact (Kd.R_reads' HO_6.out).2.1); rintro e w' ⟨rfl, ⟨nd, rfl⟩⟩; refine ⟨_, rfl, ?_⟩) | ((with_reducible refine gate_callee (f := 55) rfl ?_); refine goesL_ (some 86) rfl rfl Try.func55 (by kernel_rfl) rfl #[.slice Ao66 t974.length co66, .int .i64 1] rfl (by (try simp only [List.map_toArray, List.map_cons, List.map_nil]); first | done | (rw [show t974.length = t952.length from (Kd.R_reads' HO_9.out).1.symm] <;> rfl) | rfl | (simp only [List.length_drop, List.length_take]; rfl)) ?_; (with_reducible refine (laws_heldIntS.calls kj34 _ _ t974 1 t990 _ ?side1 ?side2 A92.out).mono ?_); (case side1 => repeat (first | exact (Kd.R_reads' HO_9.out).2.2 | (with_reducible refine Kd.C_alloc ?_ _) | (with_reducible refine Kd.C_drewN ?_ _) | (with_reducible refine Kd.C_drew ?_))); (case side2 => rw [show t974.length = t952.length from (Kd.R_reads' HO_9.out).1.symm]; exact (Kd.R_reads' HO_9.out).2.1); rintro e w' ⟨rfl, ⟨nd, rfl⟩⟩; refine ⟨_, rfl, ?_⟩))
                            go_ret
                            exact ⟨by first | rfl | (simp [errW_none, errW_some] <;> rfl) | (simp [*, errW_none, errW_some] <;> rfl), by repeat (first | (with_reducible first | exact HB.out | apply below_alloc | apply pw_below_drewN | apply below_drew1 | refine below_set ?_ GE923.out | refine below_set ?_ GE924.out | refine below_set ?_ GE945.out | refine below_set ?_ GE951.out) | exact HB.out)⟩
                          · rw [if_neg c94] at H
                            have c94b0 : (t990 == t973) = false := beq_eq_false_iff_ne.mpr c94
                            have c94b1 : (t990 != t973) = true := bne_iff_ne.mpr c94
                            exact absurd ((Option.some.inj H).trans hT.out) (by decide)
                      · replace c91 := Bool.eq_false_iff.mpr c91
                        subst c91
                        have H1 : (some false) = some r := by rw [if_neg (show ¬ (false = true) by decide)] at H; exact H
                        clear H
                        have H := H1
                        clear H1
                        exact absurd ((Option.some.inj H).trans hT.out) (by decide)
                    · rw [if_neg c86] at H
                      have c86b0 : (t975 == t973) = false := beq_eq_false_iff_ne.mpr c86
                      have c86b1 : (t975 != t973) = true := bne_iff_ne.mpr c86
                      exact absurd ((Option.some.inj H).trans hT.out) (by decide)
          · replace c32 := Bool.eq_false_iff.mpr c32
            subst c32
            have H1 : (some false) = some r := by rw [if_neg (show ¬ (false = true) by decide)] at H; exact H
            clear H
            have H := H1
            clear H1
            exact absurd ((Option.some.inj H).trans hT.out) (by decide)
        · replace c29 := Bool.eq_false_iff.mpr c29
          subst c29
          have H1 : (some false) = some r := by rw [if_neg (show ¬ (false = true) by decide)] at H; exact H
          clear H
          have H := H1
          clear H1
          exact absurd ((Option.some.inj H).trans hT.out) (by decide)
      · replace c26 := Bool.eq_false_iff.mpr c26
        subst c26
        have H1 : (some false) = some r := by rw [if_neg (show ¬ (false = true) by decide)] at H; exact H
        clear H
        have H := H1
        clear H1
        exact absurd ((Option.some.inj H).trans hT.out) (by decide)

end Go.Proofs.Ytdlehfnlibddcaa.P
