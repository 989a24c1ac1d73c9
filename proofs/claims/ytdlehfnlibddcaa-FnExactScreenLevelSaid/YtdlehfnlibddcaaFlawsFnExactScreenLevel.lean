-- Written by tools/seatprint.py (over the kit's print, changed in memory). Not trusted: Lean checks it.
import Derived.Test.YtdlehfnlibddcaaP0
import Derived.Test.YtdlehfnlibddcaaFlawseqMatrix
import Derived.Test.YtdlehfnlibddcaaFlawsmarkMatrix
import Derived.Test.YtdlehfnlibddcaaFimplScreenLevel
import Derived.Test.YtdlehfnlibddcaaFlawseqPicture
import Derived.Test.YtdlehfnlibddcaaFlawsmarkPicture
import Derived.Test.YtdlehfnlibddcaaFlawsheldPicture
import Derived.Test.YtdlehfnlibddcaaFlawsszMatrix
import Derived.Test.YtdlehfnlibddcaaFlawstoMatrix
import Derived.Test.YtdlehfnlibddcaaFspecScreenLevel
namespace Go.Proofs.Ytdlehfnlibddcaa.P
open Go.RowKit Go.Proofs.YtdlehfnlibddcaaW.PrintWords Go.Proofs.YtdlehfnlibddcaaW.PrintLast Go.Proofs.YtdlehfnlibddcaaW.PrintMore
attribute [local go_sem] max2_int min2_int max_two min_two max_three min_three max_four min_four   -- for this text's walks alone
set_option linter.unusedVariables false
set_option linter.unusedSimpArgs false

/-! ### laws_FnExactScreenLevel: function 14 -/
mutual
def laws_FnExactScreenLevel.j0 : Nat → Int → Int → Int → Bool → Bool → Bool → Int → Int → List Int → Int → Int → List Int → Int → Int → List Int → Int → Int → List Int → Option (Bool)
  | 0, _, _, _, _, _, _, _, _, _, _, _, _, _, _, _, _, _, _ => none
  | k + 1, x1, x2, x3, x11, x14, x52, x816000, x816001, x816002, x829000, x829001, x829002, x835000, x835001, x835002, x842000, x842001, x842002 => if x52 = true then (some false) else ((laws_toMatrix.f k x816000 x816001 x816002).bind fun bt843 => ((laws_eqMatrix.f k x835000 x835001 x835002 bt843.1 bt843.2.1 bt843.2.2).bind fun t848 => (if t848 = true then ((laws_markMatrix.f k x835000 x835001 x835002 1).bind fun bt849 => (if bt849.1 < 0 then (laws_FnExactScreenLevel.j1 k x1 x2 x3 x11 true x816000 x816001 x816002 x829000 x829001 x829002 x842000 x842001 x842002) else ((laws_eqPicture.f k x842000 x842001 x842002 x829000 x829001 x829002).bind fun t851 => (if t851 = true then (laws_FnExactScreenLevel.j1 k x1 x2 x3 x11 (x14 != x11) x816000 x816001 x816002 x829000 x829001 x829002 x842000 x842001 x842002) else (laws_FnExactScreenLevel.j1 k x1 x2 x3 x11 true x816000 x816001 x816002 x829000 x829001 x829002 x842000 x842001 x842002))))) else (some false))))
def laws_FnExactScreenLevel.j1 : Nat → Int → Int → Int → Bool → Bool → Int → Int → List Int → Int → Int → List Int → Int → Int → List Int → Option (Bool)
  | 0, _, _, _, _, _, _, _, _, _, _, _, _, _, _ => none
  | k + 1, x1, x2, x3, x11, x73, x816000, x816001, x816002, x829000, x829001, x829002, x842000, x842001, x842002 => if x73 = true then (some false) else ((laws_markPicture.f k x842000 x842001 x842002 1).bind fun bt852 => ((laws_heldPicture.f k x842000 x842001 bt852.2 1).bind fun t854 => (if t854 < 0 then (some false) else (if t854 = bt852.1 then ((laws_toMatrix.f k x816000 x816001 x816002).bind fun bt855 => ((impl_ScreenLevel.f bt855.1 bt855.2.1 bt855.2.2 x1 x2 x3).bind fun bt860 => ((laws_eqPicture.f k bt860.1 bt860.2.1 bt860.2.2.1 x829000 x829001 x829002).bind fun t867 => (if t867 = true then (laws_FnExactScreenLevel.j2 k bt852.1 (bt860.2.2.2 != x11) x842000 x842001 bt852.2) else (laws_FnExactScreenLevel.j2 k bt852.1 true x842000 x842001 bt852.2))))) else (some false)))))
def laws_FnExactScreenLevel.j2 : Nat → Int → Bool → Int → Int → List Int → Option (Bool)
  | 0, _, _, _, _, _ => none
  | k + 1, x16, x102, x842000, x842001, x842002 => if x102 = true then (some false) else ((laws_heldPicture.f k x842000 x842001 x842002 1).bind fun t868 => (if t868 < 0 then (some false) else (if t868 = x16 then (some true) else (some false))))
end
def laws_FnExactScreenLevel.f (k : Nat) (a0_0 : Int) (a0_1 : Int) (l0_2 : List Int) (a1 : Int) (a2 : Int) (a3 : Int) : Option (Bool) := (laws_szMatrix.f a0_0 a0_1 l0_2 1048576).bind fun t816 => (if t816 < 0 then (some true) else ((laws_toMatrix.f k a0_0 a0_1 l0_2).bind fun bt817 => ((spec_ScreenLevel.f k bt817.1 bt817.2.1 bt817.2.2 a1 a2 a3).bind fun bt822 => ((laws_toMatrix.f k a0_0 a0_1 l0_2).bind fun bt829 => ((impl_ScreenLevel.f bt829.1 bt829.2.1 bt829.2.2 a1 a2 a3).bind fun bt835 => ((laws_eqPicture.f k bt835.1 bt835.2.1 bt835.2.2.1 bt822.1 bt822.2.1 bt822.2.2.1).bind fun t842 => (if t842 = true then (laws_FnExactScreenLevel.j0 k a1 a2 a3 bt822.2.2.2 bt835.2.2.2 (bt835.2.2.2 != bt822.2.2.2) a0_0 a0_1 l0_2 bt822.1 bt822.2.1 bt822.2.2.1 bt829.1 bt829.2.1 bt829.2.2 bt835.1 bt835.2.1 bt835.2.2.1) else (laws_FnExactScreenLevel.j0 k a1 a2 a3 bt822.2.2.2 bt835.2.2.2 true a0_0 a0_1 l0_2 bt822.1 bt822.2.1 bt822.2.2.1 bt829.1 bt829.2.1 bt829.2.2 bt835.1 bt835.2.1 bt835.2.2.1))))))))
theorem laws_FnExactScreenLevel.mono_l : ∀ k, (∀ y0 y1 y2 y3 y4 y5 y6 y7 y8 y9 y10 y11 y12 y13 y14 y15 y16 y17, LeO (laws_FnExactScreenLevel.j0 k y0 y1 y2 y3 y4 y5 y6 y7 y8 y9 y10 y11 y12 y13 y14 y15 y16 y17) (laws_FnExactScreenLevel.j0 (k + 1) y0 y1 y2 y3 y4 y5 y6 y7 y8 y9 y10 y11 y12 y13 y14 y15 y16 y17)) ∧ (∀ y0 y1 y2 y3 y4 y5 y6 y7 y8 y9 y10 y11 y12 y13, LeO (laws_FnExactScreenLevel.j1 k y0 y1 y2 y3 y4 y5 y6 y7 y8 y9 y10 y11 y12 y13) (laws_FnExactScreenLevel.j1 (k + 1) y0 y1 y2 y3 y4 y5 y6 y7 y8 y9 y10 y11 y12 y13)) ∧ (∀ y0 y1 y2 y3 y4, LeO (laws_FnExactScreenLevel.j2 k y0 y1 y2 y3 y4) (laws_FnExactScreenLevel.j2 (k + 1) y0 y1 y2 y3 y4))
  | 0 => ⟨fun _ _ _ _ _ _ _ _ _ _ _ _ _ _ _ _ _ _ r h => by simp [laws_FnExactScreenLevel.j0] at h, fun _ _ _ _ _ _ _ _ _ _ _ _ _ _ r h => by simp [laws_FnExactScreenLevel.j1] at h, fun _ _ _ _ _ r h => by simp [laws_FnExactScreenLevel.j2] at h⟩
  | k + 1 => by
    obtain ⟨ih0, ih1, ih2⟩ := laws_FnExactScreenLevel.mono_l k
    refine ⟨?_, ?_, ?_⟩
    · intro y0 y1 y2 y3 y4 y5 y6 y7 y8 y9 y10 y11 y12 y13 y14 y15 y16 y17
      unfold laws_FnExactScreenLevel.j0
      repeat' first
      | (with_reducible exact ih0 _ _ _ _ _ _ _ _ _ _ _ _ _ _ _ _ _ _)
      | (with_reducible exact ih1 _ _ _ _ _ _ _ _ _ _ _ _ _ _)
      | (with_reducible exact ih2 _ _ _ _ _)
      | (with_reducible exact laws_eqMatrix.mono _ _ _ _ _ _ _)
      | (with_reducible exact laws_eqPicture.mono _ _ _ _ _ _ _)
      | (with_reducible exact laws_heldPicture.mono _ _ _ _ _)
      | (with_reducible exact laws_markMatrix.mono _ _ _ _ _)
      | (with_reducible exact laws_markPicture.mono _ _ _ _ _)
      | (with_reducible exact laws_toMatrix.mono _ _ _ _)
      | (with_reducible exact spec_ScreenLevel.mono _ _ _ _ _ _ _)
      | (with_reducible exact LeO.refl _)
      | (with_reducible exact LeO.none _)
      | (with_reducible refine LeO.ite ?_ ?_)
      | (with_reducible refine LeO.bind ?_ (fun _ => ?_))
      | exact ih0 _ _ _ _ _ _ _ _ _ _ _ _ _ _ _ _ _ _
      | exact ih1 _ _ _ _ _ _ _ _ _ _ _ _ _ _
      | exact ih2 _ _ _ _ _
      | exact laws_eqMatrix.mono _ _ _ _ _ _ _
      | exact laws_eqPicture.mono _ _ _ _ _ _ _
      | exact laws_heldPicture.mono _ _ _ _ _
      | exact laws_markMatrix.mono _ _ _ _ _
      | exact laws_markPicture.mono _ _ _ _ _
      | exact laws_toMatrix.mono _ _ _ _
      | exact spec_ScreenLevel.mono _ _ _ _ _ _ _
      | exact LeO.none _
      | refine LeO.ite ?_ ?_
      | refine LeO.bind ?_ (fun _ => ?_)
    · intro y0 y1 y2 y3 y4 y5 y6 y7 y8 y9 y10 y11 y12 y13
      unfold laws_FnExactScreenLevel.j1
      repeat' first
      | (with_reducible exact ih0 _ _ _ _ _ _ _ _ _ _ _ _ _ _ _ _ _ _)
      | (with_reducible exact ih1 _ _ _ _ _ _ _ _ _ _ _ _ _ _)
      | (with_reducible exact ih2 _ _ _ _ _)
      | (with_reducible exact laws_eqMatrix.mono _ _ _ _ _ _ _)
      | (with_reducible exact laws_eqPicture.mono _ _ _ _ _ _ _)
      | (with_reducible exact laws_heldPicture.mono _ _ _ _ _)
      | (with_reducible exact laws_markMatrix.mono _ _ _ _ _)
      | (with_reducible exact laws_markPicture.mono _ _ _ _ _)
      | (with_reducible exact laws_toMatrix.mono _ _ _ _)
      | (with_reducible exact spec_ScreenLevel.mono _ _ _ _ _ _ _)
      | (with_reducible exact LeO.refl _)
      | (with_reducible exact LeO.none _)
      | (with_reducible refine LeO.ite ?_ ?_)
      | (with_reducible refine LeO.bind ?_ (fun _ => ?_))
      | exact ih0 _ _ _ _ _ _ _ _ _ _ _ _ _ _ _ _ _ _
      | exact ih1 _ _ _ _ _ _ _ _ _ _ _ _ _ _
      | exact ih2 _ _ _ _ _
      | exact laws_eqMatrix.mono _ _ _ _ _ _ _
      | exact laws_eqPicture.mono _ _ _ _ _ _ _
      | exact laws_heldPicture.mono _ _ _ _ _
      | exact laws_markMatrix.mono _ _ _ _ _
      | exact laws_markPicture.mono _ _ _ _ _
      | exact laws_toMatrix.mono _ _ _ _
      | exact spec_ScreenLevel.mono _ _ _ _ _ _ _
      | exact LeO.none _
      | refine LeO.ite ?_ ?_
      | refine LeO.bind ?_ (fun _ => ?_)
    · intro y0 y1 y2 y3 y4
      unfold laws_FnExactScreenLevel.j2
      repeat' first
      | (with_reducible exact ih0 _ _ _ _ _ _ _ _ _ _ _ _ _ _ _ _ _ _)
      | (with_reducible exact ih1 _ _ _ _ _ _ _ _ _ _ _ _ _ _)
      | (with_reducible exact ih2 _ _ _ _ _)
      | (with_reducible exact laws_eqMatrix.mono _ _ _ _ _ _ _)
      | (with_reducible exact laws_eqPicture.mono _ _ _ _ _ _ _)
      | (with_reducible exact laws_heldPicture.mono _ _ _ _ _)
      | (with_reducible exact laws_markMatrix.mono _ _ _ _ _)
      | (with_reducible exact laws_markPicture.mono _ _ _ _ _)
      | (with_reducible exact laws_toMatrix.mono _ _ _ _)
      | (with_reducible exact spec_ScreenLevel.mono _ _ _ _ _ _ _)
      | (with_reducible exact LeO.refl _)
      | (with_reducible exact LeO.none _)
      | (with_reducible refine LeO.ite ?_ ?_)
      | (with_reducible refine LeO.bind ?_ (fun _ => ?_))
      | exact ih0 _ _ _ _ _ _ _ _ _ _ _ _ _ _ _ _ _ _
      | exact ih1 _ _ _ _ _ _ _ _ _ _ _ _ _ _
      | exact ih2 _ _ _ _ _
      | exact laws_eqMatrix.mono _ _ _ _ _ _ _
      | exact laws_eqPicture.mono _ _ _ _ _ _ _
      | exact laws_heldPicture.mono _ _ _ _ _
      | exact laws_markMatrix.mono _ _ _ _ _
      | exact laws_markPicture.mono _ _ _ _ _
      | exact laws_toMatrix.mono _ _ _ _
      | exact spec_ScreenLevel.mono _ _ _ _ _ _ _
      | exact LeO.none _
      | refine LeO.ite ?_ ?_
      | refine LeO.bind ?_ (fun _ => ?_)
theorem laws_FnExactScreenLevel.mono : ∀ a0 a1 a2 a3 a4 a5 k, LeO (laws_FnExactScreenLevel.f k a0 a1 a2 a3 a4 a5) (laws_FnExactScreenLevel.f (k + 1) a0 a1 a2 a3 a4 a5) := by
  intro a0 a1 a2 a3 a4 a5 k
  obtain ⟨ih0, ih1, ih2⟩ := laws_FnExactScreenLevel.mono_l k
  unfold laws_FnExactScreenLevel.f
  repeat' first
      | (with_reducible exact ih0 _ _ _ _ _ _ _ _ _ _ _ _ _ _ _ _ _ _)
      | (with_reducible exact ih1 _ _ _ _ _ _ _ _ _ _ _ _ _ _)
      | (with_reducible exact ih2 _ _ _ _ _)
      | (with_reducible exact laws_eqMatrix.mono _ _ _ _ _ _ _)
      | (with_reducible exact laws_eqPicture.mono _ _ _ _ _ _ _)
      | (with_reducible exact laws_heldPicture.mono _ _ _ _ _)
      | (with_reducible exact laws_markMatrix.mono _ _ _ _ _)
      | (with_reducible exact laws_markPicture.mono _ _ _ _ _)
      | (with_reducible exact laws_toMatrix.mono _ _ _ _)
      | (with_reducible exact spec_ScreenLevel.mono _ _ _ _ _ _ _)
      | (with_reducible exact LeO.refl _)
      | (with_reducible exact LeO.none _)
      | (with_reducible refine LeO.ite ?_ ?_)
      | (with_reducible refine LeO.bind ?_ (fun _ => ?_))
      | exact ih0 _ _ _ _ _ _ _ _ _ _ _ _ _ _ _ _ _ _
      | exact ih1 _ _ _ _ _ _ _ _ _ _ _ _ _ _
      | exact ih2 _ _ _ _ _
      | exact laws_eqMatrix.mono _ _ _ _ _ _ _
      | exact laws_eqPicture.mono _ _ _ _ _ _ _
      | exact laws_heldPicture.mono _ _ _ _ _
      | exact laws_markMatrix.mono _ _ _ _ _
      | exact laws_markPicture.mono _ _ _ _ _
      | exact laws_toMatrix.mono _ _ _ _
      | exact spec_ScreenLevel.mono _ _ _ _ _ _ _
      | exact LeO.none _
      | refine LeO.ite ?_ ?_
      | refine LeO.bind ?_ (fun _ => ?_)
set_option maxHeartbeats 8000000 in
set_option maxRecDepth 100000 in
theorem laws_FnExactScreenLevel.calls (k : Nat) (a0_0 : Int) (a0_1 : Int) (A0_2 : Option Addr) (c0_2 : Nat) (l0_2 : List Int) (a1 : Int) (a2 : Int) (a3 : Int) (r : Bool) (w : World) (hr0_2 : Kd.C (Kd.int .i64) w A0_2 l0_2.length l0_2) (hc0_2 : l0_2.length ≤ c0_2) (hT : Aside0 (r = true)) (h : laws_FnExactScreenLevel.f k a0_0 a0_1 l0_2 a1 a2 a3 = some r) :
    Calls Try.prog 14 #[.agg #[.int .i64 a0_0, .int .i64 a0_1, .slice A0_2 l0_2.length c0_2], .int .i64 a1, .int .i64 a2, .int .i64 a3] w fun e w' => e = .returned (.bool r) ∧ Below w.heap.size w w' := by
  have hu55 := Try.underlying55
  have hu41 := Try.underlying41
  have hu26 := Try.underlying26
  have HR0_2 := Aside0.mk hr0_2
  have HC0_2 := Aside0.mk hc0_2
  clear hr0_2 hc0_2
  have HB := Aside0.mk (Below.refl w.heap.size w)
  have H : ((laws_szMatrix.f a0_0 a0_1 l0_2 1048576).bind fun t816 => (if t816 < 0 then (some true) else ((laws_toMatrix.f k a0_0 a0_1 l0_2).bind fun bt817 => ((spec_ScreenLevel.f k bt817.1 bt817.2.1 bt817.2.2 a1 a2 a3).bind fun bt822 => ((laws_toMatrix.f k a0_0 a0_1 l0_2).bind fun bt829 => ((impl_ScreenLevel.f bt829.1 bt829.2.1 bt829.2.2 a1 a2 a3).bind fun bt835 => ((laws_eqPicture.f k bt835.1 bt835.2.1 bt835.2.2.1 bt822.1 bt822.2.1 bt822.2.2.1).bind fun t842 => (if t842 = true then (laws_FnExactScreenLevel.j0 k a1 a2 a3 bt822.2.2.2 bt835.2.2.2 (bt835.2.2.2 != bt822.2.2.2) a0_0 a0_1 l0_2 bt822.1 bt822.2.1 bt822.2.2.1 bt829.1 bt829.2.1 bt829.2.2 bt835.1 bt835.2.1 bt835.2.2.1) else (laws_FnExactScreenLevel.j0 k a1 a2 a3 bt822.2.2.2 bt835.2.2.2 true a0_0 a0_1 l0_2 bt822.1 bt822.2.1 bt822.2.2.1 bt829.1 bt829.2.1 bt829.2.2 bt835.1 bt835.2.1 bt835.2.2.1))))))))) = some r := h
  clear h
  replace H := Option.bind_eq_some_iff.mp H
  obtain ⟨t816, A50, H⟩ := H
  replace H : (if t816 < 0 then (some true) else ((laws_toMatrix.f k a0_0 a0_1 l0_2).bind fun bt817 => ((spec_ScreenLevel.f k bt817.1 bt817.2.1 bt817.2.2 a1 a2 a3).bind fun bt822 => ((laws_toMatrix.f k a0_0 a0_1 l0_2).bind fun bt829 => ((impl_ScreenLevel.f bt829.1 bt829.2.1 bt829.2.2 a1 a2 a3).bind fun bt835 => ((laws_eqPicture.f k bt835.1 bt835.2.1 bt835.2.2.1 bt822.1 bt822.2.1 bt822.2.2.1).bind fun t842 => (if t842 = true then (laws_FnExactScreenLevel.j0 k a1 a2 a3 bt822.2.2.2 bt835.2.2.2 (bt835.2.2.2 != bt822.2.2.2) a0_0 a0_1 l0_2 bt822.1 bt822.2.1 bt822.2.2.1 bt829.1 bt829.2.1 bt829.2.2 bt835.1 bt835.2.1 bt835.2.2.1) else (laws_FnExactScreenLevel.j0 k a1 a2 a3 bt822.2.2.2 bt835.2.2.2 true a0_0 a0_1 l0_2 bt822.1 bt822.2.1 bt822.2.2.1 bt829.1 bt829.2.1 bt829.2.2 bt835.1 bt835.2.1 bt835.2.2.1)))))))) = some r := H
  have A5 := Aside0.mk A50
  clear A50
  by_cases c6 : t816 < 0
  · rw [if_pos c6] at H
    have c6b0 : decide (t816 < 0) = true := decide_eq_true c6
    clear c6
    obtain rfl := Option.some.inj H
    go_enter Try.func14, Try.ntmps14
    go_wp2_with (first | ((with_reducible refine gate_dst (N := 4) rfl ?_); refine box_event ?hg (N := 4) ?hd (cs := #[.int .i64 a0_0, .int .i64 a0_1, .slice A0_2 l0_2.length c0_2]) (t := 55) ?hr ?_; (case hd => rfl); (case hg => rfl); (case hr => first | (go_simp; done) | (go_simp; rfl)); intro gb815 hg w7 hbox hb; have n0_ := Aside0.mk (below_step (by repeat (first | (with_reducible first | exact HB.out | apply below_alloc | apply pw_below_drewN | apply below_drew1) | exact HB.out)) hb); have n1_ := Aside0.mk (hbox); have n2_ := Aside0.mk ((by rw [hg]; exact (below_size (by repeat (first | (with_reducible first | exact HB.out | apply below_alloc | apply pw_below_drewN | apply below_drew1) | exact HB.out))) : w.heap.size ≤ gb815)); have n3_ := Aside0.mk ((by rw [hg]; exact (below_size (by repeat (first | (with_reducible first | exact HB.out | apply below_alloc | apply pw_below_drewN | apply below_drew1) | exact HB.out))) : w.heap.size ≤ gb815)); clear HB; have HB := n0_; have BK815 := n1_; have GW815 := n2_; have GE815 := n3_; clear n0_ n1_ n2_ n3_; clear hb hbox hg; have hcz8_0 : w7.cell? ⟨gb815, 0, none⟩ = some (.int .i64 a0_0) := (blk_cell BK815.out 0).trans rfl; have hcz8_1 : w7.cell? ⟨gb815, 1, none⟩ = some (.int .i64 a0_1) := (blk_cell BK815.out 1).trans rfl; have hcz8_2 : w7.cell? ⟨gb815, 2, none⟩ = some (.slice A0_2 l0_2.length c0_2) := (blk_cell BK815.out 2).trans rfl; have hfz8_0 := blk_frozen BK815.out 0; have hfz8_1 := blk_frozen BK815.out 1; have hfz8_2 := blk_frozen BK815.out 2) | ((with_reducible refine gate_callee (f := 56) rfl ?_); refine goesL_ (some 22) rfl rfl Try.func56 (by kernel_rfl) rfl #[.agg #[.int .i64 a0_0, .int .i64 a0_1, .slice A0_2 l0_2.length c0_2], .int .i64 1048576] rfl (by (try simp only [List.map_toArray, List.map_cons, List.map_nil]); first | done | rfl | (simp only [List.length_drop, List.length_take]; rfl)) ?_; (with_reducible refine (laws_szMatrix.calls a0_0 a0_1 _ _ l0_2 1048576 t816 _ ?side1 ?side2 A5.out).mono ?_); (case side1 => repeat (first | exact (Kd.C_below HR0_2.out HB.out) | (with_reducible refine Kd.C_alloc ?_ _) | (with_reducible refine Kd.C_drewN ?_ _) | (with_reducible refine Kd.C_drew ?_))); (case side2 => exact HC0_2.out); rintro e w9 ⟨rfl, hb⟩; refine ⟨_, rfl, ?_⟩; have n0_ := Aside0.mk (blk_below (g := gb815) (o := .cells #[.int .i64 a0_0, .int .i64 a0_1, .slice A0_2 l0_2.length c0_2] 55 (0, 0)) (by (with_reducible repeat (first | refine blk_drewN ?_ _ | refine blk_drew ?_ | refine blk_alloc ?_ _)); exact BK815.out) hb); have n1_ := Aside0.mk (below_step (by repeat (first | (with_reducible first | exact HB.out | apply below_alloc | apply pw_below_drewN | apply below_drew1 | refine below_set ?_ GE815.out) | exact HB.out)) hb); clear BK815; clear HB; have BK815 := n0_; have HB := n1_; clear n0_ n1_; (try clear hb); (try clear hb2); (try clear hk); (try clear hi)))
    go_ret
    exact ⟨by first | rfl | (simp [errW_none, errW_some] <;> rfl) | (simp [*, errW_none, errW_some] <;> rfl), by repeat (first | (with_reducible first | exact HB.out | apply below_alloc | apply pw_below_drewN | apply below_drew1 | refine below_set ?_ GE815.out) | exact HB.out)⟩
  · rw [if_neg c6] at H
    have c6b0 : decide (t816 < 0) = false := decide_eq_false c6
    clear c6
    replace H := Option.bind_eq_some_iff.mp H
    obtain ⟨⟨t817, t818, t819⟩, A100, H⟩ := H
    replace H : ((spec_ScreenLevel.f k t817 t818 t819 a1 a2 a3).bind fun bt822 => ((laws_toMatrix.f k a0_0 a0_1 l0_2).bind fun bt829 => ((impl_ScreenLevel.f bt829.1 bt829.2.1 bt829.2.2 a1 a2 a3).bind fun bt835 => ((laws_eqPicture.f k bt835.1 bt835.2.1 bt835.2.2.1 bt822.1 bt822.2.1 bt822.2.2.1).bind fun t842 => (if t842 = true then (laws_FnExactScreenLevel.j0 k a1 a2 a3 bt822.2.2.2 bt835.2.2.2 (bt835.2.2.2 != bt822.2.2.2) a0_0 a0_1 l0_2 bt822.1 bt822.2.1 bt822.2.2.1 bt829.1 bt829.2.1 bt829.2.2 bt835.1 bt835.2.1 bt835.2.2.1) else (laws_FnExactScreenLevel.j0 k a1 a2 a3 bt822.2.2.2 bt835.2.2.2 true a0_0 a0_1 l0_2 bt822.1 bt822.2.1 bt822.2.2.1 bt829.1 bt829.2.1 bt829.2.2 bt835.1 bt835.2.1 bt835.2.2.1)))))) = some r := H
    have A10 := Aside0.mk A100
    clear A100
    replace H := Option.bind_eq_some_iff.mp H
    obtain ⟨⟨t822, t823, t824, t827⟩, A110, H⟩ := H
    replace H : ((laws_toMatrix.f k a0_0 a0_1 l0_2).bind fun bt829 => ((impl_ScreenLevel.f bt829.1 bt829.2.1 bt829.2.2 a1 a2 a3).bind fun bt835 => ((laws_eqPicture.f k bt835.1 bt835.2.1 bt835.2.2.1 t822 t823 t824).bind fun t842 => (if t842 = true then (laws_FnExactScreenLevel.j0 k a1 a2 a3 t827 bt835.2.2.2 (bt835.2.2.2 != t827) a0_0 a0_1 l0_2 t822 t823 t824 bt829.1 bt829.2.1 bt829.2.2 bt835.1 bt835.2.1 bt835.2.2.1) else (laws_FnExactScreenLevel.j0 k a1 a2 a3 t827 bt835.2.2.2 true a0_0 a0_1 l0_2 t822 t823 t824 bt829.1 bt829.2.1 bt829.2.2 bt835.1 bt835.2.1 bt835.2.2.1))))) = some r := H
    have A11 := Aside0.mk A110
    clear A110
    replace H := Option.bind_eq_some_iff.mp H
    obtain ⟨⟨t829, t830, t831⟩, A120, H⟩ := H
    replace H : ((impl_ScreenLevel.f t829 t830 t831 a1 a2 a3).bind fun bt835 => ((laws_eqPicture.f k bt835.1 bt835.2.1 bt835.2.2.1 t822 t823 t824).bind fun t842 => (if t842 = true then (laws_FnExactScreenLevel.j0 k a1 a2 a3 t827 bt835.2.2.2 (bt835.2.2.2 != t827) a0_0 a0_1 l0_2 t822 t823 t824 t829 t830 t831 bt835.1 bt835.2.1 bt835.2.2.1) else (laws_FnExactScreenLevel.j0 k a1 a2 a3 t827 bt835.2.2.2 true a0_0 a0_1 l0_2 t822 t823 t824 t829 t830 t831 bt835.1 bt835.2.1 bt835.2.2.1)))) = some r := H
    have A12 := Aside0.mk A120
    clear A120
    replace H := Option.bind_eq_some_iff.mp H
    obtain ⟨⟨t835, t836, t837, t840⟩, A130, H⟩ := H
    replace H : ((laws_eqPicture.f k t835 t836 t837 t822 t823 t824).bind fun t842 => (if t842 = true then (laws_FnExactScreenLevel.j0 k a1 a2 a3 t827 t840 (t840 != t827) a0_0 a0_1 l0_2 t822 t823 t824 t829 t830 t831 t835 t836 t837) else (laws_FnExactScreenLevel.j0 k a1 a2 a3 t827 t840 true a0_0 a0_1 l0_2 t822 t823 t824 t829 t830 t831 t835 t836 t837))) = some r := H
    have A13 := Aside0.mk A130
    clear A130
    have HC14 := Aside0.mk H
    clear H
    go_enter Try.func14, Try.ntmps14
    go_upto_region 8 with (first | ((with_reducible refine gate_dst (N := 4) rfl ?_); refine box_event ?hg (N := 4) ?hd (cs := #[.int .i64 a0_0, .int .i64 a0_1, .slice A0_2 l0_2.length c0_2]) (t := 55) ?hr ?_; (case hd => rfl); (case hg => rfl); (case hr => first | (go_simp; done) | (go_simp; rfl)); intro gb815 hg w15 hbox hb; have n0_ := Aside0.mk (below_step (by repeat (first | (with_reducible first | exact HB.out | apply below_alloc | apply pw_below_drewN | apply below_drew1) | exact HB.out)) hb); have n1_ := Aside0.mk (hbox); have n2_ := Aside0.mk ((by rw [hg]; exact (below_size (by repeat (first | (with_reducible first | exact HB.out | apply below_alloc | apply pw_below_drewN | apply below_drew1) | exact HB.out))) : w.heap.size ≤ gb815)); have n3_ := Aside0.mk ((by rw [hg]; exact (below_size (by repeat (first | (with_reducible first | exact HB.out | apply below_alloc | apply pw_below_drewN | apply below_drew1) | exact HB.out))) : w.heap.size ≤ gb815)); clear HB; have HB := n0_; have BK815 := n1_; have GW815 := n2_; have GE815 := n3_; clear n0_ n1_ n2_ n3_; clear hb hbox hg; have hcz16_0 : w15.cell? ⟨gb815, 0, none⟩ = some (.int .i64 a0_0) := (blk_cell BK815.out 0).trans rfl; have hcz16_1 : w15.cell? ⟨gb815, 1, none⟩ = some (.int .i64 a0_1) := (blk_cell BK815.out 1).trans rfl; have hcz16_2 : w15.cell? ⟨gb815, 2, none⟩ = some (.slice A0_2 l0_2.length c0_2) := (blk_cell BK815.out 2).trans rfl; have hfz16_0 := blk_frozen BK815.out 0; have hfz16_1 := blk_frozen BK815.out 1; have hfz16_2 := blk_frozen BK815.out 2) | ((with_reducible refine gate_callee (f := 56) rfl ?_); refine goesL_ (some 22) rfl rfl Try.func56 (by kernel_rfl) rfl #[.agg #[.int .i64 a0_0, .int .i64 a0_1, .slice A0_2 l0_2.length c0_2], .int .i64 1048576] rfl (by (try simp only [List.map_toArray, List.map_cons, List.map_nil]); first | done | rfl | (simp only [List.length_drop, List.length_take]; rfl)) ?_; (with_reducible refine (laws_szMatrix.calls a0_0 a0_1 _ _ l0_2 1048576 t816 _ ?side1 ?side2 A5.out).mono ?_); (case side1 => repeat (first | exact (Kd.C_below HR0_2.out HB.out) | (with_reducible refine Kd.C_alloc ?_ _) | (with_reducible refine Kd.C_drewN ?_ _) | (with_reducible refine Kd.C_drew ?_))); (case side2 => exact HC0_2.out); rintro e w17 ⟨rfl, hb⟩; refine ⟨_, rfl, ?_⟩; have n0_ := Aside0.mk (blk_below (g := gb815) (o := .cells #[.int .i64 a0_0, .int .i64 a0_1, .slice A0_2 l0_2.length c0_2] 55 (0, 0)) (by (with_reducible repeat (first | refine blk_drewN ?_ _ | refine blk_drew ?_ | refine blk_alloc ?_ _)); exact BK815.out) hb); have n1_ := Aside0.mk (below_step (by repeat (first | (with_reducible first | exact HB.out | apply below_alloc | apply pw_below_drewN | apply below_drew1 | refine below_set ?_ GE815.out) | exact HB.out)) hb); clear BK815; clear HB; have BK815 := n0_; have HB := n1_; clear n0_ n1_; (try clear hb); (try clear hb2); (try clear hk); (try clear hi); have hcz18_0 : w17.cell? ⟨gb815, 0, none⟩ = some (.int .i64 a0_0) := (blk_cell BK815.out 0).trans rfl; have hcz18_1 : w17.cell? ⟨gb815, 1, none⟩ = some (.int .i64 a0_1) := (blk_cell BK815.out 1).trans rfl; have hcz18_2 : w17.cell? ⟨gb815, 2, none⟩ = some (.slice A0_2 l0_2.length c0_2) := (blk_cell BK815.out 2).trans rfl; have hfz18_0 := blk_frozen BK815.out 0; have hfz18_1 := blk_frozen BK815.out 1; have hfz18_2 := blk_frozen BK815.out 2) | ((with_reducible refine gate_callee (f := 58) rfl ?_); refine goesL_ (some 27) rfl rfl Try.func58 (by kernel_rfl) rfl #[.agg #[.int .i64 a0_0, .int .i64 a0_1, .slice A0_2 l0_2.length c0_2]] rfl (by (try simp only [List.map_toArray, List.map_cons, List.map_nil]); first | done | rfl | (simp only [List.length_drop, List.length_take]; rfl)) ?_; (with_reducible refine (laws_toMatrix.calls k a0_0 a0_1 _ _ l0_2 t817 t818 t819 _ ?side1 ?side2 A10.out).mono ?_); (case side1 => repeat (first | exact (Kd.C_below HR0_2.out HB.out) | (with_reducible refine Kd.C_alloc ?_ _) | (with_reducible refine Kd.C_drewN ?_ _) | (with_reducible refine Kd.C_drew ?_))); (case side2 => exact HC0_2.out); rintro e w19 ⟨v820, rfl, ho0, hb⟩; refine ⟨_, rfl, ?_⟩; have n0_ := Aside0.mk (Kd.R_lower ho0 (below_size (by repeat (first | (with_reducible first | exact HB.out | apply below_alloc | apply pw_below_drewN | apply below_drew1 | refine below_set ?_ GE815.out) | exact HB.out)))); have n1_ := Aside0.mk (blk_below (g := gb815) (o := .cells #[.int .i64 a0_0, .int .i64 a0_1, .slice A0_2 l0_2.length c0_2] 55 (0, 0)) (by (with_reducible repeat (first | refine blk_drewN ?_ _ | refine blk_drew ?_ | refine blk_alloc ?_ _)); exact BK815.out) hb); have n2_ := Aside0.mk (below_step (by repeat (first | (with_reducible first | exact HB.out | apply below_alloc | apply pw_below_drewN | apply below_drew1 | refine below_set ?_ GE815.out) | exact HB.out)) hb); clear BK815; clear HB; have HO821 := n0_; have BK815 := n1_; have HB := n2_; clear n0_ n1_ n2_; (try clear hb); (try clear hb2); (try clear hk); (try clear hi); (try clear ho0); obtain ⟨Ao20, co20, eo20⟩ := Kd.R_slice HO821.out; subst eo20) | ((with_reducible refine gate_callee (f := 60) rfl ?_); refine goesL_ (some 31) rfl rfl Try.func60 (by kernel_rfl) rfl #[.agg #[.int .i64 t817, .int .i64 t818, .slice Ao20 t819.length co20], .int .i64 a1, .int .i64 a2, .int .i64 a3] rfl (by (try simp only [List.map_toArray, List.map_cons, List.map_nil]); first | done | rfl | (simp only [List.length_drop, List.length_take]; rfl)) ?_; (with_reducible refine (spec_ScreenLevel.calls k t817 t818 _ _ t819 a1 a2 a3 t822 t823 t824 t827 _ ?side1 ?side2 A11.out).mono ?_); (case side1 => repeat (first | exact (Kd.R_reads' HO821.out).2.2 | (with_reducible refine Kd.C_alloc ?_ _) | (with_reducible refine Kd.C_drewN ?_ _) | (with_reducible refine Kd.C_drew ?_))); (case side2 => exact (Kd.R_reads' HO821.out).2.1); rintro e w21 ⟨v825, rfl, ho0, hb⟩; refine ⟨_, rfl, ?_⟩; have n0_ := Aside0.mk (Kd.R_elder' (by (with_reducible repeat (first | apply Kd.R_alloc | apply Kd.R_drewN | apply Kd.R_drew)); exact HO821.out) (Kd.R_base ho0) hb); have n1_ := Aside0.mk (Kd.R_lower (Kd.R_new' ho0 (Kd.R_lt (by (with_reducible repeat (first | apply Kd.R_alloc | apply Kd.R_drewN | apply Kd.R_drew)); exact HO821.out))) (below_size (by repeat (first | (with_reducible first | exact HB.out | apply below_alloc | apply pw_below_drewN | apply below_drew1 | refine below_set ?_ GE815.out) | exact HB.out)))); have n2_ := Aside0.mk (blk_below (g := gb815) (o := .cells #[.int .i64 a0_0, .int .i64 a0_1, .slice A0_2 l0_2.length c0_2] 55 (0, 0)) (by (with_reducible repeat (first | refine blk_drewN ?_ _ | refine blk_drew ?_ | refine blk_alloc ?_ _)); exact BK815.out) hb); have n3_ := Aside0.mk (below_step (by repeat (first | (with_reducible first | exact HB.out | apply below_alloc | apply pw_below_drewN | apply below_drew1 | refine below_set ?_ GE815.out) | exact HB.out)) hb); clear HO821; clear BK815; clear HB; have HO821 := n0_; have HO826 := n1_; have BK815 := n2_; have HB := n3_; clear n0_ n1_ n2_ n3_; (try clear hb); (try clear hb2); (try clear hk); (try clear hi); (try clear ho0)) | ((with_reducible refine gate_dst (N := 10) rfl ?_); refine box_event ?hg (N := 10) ?hd (cs := #[.int .i64 0, .int .i64 0, .slice none 0 0]) (t := 41) ?hr ?_; (case hd => rfl); (case hg => rfl); (case hr => first | (go_simp; done) | (go_simp; rfl)); intro gb828 hg w22 hbox hb; have n0_ := Aside0.mk (Kd.R_below (by (with_reducible repeat (first | apply Kd.R_alloc | apply Kd.R_drewN | apply Kd.R_drew)); exact HO821.out) hb); have n1_ := Aside0.mk (Kd.R_below (by (with_reducible repeat (first | apply Kd.R_alloc | apply Kd.R_drewN | apply Kd.R_drew)); exact HO826.out) hb); have n2_ := Aside0.mk (blk_below (g := gb815) (o := .cells #[.int .i64 a0_0, .int .i64 a0_1, .slice A0_2 l0_2.length c0_2] 55 (0, 0)) (by (with_reducible repeat (first | refine blk_drewN ?_ _ | refine blk_drew ?_ | refine blk_alloc ?_ _)); exact BK815.out) hb); have n3_ := Aside0.mk (below_step (by repeat (first | (with_reducible first | exact HB.out | apply below_alloc | apply pw_below_drewN | apply below_drew1 | refine below_set ?_ GE815.out) | exact HB.out)) hb); have n4_ := Aside0.mk (hbox); have n5_ := Aside0.mk ((by rw [hg]; exact (below_size (by repeat (first | (with_reducible first | exact HB.out | apply below_alloc | apply pw_below_drewN | apply below_drew1 | refine below_set ?_ GE815.out) | exact HB.out))) : w.heap.size ≤ gb828)); have n6_ := Aside0.mk ((by rw [hg]; exact (below_size (by repeat (first | (with_reducible first | exact HB.out | apply below_alloc | apply pw_below_drewN | apply below_drew1 | refine below_set ?_ GE815.out) | exact HB.out))) : w.heap.size ≤ gb828)); have n7_ := Aside0.mk ((by rw [hg]; exact Nat.ne_of_lt (blk_lt (g := gb815) (o := .cells #[.int .i64 a0_0, .int .i64 a0_1, .slice A0_2 l0_2.length c0_2] 55 (0, 0)) (by (with_reducible repeat (first | refine blk_drewN ?_ _ | refine blk_drew ?_ | refine blk_alloc ?_ _)); exact BK815.out)) : gb815 ≠ gb828)); have n8_ := Aside0.mk ((by rw [hg]; exact Nat.ne_of_gt (blk_lt (g := gb815) (o := .cells #[.int .i64 a0_0, .int .i64 a0_1, .slice A0_2 l0_2.length c0_2] 55 (0, 0)) (by (with_reducible repeat (first | refine blk_drewN ?_ _ | refine blk_drew ?_ | refine blk_alloc ?_ _)); exact BK815.out)) : gb828 ≠ gb815)); clear HO821; clear HO826; clear BK815; clear HB; have HO821 := n0_; have HO826 := n1_; have BK815 := n2_; have HB := n3_; have BK828 := n4_; have GW828 := n5_; have GE828 := n6_; have NB815_828 := n7_; have NB828_815 := n8_; clear n0_ n1_ n2_ n3_ n4_ n5_ n6_ n7_ n8_; clear hb hbox hg; have hnb23 := NB828_815.out; have hnc23 := NB815_828.out; have hcz24_0 : w22.cell? ⟨gb828, 0, none⟩ = some (.int .i64 0) := (blk_cell BK828.out 0).trans rfl; have hcz24_1 : w22.cell? ⟨gb828, 1, none⟩ = some (.int .i64 0) := (blk_cell BK828.out 1).trans rfl; have hcz24_2 : w22.cell? ⟨gb828, 2, none⟩ = some (.slice none 0 0) := (blk_cell BK828.out 2).trans rfl; have hfz24_0 := blk_frozen BK828.out 0; have hfz24_1 := blk_frozen BK828.out 1; have hfz24_2 := blk_frozen BK828.out 2; obtain ⟨Ao25, co25, eo25⟩ := Kd.R_slice HO826.out; subst eo25; have hcz26_0 : w22.cell? ⟨gb815, 0, none⟩ = some (.int .i64 a0_0) := (blk_cell BK815.out 0).trans rfl; have hcz26_1 : w22.cell? ⟨gb815, 1, none⟩ = some (.int .i64 a0_1) := (blk_cell BK815.out 1).trans rfl; have hcz26_2 : w22.cell? ⟨gb815, 2, none⟩ = some (.slice A0_2 l0_2.length c0_2) := (blk_cell BK815.out 2).trans rfl; have hfz26_0 := blk_frozen BK815.out 0; have hfz26_1 := blk_frozen BK815.out 1; have hfz26_2 := blk_frozen BK815.out 2) | ((with_reducible refine gate_callee (f := 58) rfl ?_); refine goesL_ (some 35) rfl rfl Try.func58 (by kernel_rfl) rfl #[.agg #[.int .i64 a0_0, .int .i64 a0_1, .slice A0_2 l0_2.length c0_2]] rfl (by (try simp only [List.map_toArray, List.map_cons, List.map_nil]); first | done | rfl | (simp only [List.length_drop, List.length_take]; rfl)) ?_; (with_reducible refine (laws_toMatrix.calls k a0_0 a0_1 _ _ l0_2 t829 t830 t831 _ ?side1 ?side2 A12.out).mono ?_); (case side1 => exact Kd.C_below HR0_2.out (by repeat (first | (with_reducible first | exact HB.out | apply below_alloc | apply pw_below_drewN | apply below_drew1 | refine below_set ?_ GE815.out | refine below_set ?_ GE828.out) | exact HB.out))); (case side2 => exact HC0_2.out); rintro e w27 ⟨v832, rfl, ho0, hb⟩; refine ⟨_, rfl, ?_⟩; have n0_ := Aside0.mk (Kd.R_elder' (by (with_reducible repeat (first | apply Kd.R_alloc | apply Kd.R_drewN | apply Kd.R_drew)); exact (Kd.R_mono (Kd.R_far (p := ⟨gb828, 2, none⟩) (Kd.R_far (p := ⟨gb828, 1, none⟩) (Kd.R_far (p := ⟨gb828, 0, none⟩) (Kd.R_types HO821.out BK828.out (by decide)) (fun _ hk => hk.2) (.int .i64 t822)) (fun _ hk => hk.2) (.int .i64 t823)) (fun _ hk => hk.2) (.slice Ao25 t824.length co25)) (fun _ h_ => h_.1))) (Kd.R_base ho0) hb); have n1_ := Aside0.mk (Kd.R_elder' (by (with_reducible repeat (first | apply Kd.R_alloc | apply Kd.R_drewN | apply Kd.R_drew)); exact (Kd.R_mono (Kd.R_far (p := ⟨gb828, 2, none⟩) (Kd.R_far (p := ⟨gb828, 1, none⟩) (Kd.R_far (p := ⟨gb828, 0, none⟩) (Kd.R_types HO826.out BK828.out (by decide)) (fun _ hk => hk.2) (.int .i64 t822)) (fun _ hk => hk.2) (.int .i64 t823)) (fun _ hk => hk.2) (.slice Ao25 t824.length co25)) (fun _ h_ => h_.1))) (Kd.R_base ho0) hb); have n2_ := Aside0.mk (Kd.R_lower (Kd.R_new' (Kd.R_new' ho0 (Kd.R_lt (by (with_reducible repeat (first | apply Kd.R_alloc | apply Kd.R_drewN | apply Kd.R_drew)); exact (Kd.R_mono (Kd.R_far (p := ⟨gb828, 2, none⟩) (Kd.R_far (p := ⟨gb828, 1, none⟩) (Kd.R_far (p := ⟨gb828, 0, none⟩) (Kd.R_types HO821.out BK828.out (by decide)) (fun _ hk => hk.2) (.int .i64 t822)) (fun _ hk => hk.2) (.int .i64 t823)) (fun _ hk => hk.2) (.slice Ao25 t824.length co25)) (fun _ h_ => h_.1))))) (Kd.R_lt (by (with_reducible repeat (first | apply Kd.R_alloc | apply Kd.R_drewN | apply Kd.R_drew)); exact (Kd.R_mono (Kd.R_far (p := ⟨gb828, 2, none⟩) (Kd.R_far (p := ⟨gb828, 1, none⟩) (Kd.R_far (p := ⟨gb828, 0, none⟩) (Kd.R_types HO826.out BK828.out (by decide)) (fun _ hk => hk.2) (.int .i64 t822)) (fun _ hk => hk.2) (.int .i64 t823)) (fun _ hk => hk.2) (.slice Ao25 t824.length co25)) (fun _ h_ => h_.1))))) (below_size (by repeat (first | (with_reducible first | exact HB.out | apply below_alloc | apply pw_below_drewN | apply below_drew1 | refine below_set ?_ GE815.out | refine below_set ?_ GE828.out) | exact HB.out)))); have n3_ := Aside0.mk (blk_below (g := gb815) (o := .cells #[.int .i64 a0_0, .int .i64 a0_1, .slice A0_2 l0_2.length c0_2] 55 (0, 0)) (by (with_reducible repeat (first | refine blk_drewN ?_ _ | refine blk_drew ?_ | refine blk_alloc ?_ _)); refine blk_far ?_ NB815_828.out _; (with_reducible repeat (first | refine blk_drewN ?_ _ | refine blk_drew ?_ | refine blk_alloc ?_ _)); refine blk_far ?_ NB815_828.out _; (with_reducible repeat (first | refine blk_drewN ?_ _ | refine blk_drew ?_ | refine blk_alloc ?_ _)); refine blk_far ?_ NB815_828.out _; (with_reducible repeat (first | refine blk_drewN ?_ _ | refine blk_drew ?_ | refine blk_alloc ?_ _)); exact BK815.out) hb); have n4_ := Aside0.mk (blk_below (g := gb828) (o := .cells #[.int .i64 t822, .int .i64 t823, .slice Ao25 t824.length co25] 41 (0, 0)) (by (with_reducible repeat (first | refine blk_drewN ?_ _ | refine blk_drew ?_ | refine blk_alloc ?_ _)); refine blk_put (cs := #[.int .i64 t822, .int .i64 t823, .slice none 0 0]) ?_ 2 _ rfl; (with_reducible repeat (first | refine blk_drewN ?_ _ | refine blk_drew ?_ | refine blk_alloc ?_ _)); refine blk_put (cs := #[.int .i64 t822, .int .i64 0, .slice none 0 0]) ?_ 1 _ rfl; (with_reducible repeat (first | refine blk_drewN ?_ _ | refine blk_drew ?_ | refine blk_alloc ?_ _)); refine blk_put (cs := #[.int .i64 0, .int .i64 0, .slice none 0 0]) ?_ 0 _ rfl; (with_reducible repeat (first | refine blk_drewN ?_ _ | refine blk_drew ?_ | refine blk_alloc ?_ _)); exact BK828.out) hb); have n5_ := Aside0.mk (below_step (by repeat (first | (with_reducible first | exact HB.out | apply below_alloc | apply pw_below_drewN | apply below_drew1 | refine below_set ?_ GE815.out | refine below_set ?_ GE828.out) | exact HB.out)) hb); clear HO821; clear HO826; clear BK815; clear BK828; clear HB; have HO821 := n0_; have HO826 := n1_; have HO833 := n2_; have BK815 := n3_; have BK828 := n4_; have HB := n5_; clear n0_ n1_ n2_ n3_ n4_ n5_; (try clear hb); (try clear hb2); (try clear hk); (try clear hi); (try clear ho0)) | ((with_reducible refine gate_dst (N := 12) rfl ?_); refine box_event ?hg (N := 12) ?hd (cs := #[.int .i64 0, .int .i64 0, .slice none 0 0]) (t := 26) ?hr ?_; (case hd => rfl); (case hg => rfl); (case hr => first | (go_simp; done) | (go_simp; rfl)); intro gb834 hg w28 hbox hb; have n0_ := Aside0.mk (Kd.R_below (by (with_reducible repeat (first | apply Kd.R_alloc | apply Kd.R_drewN | apply Kd.R_drew)); exact HO821.out) hb); have n1_ := Aside0.mk (Kd.R_below (by (with_reducible repeat (first | apply Kd.R_alloc | apply Kd.R_drewN | apply Kd.R_drew)); exact HO826.out) hb); have n2_ := Aside0.mk (Kd.R_below (by (with_reducible repeat (first | apply Kd.R_alloc | apply Kd.R_drewN | apply Kd.R_drew)); exact HO833.out) hb); have n3_ := Aside0.mk (blk_below (g := gb815) (o := .cells #[.int .i64 a0_0, .int .i64 a0_1, .slice A0_2 l0_2.length c0_2] 55 (0, 0)) (by (with_reducible repeat (first | refine blk_drewN ?_ _ | refine blk_drew ?_ | refine blk_alloc ?_ _)); exact BK815.out) hb); have n4_ := Aside0.mk (blk_below (g := gb828) (o := .cells #[.int .i64 t822, .int .i64 t823, .slice Ao25 t824.length co25] 41 (0, 0)) (by (with_reducible repeat (first | refine blk_drewN ?_ _ | refine blk_drew ?_ | refine blk_alloc ?_ _)); exact BK828.out) hb); have n5_ := Aside0.mk (below_step (by repeat (first | (with_reducible first | exact HB.out | apply below_alloc | apply pw_below_drewN | apply below_drew1 | refine below_set ?_ GE815.out | refine below_set ?_ GE828.out) | exact HB.out)) hb); have n6_ := Aside0.mk (hbox); have n7_ := Aside0.mk ((by rw [hg]; exact (below_size (by repeat (first | (with_reducible first | exact HB.out | apply below_alloc | apply pw_below_drewN | apply below_drew1 | refine below_set ?_ GE815.out | refine below_set ?_ GE828.out) | exact HB.out))) : w.heap.size ≤ gb834)); have n8_ := Aside0.mk ((by rw [hg]; exact (below_size (by repeat (first | (with_reducible first | exact HB.out | apply below_alloc | apply pw_below_drewN | apply below_drew1 | refine below_set ?_ GE815.out | refine below_set ?_ GE828.out) | exact HB.out))) : w.heap.size ≤ gb834)); have n9_ := Aside0.mk ((by rw [hg]; exact Nat.ne_of_lt (blk_lt (g := gb815) (o := .cells #[.int .i64 a0_0, .int .i64 a0_1, .slice A0_2 l0_2.length c0_2] 55 (0, 0)) (by (with_reducible repeat (first | refine blk_drewN ?_ _ | refine blk_drew ?_ | refine blk_alloc ?_ _)); exact BK815.out)) : gb815 ≠ gb834)); have n10_ := Aside0.mk ((by rw [hg]; exact Nat.ne_of_gt (blk_lt (g := gb815) (o := .cells #[.int .i64 a0_0, .int .i64 a0_1, .slice A0_2 l0_2.length c0_2] 55 (0, 0)) (by (with_reducible repeat (first | refine blk_drewN ?_ _ | refine blk_drew ?_ | refine blk_alloc ?_ _)); exact BK815.out)) : gb834 ≠ gb815)); have n11_ := Aside0.mk ((by rw [hg]; exact Nat.ne_of_lt (blk_lt (g := gb828) (o := .cells #[.int .i64 t822, .int .i64 t823, .slice Ao25 t824.length co25] 41 (0, 0)) (by (with_reducible repeat (first | refine blk_drewN ?_ _ | refine blk_drew ?_ | refine blk_alloc ?_ _)); exact BK828.out)) : gb828 ≠ gb834)); have n12_ := Aside0.mk ((by rw [hg]; exact Nat.ne_of_gt (blk_lt (g := gb828) (o := .cells #[.int .i64 t822, .int .i64 t823, .slice Ao25 t824.length co25] 41 (0, 0)) (by (with_reducible repeat (first | refine blk_drewN ?_ _ | refine blk_drew ?_ | refine blk_alloc ?_ _)); exact BK828.out)) : gb834 ≠ gb828)); clear HO821; clear HO826; clear HO833; clear BK815; clear BK828; clear HB; have HO821 := n0_; have HO826 := n1_; have HO833 := n2_; have BK815 := n3_; have BK828 := n4_; have HB := n5_; have BK834 := n6_; have GW834 := n7_; have GE834 := n8_; have NB815_834 := n9_; have NB834_815 := n10_; have NB828_834 := n11_; have NB834_828 := n12_; clear n0_ n1_ n2_ n3_ n4_ n5_ n6_ n7_ n8_ n9_ n10_ n11_ n12_; clear hb hbox hg; have hnb29 := NB834_815.out; have hnc29 := NB815_834.out; have hnb30 := NB834_828.out; have hnc30 := NB828_834.out; have hcz31_0 : w28.cell? ⟨gb834, 0, none⟩ = some (.int .i64 0) := (blk_cell BK834.out 0).trans rfl; have hcz31_1 : w28.cell? ⟨gb834, 1, none⟩ = some (.int .i64 0) := (blk_cell BK834.out 1).trans rfl; have hcz31_2 : w28.cell? ⟨gb834, 2, none⟩ = some (.slice none 0 0) := (blk_cell BK834.out 2).trans rfl; have hfz31_0 := blk_frozen BK834.out 0; have hfz31_1 := blk_frozen BK834.out 1; have hfz31_2 := blk_frozen BK834.out 2; obtain ⟨Ao32, co32, eo32⟩ := Kd.R_slice HO833.out; subst eo32) | ((with_reducible refine gate_callee (f := 39) rfl ?_); refine goesL_ (some 41) rfl rfl Try.func39 (by kernel_rfl) rfl #[.agg #[.int .i64 t829, .int .i64 t830, .slice Ao32 t831.length co32], .int .i64 a1, .int .i64 a2, .int .i64 a3] rfl (by (try simp only [List.map_toArray, List.map_cons, List.map_nil]); first | done | rfl | (simp only [List.length_drop, List.length_take]; rfl)) ?_; (with_reducible refine (impl_ScreenLevel.calls t829 t830 _ _ t831 a1 a2 a3 t835 t836 t837 t840 _ ?side1 ?side2 A13.out).mono ?_); (case side1 => refine (Kd.R_reads' (e := 3) (base := w.heap.size) (ok := fun k_ => ((True ∧ some k_ ≠ (.slice Ao20 t819.length co20 : Value).ownBlock) ∧ some k_ ≠ (.slice Ao25 t824.length co25 : Value).ownBlock)) (n := t831.length) (c := co32) ?_).2.2; exact (by (with_reducible repeat (first | apply Kd.R_alloc | apply Kd.R_drewN | apply Kd.R_drew)); exact (Kd.R_mono (Kd.R_far (p := ⟨gb834, 2, none⟩) (Kd.R_far (p := ⟨gb834, 1, none⟩) (Kd.R_far (p := ⟨gb834, 0, none⟩) (Kd.R_types HO833.out BK834.out (by decide)) (fun _ hk => hk.2) (.int .i64 t829)) (fun _ hk => hk.2) (.int .i64 t830)) (fun _ hk => hk.2) (.slice Ao32 t831.length co32)) (fun _ h_ => h_.1)))); (case side2 => exact (Kd.R_reads' HO833.out).2.1); rintro e w33 ⟨v838, rfl, ho0, hb⟩; refine ⟨_, rfl, ?_⟩; have n0_ := Aside0.mk (Kd.R_elder' (by (with_reducible repeat (first | apply Kd.R_alloc | apply Kd.R_drewN | apply Kd.R_drew)); exact (Kd.R_mono (Kd.R_far (p := ⟨gb834, 2, none⟩) (Kd.R_far (p := ⟨gb834, 1, none⟩) (Kd.R_far (p := ⟨gb834, 0, none⟩) (Kd.R_types HO821.out BK834.out (by decide)) (fun _ hk => hk.2) (.int .i64 t829)) (fun _ hk => hk.2) (.int .i64 t830)) (fun _ hk => hk.2) (.slice Ao32 t831.length co32)) (fun _ h_ => h_.1))) (Kd.R_base ho0) hb); have n1_ := Aside0.mk (Kd.R_elder' (by (with_reducible repeat (first | apply Kd.R_alloc | apply Kd.R_drewN | apply Kd.R_drew)); exact (Kd.R_mono (Kd.R_far (p := ⟨gb834, 2, none⟩) (Kd.R_far (p := ⟨gb834, 1, none⟩) (Kd.R_far (p := ⟨gb834, 0, none⟩) (Kd.R_types HO826.out BK834.out (by decide)) (fun _ hk => hk.2) (.int .i64 t829)) (fun _ hk => hk.2) (.int .i64 t830)) (fun _ hk => hk.2) (.slice Ao32 t831.length co32)) (fun _ h_ => h_.1))) (Kd.R_base ho0) hb); have n2_ := Aside0.mk (Kd.R_elder' (by (with_reducible repeat (first | apply Kd.R_alloc | apply Kd.R_drewN | apply Kd.R_drew)); exact (Kd.R_mono (Kd.R_far (p := ⟨gb834, 2, none⟩) (Kd.R_far (p := ⟨gb834, 1, none⟩) (Kd.R_far (p := ⟨gb834, 0, none⟩) (Kd.R_types HO833.out BK834.out (by decide)) (fun _ hk => hk.2) (.int .i64 t829)) (fun _ hk => hk.2) (.int .i64 t830)) (fun _ hk => hk.2) (.slice Ao32 t831.length co32)) (fun _ h_ => h_.1))) (Kd.R_base ho0) hb); have n3_ := Aside0.mk (Kd.R_lower (Kd.R_new' (Kd.R_new' (Kd.R_new' ho0 (Kd.R_lt (by (with_reducible repeat (first | apply Kd.R_alloc | apply Kd.R_drewN | apply Kd.R_drew)); exact (Kd.R_mono (Kd.R_far (p := ⟨gb834, 2, none⟩) (Kd.R_far (p := ⟨gb834, 1, none⟩) (Kd.R_far (p := ⟨gb834, 0, none⟩) (Kd.R_types HO821.out BK834.out (by decide)) (fun _ hk => hk.2) (.int .i64 t829)) (fun _ hk => hk.2) (.int .i64 t830)) (fun _ hk => hk.2) (.slice Ao32 t831.length co32)) (fun _ h_ => h_.1))))) (Kd.R_lt (by (with_reducible repeat (first | apply Kd.R_alloc | apply Kd.R_drewN | apply Kd.R_drew)); exact (Kd.R_mono (Kd.R_far (p := ⟨gb834, 2, none⟩) (Kd.R_far (p := ⟨gb834, 1, none⟩) (Kd.R_far (p := ⟨gb834, 0, none⟩) (Kd.R_types HO826.out BK834.out (by decide)) (fun _ hk => hk.2) (.int .i64 t829)) (fun _ hk => hk.2) (.int .i64 t830)) (fun _ hk => hk.2) (.slice Ao32 t831.length co32)) (fun _ h_ => h_.1))))) (Kd.R_lt (by (with_reducible repeat (first | apply Kd.R_alloc | apply Kd.R_drewN | apply Kd.R_drew)); exact (Kd.R_mono (Kd.R_far (p := ⟨gb834, 2, none⟩) (Kd.R_far (p := ⟨gb834, 1, none⟩) (Kd.R_far (p := ⟨gb834, 0, none⟩) (Kd.R_types HO833.out BK834.out (by decide)) (fun _ hk => hk.2) (.int .i64 t829)) (fun _ hk => hk.2) (.int .i64 t830)) (fun _ hk => hk.2) (.slice Ao32 t831.length co32)) (fun _ h_ => h_.1))))) (below_size (by repeat (first | (with_reducible first | exact HB.out | apply below_alloc | apply pw_below_drewN | apply below_drew1 | refine below_set ?_ GE815.out | refine below_set ?_ GE828.out | refine below_set ?_ GE834.out) | exact HB.out)))); have n4_ := Aside0.mk (blk_below (g := gb815) (o := .cells #[.int .i64 a0_0, .int .i64 a0_1, .slice A0_2 l0_2.length c0_2] 55 (0, 0)) (by (with_reducible repeat (first | refine blk_drewN ?_ _ | refine blk_drew ?_ | refine blk_alloc ?_ _)); refine blk_far ?_ NB815_834.out _; (with_reducible repeat (first | refine blk_drewN ?_ _ | refine blk_drew ?_ | refine blk_alloc ?_ _)); refine blk_far ?_ NB815_834.out _; (with_reducible repeat (first | refine blk_drewN ?_ _ | refine blk_drew ?_ | refine blk_alloc ?_ _)); refine blk_far ?_ NB815_834.out _; (with_reducible repeat (first | refine blk_drewN ?_ _ | refine blk_drew ?_ | refine blk_alloc ?_ _)); exact BK815.out) hb); have n5_ := Aside0.mk (blk_below (g := gb828) (o := .cells #[.int .i64 t822, .int .i64 t823, .slice Ao25 t824.length co25] 41 (0, 0)) (by (with_reducible repeat (first | refine blk_drewN ?_ _ | refine blk_drew ?_ | refine blk_alloc ?_ _)); refine blk_far ?_ NB828_834.out _; (with_reducible repeat (first | refine blk_drewN ?_ _ | refine blk_drew ?_ | refine blk_alloc ?_ _)); refine blk_far ?_ NB828_834.out _; (with_reducible repeat (first | refine blk_drewN ?_ _ | refine blk_drew ?_ | refine blk_alloc ?_ _)); refine blk_far ?_ NB828_834.out _; (with_reducible repeat (first | refine blk_drewN ?_ _ | refine blk_drew ?_ | refine blk_alloc ?_ _)); exact BK828.out) hb); have n6_ := Aside0.mk (blk_below (g := gb834) (o := .cells #[.int .i64 t829, .int .i64 t830, .slice Ao32 t831.length co32] 26 (0, 0)) (by (with_reducible repeat (first | refine blk_drewN ?_ _ | refine blk_drew ?_ | refine blk_alloc ?_ _)); refine blk_put (cs := #[.int .i64 t829, .int .i64 t830, .slice none 0 0]) ?_ 2 _ rfl; (with_reducible repeat (first | refine blk_drewN ?_ _ | refine blk_drew ?_ | refine blk_alloc ?_ _)); refine blk_put (cs := #[.int .i64 t829, .int .i64 0, .slice none 0 0]) ?_ 1 _ rfl; (with_reducible repeat (first | refine blk_drewN ?_ _ | refine blk_drew ?_ | refine blk_alloc ?_ _)); refine blk_put (cs := #[.int .i64 0, .int .i64 0, .slice none 0 0]) ?_ 0 _ rfl; (with_reducible repeat (first | refine blk_drewN ?_ _ | refine blk_drew ?_ | refine blk_alloc ?_ _)); exact BK834.out) hb); have n7_ := Aside0.mk (below_step (by repeat (first | (with_reducible first | exact HB.out | apply below_alloc | apply pw_below_drewN | apply below_drew1 | refine below_set ?_ GE815.out | refine below_set ?_ GE828.out | refine below_set ?_ GE834.out) | exact HB.out)) hb); clear HO821; clear HO826; clear HO833; clear BK815; clear BK828; clear BK834; clear HB; have HO821 := n0_; have HO826 := n1_; have HO833 := n2_; have HO839 := n3_; have BK815 := n4_; have BK828 := n5_; have BK834 := n6_; have HB := n7_; clear n0_ n1_ n2_ n3_ n4_ n5_ n6_ n7_; (try clear hb); (try clear hb2); (try clear hk); (try clear hi); (try clear ho0)) | ((with_reducible refine gate_dst (N := 13) rfl ?_); refine box_event ?hg (N := 13) ?hd (cs := #[.int .i64 0, .int .i64 0, .slice none 0 0]) (t := 41) ?hr ?_; (case hd => rfl); (case hg => rfl); (case hr => first | (go_simp; done) | (go_simp; rfl)); intro gb841 hg w34 hbox hb; have n0_ := Aside0.mk (Kd.R_below (by (with_reducible repeat (first | apply Kd.R_alloc | apply Kd.R_drewN | apply Kd.R_drew)); exact HO821.out) hb); have n1_ := Aside0.mk (Kd.R_below (by (with_reducible repeat (first | apply Kd.R_alloc | apply Kd.R_drewN | apply Kd.R_drew)); exact HO826.out) hb); have n2_ := Aside0.mk (Kd.R_below (by (with_reducible repeat (first | apply Kd.R_alloc | apply Kd.R_drewN | apply Kd.R_drew)); exact HO833.out) hb); have n3_ := Aside0.mk (Kd.R_below (by (with_reducible repeat (first | apply Kd.R_alloc | apply Kd.R_drewN | apply Kd.R_drew)); exact HO839.out) hb); have n4_ := Aside0.mk (blk_below (g := gb815) (o := .cells #[.int .i64 a0_0, .int .i64 a0_1, .slice A0_2 l0_2.length c0_2] 55 (0, 0)) (by (with_reducible repeat (first | refine blk_drewN ?_ _ | refine blk_drew ?_ | refine blk_alloc ?_ _)); exact BK815.out) hb); have n5_ := Aside0.mk (blk_below (g := gb828) (o := .cells #[.int .i64 t822, .int .i64 t823, .slice Ao25 t824.length co25] 41 (0, 0)) (by (with_reducible repeat (first | refine blk_drewN ?_ _ | refine blk_drew ?_ | refine blk_alloc ?_ _)); exact BK828.out) hb); have n6_ := Aside0.mk (blk_below (g := gb834) (o := .cells #[.int .i64 t829, .int .i64 t830, .slice Ao32 t831.length co32] 26 (0, 0)) (by (with_reducible repeat (first | refine blk_drewN ?_ _ | refine blk_drew ?_ | refine blk_alloc ?_ _)); exact BK834.out) hb); have n7_ := Aside0.mk (below_step (by repeat (first | (with_reducible first | exact HB.out | apply below_alloc | apply pw_below_drewN | apply below_drew1 | refine below_set ?_ GE815.out | refine below_set ?_ GE828.out | refine below_set ?_ GE834.out) | exact HB.out)) hb); have n8_ := Aside0.mk (hbox); have n9_ := Aside0.mk ((by rw [hg]; exact (below_size (by repeat (first | (with_reducible first | exact HB.out | apply below_alloc | apply pw_below_drewN | apply below_drew1 | refine below_set ?_ GE815.out | refine below_set ?_ GE828.out | refine below_set ?_ GE834.out) | exact HB.out))) : w.heap.size ≤ gb841)); have n10_ := Aside0.mk ((by rw [hg]; exact (below_size (by repeat (first | (with_reducible first | exact HB.out | apply below_alloc | apply pw_below_drewN | apply below_drew1 | refine below_set ?_ GE815.out | refine below_set ?_ GE828.out | refine below_set ?_ GE834.out) | exact HB.out))) : w.heap.size ≤ gb841)); have n11_ := Aside0.mk ((by rw [hg]; exact Nat.ne_of_lt (blk_lt (g := gb815) (o := .cells #[.int .i64 a0_0, .int .i64 a0_1, .slice A0_2 l0_2.length c0_2] 55 (0, 0)) (by (with_reducible repeat (first | refine blk_drewN ?_ _ | refine blk_drew ?_ | refine blk_alloc ?_ _)); exact BK815.out)) : gb815 ≠ gb841)); have n12_ := Aside0.mk ((by rw [hg]; exact Nat.ne_of_gt (blk_lt (g := gb815) (o := .cells #[.int .i64 a0_0, .int .i64 a0_1, .slice A0_2 l0_2.length c0_2] 55 (0, 0)) (by (with_reducible repeat (first | refine blk_drewN ?_ _ | refine blk_drew ?_ | refine blk_alloc ?_ _)); exact BK815.out)) : gb841 ≠ gb815)); have n13_ := Aside0.mk ((by rw [hg]; exact Nat.ne_of_lt (blk_lt (g := gb828) (o := .cells #[.int .i64 t822, .int .i64 t823, .slice Ao25 t824.length co25] 41 (0, 0)) (by (with_reducible repeat (first | refine blk_drewN ?_ _ | refine blk_drew ?_ | refine blk_alloc ?_ _)); exact BK828.out)) : gb828 ≠ gb841)); have n14_ := Aside0.mk ((by rw [hg]; exact Nat.ne_of_gt (blk_lt (g := gb828) (o := .cells #[.int .i64 t822, .int .i64 t823, .slice Ao25 t824.length co25] 41 (0, 0)) (by (with_reducible repeat (first | refine blk_drewN ?_ _ | refine blk_drew ?_ | refine blk_alloc ?_ _)); exact BK828.out)) : gb841 ≠ gb828)); have n15_ := Aside0.mk ((by rw [hg]; exact Nat.ne_of_lt (blk_lt (g := gb834) (o := .cells #[.int .i64 t829, .int .i64 t830, .slice Ao32 t831.length co32] 26 (0, 0)) (by (with_reducible repeat (first | refine blk_drewN ?_ _ | refine blk_drew ?_ | refine blk_alloc ?_ _)); exact BK834.out)) : gb834 ≠ gb841)); have n16_ := Aside0.mk ((by rw [hg]; exact Nat.ne_of_gt (blk_lt (g := gb834) (o := .cells #[.int .i64 t829, .int .i64 t830, .slice Ao32 t831.length co32] 26 (0, 0)) (by (with_reducible repeat (first | refine blk_drewN ?_ _ | refine blk_drew ?_ | refine blk_alloc ?_ _)); exact BK834.out)) : gb841 ≠ gb834)); clear HO821; clear HO826; clear HO833; clear HO839; clear BK815; clear BK828; clear BK834; clear HB; have HO821 := n0_; have HO826 := n1_; have HO833 := n2_; have HO839 := n3_; have BK815 := n4_; have BK828 := n5_; have BK834 := n6_; have HB := n7_; have BK841 := n8_; have GW841 := n9_; have GE841 := n10_; have NB815_841 := n11_; have NB841_815 := n12_; have NB828_841 := n13_; have NB841_828 := n14_; have NB834_841 := n15_; have NB841_834 := n16_; clear n0_ n1_ n2_ n3_ n4_ n5_ n6_ n7_ n8_ n9_ n10_ n11_ n12_ n13_ n14_ n15_ n16_; clear hb hbox hg; have hnb35 := NB841_815.out; have hnc35 := NB815_841.out; have hnb36 := NB841_828.out; have hnc36 := NB828_841.out; have hnb37 := NB841_834.out; have hnc37 := NB834_841.out; have hcz38_0 : w34.cell? ⟨gb841, 0, none⟩ = some (.int .i64 0) := (blk_cell BK841.out 0).trans rfl; have hcz38_1 : w34.cell? ⟨gb841, 1, none⟩ = some (.int .i64 0) := (blk_cell BK841.out 1).trans rfl; have hcz38_2 : w34.cell? ⟨gb841, 2, none⟩ = some (.slice none 0 0) := (blk_cell BK841.out 2).trans rfl; have hfz38_0 := blk_frozen BK841.out 0; have hfz38_1 := blk_frozen BK841.out 1; have hfz38_2 := blk_frozen BK841.out 2; obtain ⟨Ao39, co39, eo39⟩ := Kd.R_slice HO839.out; subst eo39))
    (try simp only [Act.put, List.setIfInBounds_toArray, List.set_cons_zero, List.set_cons_succ])
    go_cut [52] (fun v52 wc => ∃ (kq : Nat) (x52_13 : Bool), v52 = .bool x52_13 ∧ Aside0 (laws_FnExactScreenLevel.j0 kq a1 a2 a3 t827 t840 x52_13 a0_0 a0_1 l0_2 t822 t823 t824 t829 t830 t831 t835 t836 t837 = some r) ∧ Aside0 (kq ≤ k) ∧ Aside0 (Kd.R (Kd.int .i64) 3 wc w.heap.size (fun k_ => some k_ ≠ ((.slice Ao32 t831.length co32) : Value).ownBlock ∧ some k_ ≠ ((.slice Ao39 t837.length co39) : Value).ownBlock) (.slice Ao25 t824.length co25) t824) ∧ Aside0 (Kd.R (Kd.int .i64) 3 wc w.heap.size (fun k_ => some k_ ≠ ((.slice Ao25 t824.length co25) : Value).ownBlock ∧ some k_ ≠ ((.slice Ao39 t837.length co39) : Value).ownBlock) (.slice Ao32 t831.length co32) t831) ∧ Aside0 (Kd.R (Kd.int .i64) 3 wc w.heap.size (fun k_ => some k_ ≠ ((.slice Ao25 t824.length co25) : Value).ownBlock ∧ some k_ ≠ ((.slice Ao32 t831.length co32) : Value).ownBlock) (.slice Ao39 t837.length co39) t837) ∧ Aside0 (wc.heap[gb815]? = some (.cells #[.int .i64 a0_0, .int .i64 a0_1, (.slice A0_2 l0_2.length c0_2)] 55 (0, 0))) ∧ Aside0 (wc.heap[gb828]? = some (.cells #[.int .i64 t822, .int .i64 t823, (.slice Ao25 t824.length co25)] 41 (0, 0))) ∧ Aside0 (wc.heap[gb834]? = some (.cells #[.int .i64 t829, .int .i64 t830, (.slice Ao32 t831.length co32)] 26 (0, 0))) ∧ Aside0 (wc.heap[gb841]? = some (.cells #[.int .i64 t835, .int .i64 t836, (.slice Ao39 t837.length co39)] 41 (0, 0))) ∧ Aside0 (Below w.heap.size w wc))
    case first =>
      have H := HC14.out
      clear HC14
      replace H := Option.bind_eq_some_iff.mp H
      obtain ⟨t842, A400, H⟩ := H
      replace H : (if t842 = true then (laws_FnExactScreenLevel.j0 k a1 a2 a3 t827 t840 (t840 != t827) a0_0 a0_1 l0_2 t822 t823 t824 t829 t830 t831 t835 t836 t837) else (laws_FnExactScreenLevel.j0 k a1 a2 a3 t827 t840 true a0_0 a0_1 l0_2 t822 t823 t824 t829 t830 t831 t835 t836 t837)) = some r := H
      have A40 := Aside0.mk A400
      clear A400
      by_cases c41 : t842 = true
      · subst c41
        have H1 : (laws_FnExactScreenLevel.j0 k a1 a2 a3 t827 t840 (t840 != t827) a0_0 a0_1 l0_2 t822 t823 t824 t829 t830 t831 t835 t836 t837) = some r := by rw [if_pos rfl] at H; exact H
        clear H
        have H := H1
        clear H1
        have H' := Aside0.mk H
        clear H
        have hnb42 := NB841_815.out
        have hnc42 := NB815_841.out
        have hnb43 := NB841_828.out
        have hnc43 := NB828_841.out
        have hnb44 := NB841_834.out
        have hnc44 := NB834_841.out
        have hcz45_0 : w34.cell? ⟨gb841, 0, none⟩ = some (.int .i64 0) := (blk_cell BK841.out 0).trans rfl
        have hcz45_1 : w34.cell? ⟨gb841, 1, none⟩ = some (.int .i64 0) := (blk_cell BK841.out 1).trans rfl
        have hcz45_2 : w34.cell? ⟨gb841, 2, none⟩ = some (.slice none 0 0) := (blk_cell BK841.out 2).trans rfl
        have hfz45_0 := blk_frozen BK841.out 0
        have hfz45_1 := blk_frozen BK841.out 1
        have hfz45_2 := blk_frozen BK841.out 2
        have hnb46 := NB828_815.out
        have hnc46 := NB815_828.out
        have hnb47 := NB828_834.out
        have hnc47 := NB834_828.out
        have hcz48_0 : w34.cell? ⟨gb828, 0, none⟩ = some (.int .i64 t822) := (blk_cell BK828.out 0).trans rfl
        have hcz48_1 : w34.cell? ⟨gb828, 1, none⟩ = some (.int .i64 t823) := (blk_cell BK828.out 1).trans rfl
        have hcz48_2 : w34.cell? ⟨gb828, 2, none⟩ = some (.slice Ao25 t824.length co25) := (blk_cell BK828.out 2).trans rfl
        have hfz48_0 := blk_frozen BK828.out 0
        have hfz48_1 := blk_frozen BK828.out 1
        have hfz48_2 := blk_frozen BK828.out 2
        go_wp2_with (first | ((with_reducible refine gate_callee (f := 49) rfl ?_); refine goesL_ (some 46) rfl rfl Try.func49 (by kernel_rfl) rfl #[.agg #[.int .i64 t835, .int .i64 t836, .slice Ao39 t837.length co39], .agg #[.int .i64 t822, .int .i64 t823, .slice Ao25 t824.length co25]] rfl (by (try simp only [List.map_toArray, List.map_cons, List.map_nil]); first | done | rfl | (simp only [List.length_drop, List.length_take]; rfl)) ?_; (with_reducible refine (laws_eqPicture.calls k t835 t836 _ _ t837 t822 t823 _ _ t824 true _ ?side1 ?side2 ?side3 ?side4 A40.out).mono ?_); (case side1 => refine (Kd.R_reads' (e := 3) (base := w.heap.size) (ok := fun k_ => (((True ∧ some k_ ≠ (.slice Ao20 t819.length co20 : Value).ownBlock) ∧ some k_ ≠ (.slice Ao25 t824.length co25 : Value).ownBlock) ∧ some k_ ≠ (.slice Ao32 t831.length co32 : Value).ownBlock)) (n := t837.length) (c := co39) ?_).2.2; exact (by (with_reducible repeat (first | apply Kd.R_alloc | apply Kd.R_drewN | apply Kd.R_drew)); exact (Kd.R_mono (Kd.R_far (p := ⟨gb841, 2, none⟩) (Kd.R_far (p := ⟨gb841, 1, none⟩) (Kd.R_far (p := ⟨gb841, 0, none⟩) (Kd.R_types HO839.out BK841.out (by decide)) (fun _ hk => hk.2) (.int .i64 t835)) (fun _ hk => hk.2) (.int .i64 t836)) (fun _ hk => hk.2) (.slice Ao39 t837.length co39)) (fun _ h_ => h_.1)))); (case side2 => exact (Kd.R_reads' HO839.out).2.1); (case side3 => refine (Kd.R_reads' (e := 3) (base := w.heap.size) (ok := fun k_ => (((True ∧ some k_ ≠ (.slice Ao20 t819.length co20 : Value).ownBlock) ∧ some k_ ≠ (.slice Ao32 t831.length co32 : Value).ownBlock) ∧ some k_ ≠ (.slice Ao39 t837.length co39 : Value).ownBlock)) (n := t824.length) (c := co25) ?_).2.2; exact (by (with_reducible repeat (first | apply Kd.R_alloc | apply Kd.R_drewN | apply Kd.R_drew)); exact (Kd.R_mono (Kd.R_far (p := ⟨gb841, 2, none⟩) (Kd.R_far (p := ⟨gb841, 1, none⟩) (Kd.R_far (p := ⟨gb841, 0, none⟩) (Kd.R_types HO826.out BK841.out (by decide)) (fun _ hk => hk.2) (.int .i64 t835)) (fun _ hk => hk.2) (.int .i64 t836)) (fun _ hk => hk.2) (.slice Ao39 t837.length co39)) (fun _ h_ => h_.1)))); (case side4 => exact (Kd.R_reads' HO826.out).2.1); rintro e w49 ⟨rfl, hb⟩; refine ⟨_, rfl, ?_⟩; have n0_ := Aside0.mk (Kd.R_below (by (with_reducible repeat (first | apply Kd.R_alloc | apply Kd.R_drewN | apply Kd.R_drew)); exact (Kd.R_mono (Kd.R_far (p := ⟨gb841, 2, none⟩) (Kd.R_far (p := ⟨gb841, 1, none⟩) (Kd.R_far (p := ⟨gb841, 0, none⟩) (Kd.R_types HO821.out BK841.out (by decide)) (fun _ hk => hk.2) (.int .i64 t835)) (fun _ hk => hk.2) (.int .i64 t836)) (fun _ hk => hk.2) (.slice Ao39 t837.length co39)) (fun _ h_ => h_.1))) hb); have n1_ := Aside0.mk (Kd.R_below (by (with_reducible repeat (first | apply Kd.R_alloc | apply Kd.R_drewN | apply Kd.R_drew)); exact (Kd.R_mono (Kd.R_far (p := ⟨gb841, 2, none⟩) (Kd.R_far (p := ⟨gb841, 1, none⟩) (Kd.R_far (p := ⟨gb841, 0, none⟩) (Kd.R_types HO826.out BK841.out (by decide)) (fun _ hk => hk.2) (.int .i64 t835)) (fun _ hk => hk.2) (.int .i64 t836)) (fun _ hk => hk.2) (.slice Ao39 t837.length co39)) (fun _ h_ => h_.1))) hb); have n2_ := Aside0.mk (Kd.R_below (by (with_reducible repeat (first | apply Kd.R_alloc | apply Kd.R_drewN | apply Kd.R_drew)); exact (Kd.R_mono (Kd.R_far (p := ⟨gb841, 2, none⟩) (Kd.R_far (p := ⟨gb841, 1, none⟩) (Kd.R_far (p := ⟨gb841, 0, none⟩) (Kd.R_types HO833.out BK841.out (by decide)) (fun _ hk => hk.2) (.int .i64 t835)) (fun _ hk => hk.2) (.int .i64 t836)) (fun _ hk => hk.2) (.slice Ao39 t837.length co39)) (fun _ h_ => h_.1))) hb); have n3_ := Aside0.mk (Kd.R_below (by (with_reducible repeat (first | apply Kd.R_alloc | apply Kd.R_drewN | apply Kd.R_drew)); exact (Kd.R_mono (Kd.R_far (p := ⟨gb841, 2, none⟩) (Kd.R_far (p := ⟨gb841, 1, none⟩) (Kd.R_far (p := ⟨gb841, 0, none⟩) (Kd.R_types HO839.out BK841.out (by decide)) (fun _ hk => hk.2) (.int .i64 t835)) (fun _ hk => hk.2) (.int .i64 t836)) (fun _ hk => hk.2) (.slice Ao39 t837.length co39)) (fun _ h_ => h_.1))) hb); have n4_ := Aside0.mk (blk_below (g := gb815) (o := .cells #[.int .i64 a0_0, .int .i64 a0_1, .slice A0_2 l0_2.length c0_2] 55 (0, 0)) (by (with_reducible repeat (first | refine blk_drewN ?_ _ | refine blk_drew ?_ | refine blk_alloc ?_ _)); refine blk_far ?_ NB815_841.out _; (with_reducible repeat (first | refine blk_drewN ?_ _ | refine blk_drew ?_ | refine blk_alloc ?_ _)); refine blk_far ?_ NB815_841.out _; (with_reducible repeat (first | refine blk_drewN ?_ _ | refine blk_drew ?_ | refine blk_alloc ?_ _)); refine blk_far ?_ NB815_841.out _; (with_reducible repeat (first | refine blk_drewN ?_ _ | refine blk_drew ?_ | refine blk_alloc ?_ _)); exact BK815.out) hb); have n5_ := Aside0.mk (blk_below (g := gb828) (o := .cells #[.int .i64 t822, .int .i64 t823, .slice Ao25 t824.length co25] 41 (0, 0)) (by (with_reducible repeat (first | refine blk_drewN ?_ _ | refine blk_drew ?_ | refine blk_alloc ?_ _)); refine blk_far ?_ NB828_841.out _; (with_reducible repeat (first | refine blk_drewN ?_ _ | refine blk_drew ?_ | refine blk_alloc ?_ _)); refine blk_far ?_ NB828_841.out _; (with_reducible repeat (first | refine blk_drewN ?_ _ | refine blk_drew ?_ | refine blk_alloc ?_ _)); refine blk_far ?_ NB828_841.out _; (with_reducible repeat (first | refine blk_drewN ?_ _ | refine blk_drew ?_ | refine blk_alloc ?_ _)); exact BK828.out) hb); have n6_ := Aside0.mk (blk_below (g := gb834) (o := .cells #[.int .i64 t829, .int .i64 t830, .slice Ao32 t831.length co32] 26 (0, 0)) (by (with_reducible repeat (first | refine blk_drewN ?_ _ | refine blk_drew ?_ | refine blk_alloc ?_ _)); refine blk_far ?_ NB834_841.out _; (with_reducible repeat (first | refine blk_drewN ?_ _ | refine blk_drew ?_ | refine blk_alloc ?_ _)); refine blk_far ?_ NB834_841.out _; (with_reducible repeat (first | refine blk_drewN ?_ _ | refine blk_drew ?_ | refine blk_alloc ?_ _)); refine blk_far ?_ NB834_841.out _; (with_reducible repeat (first | refine blk_drewN ?_ _ | refine blk_drew ?_ | refine blk_alloc ?_ _)); exact BK834.out) hb); have n7_ := Aside0.mk (blk_below (g := gb841) (o := .cells #[.int .i64 t835, .int .i64 t836, .slice Ao39 t837.length co39] 41 (0, 0)) (by (with_reducible repeat (first | refine blk_drewN ?_ _ | refine blk_drew ?_ | refine blk_alloc ?_ _)); refine blk_put (cs := #[.int .i64 t835, .int .i64 t836, .slice none 0 0]) ?_ 2 _ rfl; (with_reducible repeat (first | refine blk_drewN ?_ _ | refine blk_drew ?_ | refine blk_alloc ?_ _)); refine blk_put (cs := #[.int .i64 t835, .int .i64 0, .slice none 0 0]) ?_ 1 _ rfl; (with_reducible repeat (first | refine blk_drewN ?_ _ | refine blk_drew ?_ | refine blk_alloc ?_ _)); refine blk_put (cs := #[.int .i64 0, .int .i64 0, .slice none 0 0]) ?_ 0 _ rfl; (with_reducible repeat (first | refine blk_drewN ?_ _ | refine blk_drew ?_ | refine blk_alloc ?_ _)); exact BK841.out) hb); have n8_ := Aside0.mk (below_step (by repeat (first | (with_reducible first | exact HB.out | apply below_alloc | apply pw_below_drewN | apply below_drew1 | refine below_set ?_ GE815.out | refine below_set ?_ GE828.out | refine below_set ?_ GE834.out | refine below_set ?_ GE841.out) | exact HB.out)) hb); clear HO821; clear HO826; clear HO833; clear HO839; clear BK815; clear BK828; clear BK834; clear BK841; clear HB; have HO821 := n0_; have HO826 := n1_; have HO833 := n2_; have HO839 := n3_; have BK815 := n4_; have BK828 := n5_; have BK834 := n6_; have BK841 := n7_; have HB := n8_; clear n0_ n1_ n2_ n3_ n4_ n5_ n6_ n7_ n8_; (try clear hb); (try clear hb2); (try clear hk); (try clear hi)))
        go_meet
        case rel => exact ⟨_, ((t840 != t827)), (by first | rfl | (simp; done) | (simp [*]; done)), H', ⟨by first | omega | exact Nat.le_refl _⟩, ⟨by (with_reducible repeat (first | apply Kd.R_alloc | apply Kd.R_drewN | apply Kd.R_drew)); exact Kd.R_mono HO826.out (fun _ hk => ⟨hk.1.2, hk.2⟩)⟩, ⟨by (with_reducible repeat (first | apply Kd.R_alloc | apply Kd.R_drewN | apply Kd.R_drew)); exact Kd.R_mono HO833.out (fun _ hk => ⟨hk.1.2, hk.2⟩)⟩, ⟨by (with_reducible repeat (first | apply Kd.R_alloc | apply Kd.R_drewN | apply Kd.R_drew)); exact Kd.R_mono HO839.out (fun _ hk => ⟨hk.1.2, hk.2⟩)⟩, ⟨by (with_reducible repeat (first | refine blk_drewN ?_ _ | refine blk_drew ?_ | refine blk_alloc ?_ _)); exact BK815.out⟩, ⟨by (with_reducible repeat (first | refine blk_drewN ?_ _ | refine blk_drew ?_ | refine blk_alloc ?_ _)); exact BK828.out⟩, ⟨by (with_reducible repeat (first | refine blk_drewN ?_ _ | refine blk_drew ?_ | refine blk_alloc ?_ _)); exact BK834.out⟩, ⟨by (with_reducible repeat (first | refine blk_drewN ?_ _ | refine blk_drew ?_ | refine blk_alloc ?_ _)); exact BK841.out⟩, ⟨by repeat (first | (with_reducible first | exact HB.out | apply below_alloc | apply pw_below_drewN | apply below_drew1 | refine below_set ?_ GE815.out | refine below_set ?_ GE828.out | refine below_set ?_ GE834.out | refine below_set ?_ GE841.out) | exact HB.out)⟩⟩
      · replace c41 := Bool.eq_false_iff.mpr c41
        subst c41
        have H1 : (laws_FnExactScreenLevel.j0 k a1 a2 a3 t827 t840 true a0_0 a0_1 l0_2 t822 t823 t824 t829 t830 t831 t835 t836 t837) = some r := by rw [if_neg (show ¬ (false = true) by decide)] at H; exact H
        clear H
        have H := H1
        clear H1
        have H' := Aside0.mk H
        clear H
        have hnb50 := NB841_815.out
        have hnc50 := NB815_841.out
        have hnb51 := NB841_828.out
        have hnc51 := NB828_841.out
        have hnb52 := NB841_834.out
        have hnc52 := NB834_841.out
        have hcz53_0 : w34.cell? ⟨gb841, 0, none⟩ = some (.int .i64 0) := (blk_cell BK841.out 0).trans rfl
        have hcz53_1 : w34.cell? ⟨gb841, 1, none⟩ = some (.int .i64 0) := (blk_cell BK841.out 1).trans rfl
        have hcz53_2 : w34.cell? ⟨gb841, 2, none⟩ = some (.slice none 0 0) := (blk_cell BK841.out 2).trans rfl
        have hfz53_0 := blk_frozen BK841.out 0
        have hfz53_1 := blk_frozen BK841.out 1
        have hfz53_2 := blk_frozen BK841.out 2
        have hnb54 := NB828_815.out
        have hnc54 := NB815_828.out
        have hnb55 := NB828_834.out
        have hnc55 := NB834_828.out
        have hcz56_0 : w34.cell? ⟨gb828, 0, none⟩ = some (.int .i64 t822) := (blk_cell BK828.out 0).trans rfl
        have hcz56_1 : w34.cell? ⟨gb828, 1, none⟩ = some (.int .i64 t823) := (blk_cell BK828.out 1).trans rfl
        have hcz56_2 : w34.cell? ⟨gb828, 2, none⟩ = some (.slice Ao25 t824.length co25) := (blk_cell BK828.out 2).trans rfl
        have hfz56_0 := blk_frozen BK828.out 0
        have hfz56_1 := blk_frozen BK828.out 1
        have hfz56_2 := blk_frozen BK828.out 2
        go_wp2_with (first | ((with_reducible refine gate_callee (f := 49) rfl ?_); refine goesL_ (some 46) rfl rfl Try.func49 (by kernel_rfl) rfl #[.agg #[.int .i64 t835, .int .i64 t836, .slice Ao39 t837.length co39], .agg #[.int .i64 t822, .int .i64 t823, .slice Ao25 t824.length co25]] rfl (by (try simp only [List.map_toArray, List.map_cons, List.map_nil]); first | done | rfl | (simp only [List.length_drop, List.length_take]; rfl)) ?_; (with_reducible refine (laws_eqPicture.calls k t835 t836 _ _ t837 t822 t823 _ _ t824 false _ ?side1 ?side2 ?side3 ?side4 A40.out).mono ?_); (case side1 => refine (Kd.R_reads' (e := 3) (base := w.heap.size) (ok := fun k_ => (((True ∧ some k_ ≠ (.slice Ao20 t819.length co20 : Value).ownBlock) ∧ some k_ ≠ (.slice Ao25 t824.length co25 : Value).ownBlock) ∧ some k_ ≠ (.slice Ao32 t831.length co32 : Value).ownBlock)) (n := t837.length) (c := co39) ?_).2.2; exact (by (with_reducible repeat (first | apply Kd.R_alloc | apply Kd.R_drewN | apply Kd.R_drew)); exact (Kd.R_mono (Kd.R_far (p := ⟨gb841, 2, none⟩) (Kd.R_far (p := ⟨gb841, 1, none⟩) (Kd.R_far (p := ⟨gb841, 0, none⟩) (Kd.R_types HO839.out BK841.out (by decide)) (fun _ hk => hk.2) (.int .i64 t835)) (fun _ hk => hk.2) (.int .i64 t836)) (fun _ hk => hk.2) (.slice Ao39 t837.length co39)) (fun _ h_ => h_.1)))); (case side2 => exact (Kd.R_reads' HO839.out).2.1); (case side3 => refine (Kd.R_reads' (e := 3) (base := w.heap.size) (ok := fun k_ => (((True ∧ some k_ ≠ (.slice Ao20 t819.length co20 : Value).ownBlock) ∧ some k_ ≠ (.slice Ao32 t831.length co32 : Value).ownBlock) ∧ some k_ ≠ (.slice Ao39 t837.length co39 : Value).ownBlock)) (n := t824.length) (c := co25) ?_).2.2; exact (by (with_reducible repeat (first | apply Kd.R_alloc | apply Kd.R_drewN | apply Kd.R_drew)); exact (Kd.R_mono (Kd.R_far (p := ⟨gb841, 2, none⟩) (Kd.R_far (p := ⟨gb841, 1, none⟩) (Kd.R_far (p := ⟨gb841, 0, none⟩) (Kd.R_types HO826.out BK841.out (by decide)) (fun _ hk => hk.2) (.int .i64 t835)) (fun _ hk => hk.2) (.int .i64 t836)) (fun _ hk => hk.2) (.slice Ao39 t837.length co39)) (fun _ h_ => h_.1)))); (case side4 => exact (Kd.R_reads' HO826.out).2.1); rintro e w57 ⟨rfl, hb⟩; refine ⟨_, rfl, ?_⟩; have n0_ := Aside0.mk (Kd.R_below (by (with_reducible repeat (first | apply Kd.R_alloc | apply Kd.R_drewN | apply Kd.R_drew)); exact (Kd.R_mono (Kd.R_far (p := ⟨gb841, 2, none⟩) (Kd.R_far (p := ⟨gb841, 1, none⟩) (Kd.R_far (p := ⟨gb841, 0, none⟩) (Kd.R_types HO821.out BK841.out (by decide)) (fun _ hk => hk.2) (.int .i64 t835)) (fun _ hk => hk.2) (.int .i64 t836)) (fun _ hk => hk.2) (.slice Ao39 t837.length co39)) (fun _ h_ => h_.1))) hb); have n1_ := Aside0.mk (Kd.R_below (by (with_reducible repeat (first | apply Kd.R_alloc | apply Kd.R_drewN | apply Kd.R_drew)); exact (Kd.R_mono (Kd.R_far (p := ⟨gb841, 2, none⟩) (Kd.R_far (p := ⟨gb841, 1, none⟩) (Kd.R_far (p := ⟨gb841, 0, none⟩) (Kd.R_types HO826.out BK841.out (by decide)) (fun _ hk => hk.2) (.int .i64 t835)) (fun _ hk => hk.2) (.int .i64 t836)) (fun _ hk => hk.2) (.slice Ao39 t837.length co39)) (fun _ h_ => h_.1))) hb); have n2_ := Aside0.mk (Kd.R_below (by (with_reducible repeat (first | apply Kd.R_alloc | apply Kd.R_drewN | apply Kd.R_drew)); exact (Kd.R_mono (Kd.R_far (p := ⟨gb841, 2, none⟩) (Kd.R_far (p := ⟨gb841, 1, none⟩) (Kd.R_far (p := ⟨gb841, 0, none⟩) (Kd.R_types HO833.out BK841.out (by decide)) (fun _ hk => hk.2) (.int .i64 t835)) (fun _ hk => hk.2) (.int .i64 t836)) (fun _ hk => hk.2) (.slice Ao39 t837.length co39)) (fun _ h_ => h_.1))) hb); have n3_ := Aside0.mk (Kd.R_below (by (with_reducible repeat (first | apply Kd.R_alloc | apply Kd.R_drewN | apply Kd.R_drew)); exact (Kd.R_mono (Kd.R_far (p := ⟨gb841, 2, none⟩) (Kd.R_far (p := ⟨gb841, 1, none⟩) (Kd.R_far (p := ⟨gb841, 0, none⟩) (Kd.R_types HO839.out BK841.out (by decide)) (fun _ hk => hk.2) (.int .i64 t835)) (fun _ hk => hk.2) (.int .i64 t836)) (fun _ hk => hk.2) (.slice Ao39 t837.length co39)) (fun _ h_ => h_.1))) hb); have n4_ := Aside0.mk (blk_below (g := gb815) (o := .cells #[.int .i64 a0_0, .int .i64 a0_1, .slice A0_2 l0_2.length c0_2] 55 (0, 0)) (by (with_reducible repeat (first | refine blk_drewN ?_ _ | refine blk_drew ?_ | refine blk_alloc ?_ _)); refine blk_far ?_ NB815_841.out _; (with_reducible repeat (first | refine blk_drewN ?_ _ | refine blk_drew ?_ | refine blk_alloc ?_ _)); refine blk_far ?_ NB815_841.out _; (with_reducible repeat (first | refine blk_drewN ?_ _ | refine blk_drew ?_ | refine blk_alloc ?_ _)); refine blk_far ?_ NB815_841.out _; (with_reducible repeat (first | refine blk_drewN ?_ _ | refine blk_drew ?_ | refine blk_alloc ?_ _)); exact BK815.out) hb); have n5_ := Aside0.mk (blk_below (g := gb828) (o := .cells #[.int .i64 t822, .int .i64 t823, .slice Ao25 t824.length co25] 41 (0, 0)) (by (with_reducible repeat (first | refine blk_drewN ?_ _ | refine blk_drew ?_ | refine blk_alloc ?_ _)); refine blk_far ?_ NB828_841.out _; (with_reducible repeat (first | refine blk_drewN ?_ _ | refine blk_drew ?_ | refine blk_alloc ?_ _)); refine blk_far ?_ NB828_841.out _; (with_reducible repeat (first | refine blk_drewN ?_ _ | refine blk_drew ?_ | refine blk_alloc ?_ _)); refine blk_far ?_ NB828_841.out _; (with_reducible repeat (first | refine blk_drewN ?_ _ | refine blk_drew ?_ | refine blk_alloc ?_ _)); exact BK828.out) hb); have n6_ := Aside0.mk (blk_below (g := gb834) (o := .cells #[.int .i64 t829, .int .i64 t830, .slice Ao32 t831.length co32] 26 (0, 0)) (by (with_reducible repeat (first | refine blk_drewN ?_ _ | refine blk_drew ?_ | refine blk_alloc ?_ _)); refine blk_far ?_ NB834_841.out _; (with_reducible repeat (first | refine blk_drewN ?_ _ | refine blk_drew ?_ | refine blk_alloc ?_ _)); refine blk_far ?_ NB834_841.out _; (with_reducible repeat (first | refine blk_drewN ?_ _ | refine blk_drew ?_ | refine blk_alloc ?_ _)); refine blk_far ?_ NB834_841.out _; (with_reducible repeat (first | refine blk_drewN ?_ _ | refine blk_drew ?_ | refine blk_alloc ?_ _)); exact BK834.out) hb); have n7_ := Aside0.mk (blk_below (g := gb841) (o := .cells #[.int .i64 t835, .int .i64 t836, .slice Ao39 t837.length co39] 41 (0, 0)) (by (with_reducible repeat (first | refine blk_drewN ?_ _ | refine blk_drew ?_ | refine blk_alloc ?_ _)); refine blk_put (cs := #[.int .i64 t835, .int .i64 t836, .slice none 0 0]) ?_ 2 _ rfl; (with_reducible repeat (first | refine blk_drewN ?_ _ | refine blk_drew ?_ | refine blk_alloc ?_ _)); refine blk_put (cs := #[.int .i64 t835, .int .i64 0, .slice none 0 0]) ?_ 1 _ rfl; (with_reducible repeat (first | refine blk_drewN ?_ _ | refine blk_drew ?_ | refine blk_alloc ?_ _)); refine blk_put (cs := #[.int .i64 0, .int .i64 0, .slice none 0 0]) ?_ 0 _ rfl; (with_reducible repeat (first | refine blk_drewN ?_ _ | refine blk_drew ?_ | refine blk_alloc ?_ _)); exact BK841.out) hb); have n8_ := Aside0.mk (below_step (by repeat (first | (with_reducible first | exact HB.out | apply below_alloc | apply pw_below_drewN | apply below_drew1 | refine below_set ?_ GE815.out | refine below_set ?_ GE828.out | refine below_set ?_ GE834.out | refine below_set ?_ GE841.out) | exact HB.out)) hb); clear HO821; clear HO826; clear HO833; clear HO839; clear BK815; clear BK828; clear BK834; clear BK841; clear HB; have HO821 := n0_; have HO826 := n1_; have HO833 := n2_; have HO839 := n3_; have BK815 := n4_; have BK828 := n5_; have BK834 := n6_; have BK841 := n7_; have HB := n8_; clear n0_ n1_ n2_ n3_ n4_ n5_ n6_ n7_ n8_; (try clear hb); (try clear hb2); (try clear hk); (try clear hi)))
        go_meet
        case rel => exact ⟨_, (true), (by first | rfl | (simp; done) | (simp [*]; done)), H', ⟨by first | omega | exact Nat.le_refl _⟩, ⟨by (with_reducible repeat (first | apply Kd.R_alloc | apply Kd.R_drewN | apply Kd.R_drew)); exact Kd.R_mono HO826.out (fun _ hk => ⟨hk.1.2, hk.2⟩)⟩, ⟨by (with_reducible repeat (first | apply Kd.R_alloc | apply Kd.R_drewN | apply Kd.R_drew)); exact Kd.R_mono HO833.out (fun _ hk => ⟨hk.1.2, hk.2⟩)⟩, ⟨by (with_reducible repeat (first | apply Kd.R_alloc | apply Kd.R_drewN | apply Kd.R_drew)); exact Kd.R_mono HO839.out (fun _ hk => ⟨hk.1.2, hk.2⟩)⟩, ⟨by (with_reducible repeat (first | refine blk_drewN ?_ _ | refine blk_drew ?_ | refine blk_alloc ?_ _)); exact BK815.out⟩, ⟨by (with_reducible repeat (first | refine blk_drewN ?_ _ | refine blk_drew ?_ | refine blk_alloc ?_ _)); exact BK828.out⟩, ⟨by (with_reducible repeat (first | refine blk_drewN ?_ _ | refine blk_drew ?_ | refine blk_alloc ?_ _)); exact BK834.out⟩, ⟨by (with_reducible repeat (first | refine blk_drewN ?_ _ | refine blk_drew ?_ | refine blk_alloc ?_ _)); exact BK841.out⟩, ⟨by repeat (first | (with_reducible first | exact HB.out | apply below_alloc | apply pw_below_drewN | apply below_drew1 | refine below_set ?_ GE815.out | refine below_set ?_ GE828.out | refine below_set ?_ GE834.out | refine below_set ?_ GE841.out) | exact HB.out)⟩⟩
    case rest =>
      clear HC14
      try clear c1
      try clear c2
      try clear p2
      try clear c3
      try clear c4
      try clear c5
      try clear c6
      try clear c6b0
      try clear c14
      try clear c23
      try clear c29
      try clear c30
      try clear c35
      try clear c36
      try clear c37
      try clear c39
      try clear c41
      try clear c42
      try clear c43
      try clear c44
      try clear c46
      try clear c47
      try clear c49
      try clear c50
      try clear c51
      try clear c52
      try clear c54
      try clear c55
      try clear c56
      try clear hcz16_0
      try clear hcz16_1
      try clear hcz16_2
      try clear hcz18_0
      try clear hcz18_1
      try clear hcz18_2
      try clear hcz24_0
      try clear hcz24_1
      try clear hcz24_2
      try clear hcz26_0
      try clear hcz26_1
      try clear hcz26_2
      try clear hcz31_0
      try clear hcz31_1
      try clear hcz31_2
      try clear hcz38_0
      try clear hcz38_1
      try clear hcz38_2
      try clear hcz45_0
      try clear hcz45_1
      try clear hcz45_2
      try clear hcz48_0
      try clear hcz48_1
      try clear hcz48_2
      try clear hcz53_0
      try clear hcz53_1
      try clear hcz53_2
      try clear hcz56_0
      try clear hcz56_1
      try clear hcz56_2
      try clear hcz8_0
      try clear hcz8_1
      try clear hcz8_2
      try clear hfz16_0
      try clear hfz16_1
      try clear hfz16_2
      try clear hfz18_0
      try clear hfz18_1
      try clear hfz18_2
      try clear hfz24_0
      try clear hfz24_1
      try clear hfz24_2
      try clear hfz26_0
      try clear hfz26_1
      try clear hfz26_2
      try clear hfz31_0
      try clear hfz31_1
      try clear hfz31_2
      try clear hfz38_0
      try clear hfz38_1
      try clear hfz38_2
      try clear hfz45_0
      try clear hfz45_1
      try clear hfz45_2
      try clear hfz48_0
      try clear hfz48_1
      try clear hfz48_2
      try clear hfz53_0
      try clear hfz53_1
      try clear hfz53_2
      try clear hfz56_0
      try clear hfz56_1
      try clear hfz56_2
      try clear hfz8_0
      try clear hfz8_1
      try clear hfz8_2
      obtain ⟨kq, x52_13, rfl, HA, HJ13, HO_829002, HO_835002, HO_842002, BK815, BK828, BK834, BK841, HB⟩ := hcut
      cases kq with
      | zero => exact absurd HA.out (by simp [laws_FnExactScreenLevel.j0])
      | succ kj13 =>
        have H := HA.out
        clear HA
        simp only [laws_FnExactScreenLevel.j0] at H
        by_cases c58 : x52_13 = true
        · subst c58
          have H1 : (some false) = some r := by rw [if_pos rfl] at H; exact H
          clear H
          have H := H1
          clear H1
          exact absurd ((Option.some.inj H).trans hT.out) (by decide)
        · replace c58 := Bool.eq_false_iff.mpr c58
          subst c58
          have H1 : ((laws_toMatrix.f kj13 a0_0 a0_1 l0_2).bind fun bt843 => ((laws_eqMatrix.f kj13 t829 t830 t831 bt843.1 bt843.2.1 bt843.2.2).bind fun t848 => (if t848 = true then ((laws_markMatrix.f kj13 t829 t830 t831 1).bind fun bt849 => (if bt849.1 < 0 then (laws_FnExactScreenLevel.j1 kj13 a1 a2 a3 t827 true a0_0 a0_1 l0_2 t822 t823 t824 t835 t836 t837) else ((laws_eqPicture.f kj13 t835 t836 t837 t822 t823 t824).bind fun t851 => (if t851 = true then (laws_FnExactScreenLevel.j1 kj13 a1 a2 a3 t827 (t840 != t827) a0_0 a0_1 l0_2 t822 t823 t824 t835 t836 t837) else (laws_FnExactScreenLevel.j1 kj13 a1 a2 a3 t827 true a0_0 a0_1 l0_2 t822 t823 t824 t835 t836 t837))))) else (some false)))) = some r := by rw [if_neg (show ¬ (false = true) by decide)] at H; exact H
          clear H
          have H := H1
          clear H1
          replace H := Option.bind_eq_some_iff.mp H
          obtain ⟨⟨t843, t844, t845⟩, A590, H⟩ := H
          replace H : ((laws_eqMatrix.f kj13 t829 t830 t831 t843 t844 t845).bind fun t848 => (if t848 = true then ((laws_markMatrix.f kj13 t829 t830 t831 1).bind fun bt849 => (if bt849.1 < 0 then (laws_FnExactScreenLevel.j1 kj13 a1 a2 a3 t827 true a0_0 a0_1 l0_2 t822 t823 t824 t835 t836 t837) else ((laws_eqPicture.f kj13 t835 t836 t837 t822 t823 t824).bind fun t851 => (if t851 = true then (laws_FnExactScreenLevel.j1 kj13 a1 a2 a3 t827 (t840 != t827) a0_0 a0_1 l0_2 t822 t823 t824 t835 t836 t837) else (laws_FnExactScreenLevel.j1 kj13 a1 a2 a3 t827 true a0_0 a0_1 l0_2 t822 t823 t824 t835 t836 t837))))) else (some false))) = some r := H
          have A59 := Aside0.mk A590
          clear A590
          replace H := Option.bind_eq_some_iff.mp H
          obtain ⟨t848, A600, H⟩ := H
          replace H : (if t848 = true then ((laws_markMatrix.f kj13 t829 t830 t831 1).bind fun bt849 => (if bt849.1 < 0 then (laws_FnExactScreenLevel.j1 kj13 a1 a2 a3 t827 true a0_0 a0_1 l0_2 t822 t823 t824 t835 t836 t837) else ((laws_eqPicture.f kj13 t835 t836 t837 t822 t823 t824).bind fun t851 => (if t851 = true then (laws_FnExactScreenLevel.j1 kj13 a1 a2 a3 t827 (t840 != t827) a0_0 a0_1 l0_2 t822 t823 t824 t835 t836 t837) else (laws_FnExactScreenLevel.j1 kj13 a1 a2 a3 t827 true a0_0 a0_1 l0_2 t822 t823 t824 t835 t836 t837))))) else (some false)) = some r := H
          have A60 := Aside0.mk A600
          clear A600
          by_cases c61 : t848 = true
          · subst c61
            have H1 : ((laws_markMatrix.f kj13 t829 t830 t831 1).bind fun bt849 => (if bt849.1 < 0 then (laws_FnExactScreenLevel.j1 kj13 a1 a2 a3 t827 true a0_0 a0_1 l0_2 t822 t823 t824 t835 t836 t837) else ((laws_eqPicture.f kj13 t835 t836 t837 t822 t823 t824).bind fun t851 => (if t851 = true then (laws_FnExactScreenLevel.j1 kj13 a1 a2 a3 t827 (t840 != t827) a0_0 a0_1 l0_2 t822 t823 t824 t835 t836 t837) else (laws_FnExactScreenLevel.j1 kj13 a1 a2 a3 t827 true a0_0 a0_1 l0_2 t822 t823 t824 t835 t836 t837))))) = some r := by rw [if_pos rfl] at H; exact H
            clear H
            have H := H1
            clear H1
            replace H := Option.bind_eq_some_iff.mp H
            obtain ⟨⟨t849, t850⟩, A620, H⟩ := H
            replace H : (if t849 < 0 then (laws_FnExactScreenLevel.j1 kj13 a1 a2 a3 t827 true a0_0 a0_1 l0_2 t822 t823 t824 t835 t836 t837) else ((laws_eqPicture.f kj13 t835 t836 t837 t822 t823 t824).bind fun t851 => (if t851 = true then (laws_FnExactScreenLevel.j1 kj13 a1 a2 a3 t827 (t840 != t827) a0_0 a0_1 l0_2 t822 t823 t824 t835 t836 t837) else (laws_FnExactScreenLevel.j1 kj13 a1 a2 a3 t827 true a0_0 a0_1 l0_2 t822 t823 t824 t835 t836 t837)))) = some r := H
            have A62 := Aside0.mk A620
            clear A620
            have HC63 := Aside0.mk H
            clear H
            try go_wp2
            have n0_ := Aside0.mk (Kd.R_drew HO_829002.out)
            have n1_ := Aside0.mk (Kd.R_drew HO_835002.out)
            have n2_ := Aside0.mk (Kd.R_drew HO_842002.out)
            have n3_ := Aside0.mk (blk_drew BK815.out)
            have n4_ := Aside0.mk (blk_drew BK828.out)
            have n5_ := Aside0.mk (blk_drew BK834.out)
            have n6_ := Aside0.mk (blk_drew BK841.out)
            have n7_ := Aside0.mk (below_drew1 HB.out)
            clear HO_829002
            clear HO_835002
            clear HO_842002
            clear BK815
            clear BK828
            clear BK834
            clear BK841
            clear HB
            have HO_829002 := n0_
            have HO_835002 := n1_
            have HO_842002 := n2_
            have BK815 := n3_
            have BK828 := n4_
            have BK834 := n5_
            have BK841 := n6_
            have HB := n7_
            clear n0_ n1_ n2_ n3_ n4_ n5_ n6_ n7_
            refine start_ (n := 5) (S := fun w' => w'.cell? ⟨gb834, 0, none⟩ = some (.int .i64 t829) ∧ w'.cell? ⟨gb834, 1, none⟩ = some (.int .i64 t830) ∧ w'.cell? ⟨gb834, 2, none⟩ = some (.slice Ao32 t831.length co32) ∧ w'.cell? ⟨gb815, 0, none⟩ = some (.int .i64 a0_0) ∧ w'.cell? ⟨gb815, 1, none⟩ = some (.int .i64 a0_1) ∧ w'.cell? ⟨gb815, 2, none⟩ = some (.slice A0_2 l0_2.length c0_2)) (ds := []) #[false, false, false, false, false] (by kernel_rfl) rfl rfl ⟨(blk_cell BK834.out 0).trans rfl, (blk_cell BK834.out 1).trans rfl, (blk_cell BK834.out 2).trans rfl, (blk_cell BK815.out 0).trans rfl, (blk_cell BK815.out 1).trans rfl, (blk_cell BK815.out 2).trans rfl⟩ (fun hHeld => ?_)
            generalize wc.drew = w64 at HO_829002 HO_835002 HO_842002 BK815 BK828 BK834 BK841 HB hHeld ⊢
            refine take_ (i := 0) (N := some 53) (v := ?_) (a' := ?_) #[true, false, false, false, false] rfl rfl (by kernel_rfl) (fun _ _ _ h => h) (Or.inl ⟨by rfl, ?_⟩) hHeld ?_ ?_
            rotate_left
            · rintro w' ⟨s0, s1, s2, s3, s4, s5⟩
              go_simp
              with_reducible rfl
            rotate_left
            · simp only [Act.put, List.setIfInBounds_toArray, List.set_cons_zero, List.set_cons_succ, i64_w, i32_w]
              rfl
            refine take_ (i := 1) (N := some 54) (v := ?_) (a' := ?_) #[true, true, false, false, false] rfl rfl (by kernel_rfl) (fun _ _ _ h => h) (Or.inl ⟨by rfl, ?_⟩) hHeld ?_ ?_
            rotate_left
            · rintro w' ⟨s0, s1, s2, s3, s4, s5⟩
              go_simp
              with_reducible rfl
            rotate_left
            · simp only [Act.put, List.setIfInBounds_toArray, List.set_cons_zero, List.set_cons_succ, i64_w, i32_w]
              rfl
            refine one_ (i := 2) (N := some 55) #[true, true, true, false, false] rfl rfl (by kernel_rfl) (by decide) (fun K hK => ?_)
            refine goes_ Try.func58 (by kernel_rfl) rfl #[.agg #[.int .i64 a0_0, .int .i64 a0_1, .slice A0_2 l0_2.length c0_2]] (by rfl) rfl rfl (by (try simp only [List.map_toArray, List.map_cons, List.map_nil]); first | done | rfl | (simp only [List.length_drop, List.length_take]; rfl)) ?_
            with_reducible refine (laws_toMatrix.calls kj13 a0_0 a0_1 _ _ l0_2 t843 t844 t845 _ ?side1 ?side2 A59.out).mono ?_
            (case side1 => repeat (first | exact (Kd.C_below HR0_2.out HB.out) | (with_reducible refine Kd.C_alloc ?_ _) | (with_reducible refine Kd.C_drewN ?_ _) | (with_reducible refine Kd.C_drew ?_)))
            (case side2 => exact HC0_2.out)
            rintro e w65 ⟨v846, rfl, ho0, hb⟩
            refine ⟨_, rfl, ?_⟩
            have n0_ := Aside0.mk (Kd.R_elder' (by (with_reducible repeat (first | apply Kd.R_alloc | apply Kd.R_drewN | apply Kd.R_drew)); exact HO_829002.out) (Kd.R_base ho0) hb)
            have n1_ := Aside0.mk (Kd.R_elder' (by (with_reducible repeat (first | apply Kd.R_alloc | apply Kd.R_drewN | apply Kd.R_drew)); exact HO_835002.out) (Kd.R_base ho0) hb)
            have n2_ := Aside0.mk (Kd.R_elder' (by (with_reducible repeat (first | apply Kd.R_alloc | apply Kd.R_drewN | apply Kd.R_drew)); exact HO_842002.out) (Kd.R_base ho0) hb)
            have n3_ := Aside0.mk (Kd.R_lower (Kd.R_new' (Kd.R_new' (Kd.R_new' ho0 (Kd.R_lt (by (with_reducible repeat (first | apply Kd.R_alloc | apply Kd.R_drewN | apply Kd.R_drew)); exact HO_829002.out))) (Kd.R_lt (by (with_reducible repeat (first | apply Kd.R_alloc | apply Kd.R_drewN | apply Kd.R_drew)); exact HO_835002.out))) (Kd.R_lt (by (with_reducible repeat (first | apply Kd.R_alloc | apply Kd.R_drewN | apply Kd.R_drew)); exact HO_842002.out))) (below_size (by repeat (first | (with_reducible first | exact HB.out | apply below_alloc | apply pw_below_drewN | apply below_drew1 | refine below_set ?_ GE815.out | refine below_set ?_ GE828.out | refine below_set ?_ GE834.out | refine below_set ?_ GE841.out) | exact HB.out))))
            have n4_ := Aside0.mk (blk_below (g := gb815) (o := .cells #[.int .i64 a0_0, .int .i64 a0_1, .slice A0_2 l0_2.length c0_2] 55 (0, 0)) (by (with_reducible repeat (first | refine blk_drewN ?_ _ | refine blk_drew ?_ | refine blk_alloc ?_ _)); exact BK815.out) hb)
            have n5_ := Aside0.mk (blk_below (g := gb828) (o := .cells #[.int .i64 t822, .int .i64 t823, .slice Ao25 t824.length co25] 41 (0, 0)) (by (with_reducible repeat (first | refine blk_drewN ?_ _ | refine blk_drew ?_ | refine blk_alloc ?_ _)); exact BK828.out) hb)
            have n6_ := Aside0.mk (blk_below (g := gb834) (o := .cells #[.int .i64 t829, .int .i64 t830, .slice Ao32 t831.length co32] 26 (0, 0)) (by (with_reducible repeat (first | refine blk_drewN ?_ _ | refine blk_drew ?_ | refine blk_alloc ?_ _)); exact BK834.out) hb)
            have n7_ := Aside0.mk (blk_below (g := gb841) (o := .cells #[.int .i64 t835, .int .i64 t836, .slice Ao39 t837.length co39] 41 (0, 0)) (by (with_reducible repeat (first | refine blk_drewN ?_ _ | refine blk_drew ?_ | refine blk_alloc ?_ _)); exact BK841.out) hb)
            have n8_ := Aside0.mk (below_step (by repeat (first | (with_reducible first | exact HB.out | apply below_alloc | apply pw_below_drewN | apply below_drew1 | refine below_set ?_ GE815.out | refine below_set ?_ GE828.out | refine below_set ?_ GE834.out | refine below_set ?_ GE841.out) | exact HB.out)) hb)
            clear HO_829002
            clear HO_835002
            clear HO_842002
            clear BK815
            clear BK828
            clear BK834
            clear BK841
            clear HB
            have HO_829002 := n0_
            have HO_835002 := n1_
            have HO_842002 := n2_
            have HO847 := n3_
            have BK815 := n4_
            have BK828 := n5_
            have BK834 := n6_
            have BK841 := n7_
            have HB := n8_
            clear n0_ n1_ n2_ n3_ n4_ n5_ n6_ n7_ n8_
            (try clear hb)
            (try clear hb2)
            (try clear hk)
            (try clear hi)
            (try clear ho0)
            obtain ⟨Ao66, co66, eo66⟩ := Kd.R_slice HO847.out
            (first | subst eo66 | (injection eo66 with f1_ f2_ f3_; have f4_ := f1_.symm; have f5_ := f3_.symm; clear f1_ f2_ f3_; subst f4_; subst f5_))
            refine hK.out _ _ ⟨(blk_cell BK834.out 0).trans rfl, (blk_cell BK834.out 1).trans rfl, (blk_cell BK834.out 2).trans rfl, (blk_cell BK815.out 0).trans rfl, (blk_cell BK815.out 1).trans rfl, (blk_cell BK815.out 2).trans rfl⟩ (fun hHeld => ?_)
            clear hK K
            refine norm_ (a' := ?_) ?_ ?_
            rotate_left
            · show Act.put _ (some 55) _ = _
              simp only [Act.put, List.setIfInBounds_toArray, List.set_cons_zero, List.set_cons_succ, i64_w, i32_w]
              rfl
            refine one_ (i := 3) (N := some 56) #[true, true, true, true, false] rfl rfl (by kernel_rfl) (by decide) (fun K hK => ?_)
            refine goes_ Try.func34 (by kernel_rfl) rfl #[.agg #[.int .i64 t829, .int .i64 t830, .slice Ao32 t831.length co32], .agg #[.int .i64 t843, .int .i64 t844, .slice Ao66 t845.length co66]] (by rfl) rfl rfl (by (try simp only [List.map_toArray, List.map_cons, List.map_nil]); first | done | rfl | (simp only [List.length_drop, List.length_take]; rfl)) ?_
            with_reducible refine (laws_eqMatrix.calls kj13 t829 t830 _ _ t831 t843 t844 _ _ t845 true _ ?side1 ?side2 ?side3 ?side4 A60.out).mono ?_
            (case side1 => repeat (first | exact (Kd.R_reads' HO_835002.out).2.2 | (with_reducible refine Kd.C_alloc ?_ _) | (with_reducible refine Kd.C_drewN ?_ _) | (with_reducible refine Kd.C_drew ?_)))
            (case side2 => exact (Kd.R_reads' HO_835002.out).2.1)
            (case side3 => repeat (first | exact (Kd.R_reads' HO847.out).2.2 | (with_reducible refine Kd.C_alloc ?_ _) | (with_reducible refine Kd.C_drewN ?_ _) | (with_reducible refine Kd.C_drew ?_)))
            (case side4 => exact (Kd.R_reads' HO847.out).2.1)
            rintro e w67 ⟨rfl, hb⟩
            refine ⟨_, rfl, ?_⟩
            have n0_ := Aside0.mk (Kd.R_below (by (with_reducible repeat (first | apply Kd.R_alloc | apply Kd.R_drewN | apply Kd.R_drew)); exact HO_829002.out) hb)
            have n1_ := Aside0.mk (Kd.R_below (by (with_reducible repeat (first | apply Kd.R_alloc | apply Kd.R_drewN | apply Kd.R_drew)); exact HO_835002.out) hb)
            have n2_ := Aside0.mk (Kd.R_below (by (with_reducible repeat (first | apply Kd.R_alloc | apply Kd.R_drewN | apply Kd.R_drew)); exact HO_842002.out) hb)
            have n3_ := Aside0.mk (Kd.R_below (by (with_reducible repeat (first | apply Kd.R_alloc | apply Kd.R_drewN | apply Kd.R_drew)); exact HO847.out) hb)
            have n4_ := Aside0.mk (blk_below (g := gb815) (o := .cells #[.int .i64 a0_0, .int .i64 a0_1, .slice A0_2 l0_2.length c0_2] 55 (0, 0)) (by (with_reducible repeat (first | refine blk_drewN ?_ _ | refine blk_drew ?_ | refine blk_alloc ?_ _)); exact BK815.out) hb)
            have n5_ := Aside0.mk (blk_below (g := gb828) (o := .cells #[.int .i64 t822, .int .i64 t823, .slice Ao25 t824.length co25] 41 (0, 0)) (by (with_reducible repeat (first | refine blk_drewN ?_ _ | refine blk_drew ?_ | refine blk_alloc ?_ _)); exact BK828.out) hb)
            have n6_ := Aside0.mk (blk_below (g := gb834) (o := .cells #[.int .i64 t829, .int .i64 t830, .slice Ao32 t831.length co32] 26 (0, 0)) (by (with_reducible repeat (first | refine blk_drewN ?_ _ | refine blk_drew ?_ | refine blk_alloc ?_ _)); exact BK834.out) hb)
            have n7_ := Aside0.mk (blk_below (g := gb841) (o := .cells #[.int .i64 t835, .int .i64 t836, .slice Ao39 t837.length co39] 41 (0, 0)) (by (with_reducible repeat (first | refine blk_drewN ?_ _ | refine blk_drew ?_ | refine blk_alloc ?_ _)); exact BK841.out) hb)
            have n8_ := Aside0.mk (below_step (by repeat (first | (with_reducible first | exact HB.out | apply below_alloc | apply pw_below_drewN | apply below_drew1 | refine below_set ?_ GE815.out | refine below_set ?_ GE828.out | refine below_set ?_ GE834.out | refine below_set ?_ GE841.out) | exact HB.out)) hb)
            clear HO_829002
            clear HO_835002
            clear HO_842002
            clear HO847
            clear BK815
            clear BK828
            clear BK834
            clear BK841
            clear HB
            have HO_829002 := n0_
            have HO_835002 := n1_
            have HO_842002 := n2_
            have HO847 := n3_
            have BK815 := n4_
            have BK828 := n5_
            have BK834 := n6_
            have BK841 := n7_
            have HB := n8_
            clear n0_ n1_ n2_ n3_ n4_ n5_ n6_ n7_ n8_
            (try clear hb)
            (try clear hb2)
            (try clear hk)
            (try clear hi)
            refine hK.out _ _ ⟨(blk_cell BK834.out 0).trans rfl, (blk_cell BK834.out 1).trans rfl, (blk_cell BK834.out 2).trans rfl, (blk_cell BK815.out 0).trans rfl, (blk_cell BK815.out 1).trans rfl, (blk_cell BK815.out 2).trans rfl⟩ (fun hHeld => ?_)
            clear hK K
            refine norm_ (a' := ?_) ?_ ?_
            rotate_left
            · show Act.put _ (some 56) _ = _
              simp only [Act.put, List.setIfInBounds_toArray, List.set_cons_zero, List.set_cons_succ, i64_w, i32_w]
              rfl
            refine pure_ (i := 4) (N := some 57) (v := ?_) (a' := ?_) #[true, true, true, true, true] rfl rfl (by kernel_rfl) (fun _ _ _ h => h) (Or.inl ⟨by rfl, ?_⟩) ?_ ?_
            rotate_left
            · intro w'
              go_simp
              with_reducible rfl
            rotate_left
            · simp only [Act.put, List.setIfInBounds_toArray, List.set_cons_zero, List.set_cons_succ, i64_w, i32_w]
              rfl
            refine done_ (by kernel_rfl) ?_
            have hnb68 := NB834_815.out
            have hnc68 := NB815_834.out
            have hnb69 := NB834_828.out
            have hnc69 := NB828_834.out
            have hnb70 := NB834_841.out
            have hnc70 := NB841_834.out
            have hcz71_0 : w67.cell? ⟨gb834, 0, none⟩ = some (.int .i64 t829) := (blk_cell BK834.out 0).trans rfl
            have hcz71_1 : w67.cell? ⟨gb834, 1, none⟩ = some (.int .i64 t830) := (blk_cell BK834.out 1).trans rfl
            have hcz71_2 : w67.cell? ⟨gb834, 2, none⟩ = some (.slice Ao32 t831.length co32) := (blk_cell BK834.out 2).trans rfl
            have hfz71_0 := blk_frozen BK834.out 0
            have hfz71_1 := blk_frozen BK834.out 1
            have hfz71_2 := blk_frozen BK834.out 2
            go_upto_region 14 with (first | ((with_reducible refine gate_callee (f := 35) rfl ?_); refine goesL_ (some 60) rfl rfl Try.func35 (by kernel_rfl) rfl #[.agg #[.int .i64 t829, .int .i64 t830, .slice Ao32 t831.length co32], .int .i64 1] rfl (by (try simp only [List.map_toArray, List.map_cons, List.map_nil]); first | done | rfl | (simp only [List.length_drop, List.length_take]; rfl)) ?_; (with_reducible refine (laws_markMatrix.calls kj13 t829 t830 (fun k_ => some k_ = (.slice Ao32 t831.length co32 : Value).ownBlock) (.slice Ao32 t831.length co32) t831 1 t849 t850 w _ ?side1 ?side2 A62.out).mono ?_); (case side1 => repeat (first | (with_reducible first | exact HB.out | apply below_alloc | apply pw_below_drewN | apply below_drew1 | refine below_set ?_ GE815.out | refine below_set ?_ GE828.out | refine below_set ?_ GE834.out | refine below_set ?_ GE841.out) | exact HB.out)); (case side2 => exact Kd.R_tight rfl HO_835002.out); rintro e w72 ⟨rfl, hy0, hb, hkp⟩; refine ⟨_, rfl, ?_⟩; have n0_ := Aside0.mk (Kd.R_mono (ok' := fun k_ => some k_ ≠ (.slice Ao32 t831.length co32 : Value).ownBlock ∧ some k_ ≠ (.slice Ao39 t837.length co39 : Value).ownBlock ∧ some k_ ≠ (.slice Ao66 t845.length co66 : Value).ownBlock) (Kd.R_keptB (HO_829002.out) hkp (fun k_ hk_ hs_ => (hk_.1.1) hs_)) (fun k_ hk_ => ⟨hk_.1.1.1, hk_.1.1.2, hk_.1.2⟩)); have n1_ := Aside0.mk (Kd.R_reok rfl hy0 (fun k_ e_ => HO_835002.out.1 k_ e_)); have n2_ := Aside0.mk (Kd.R_mono (ok' := fun k_ => some k_ ≠ (.slice Ao25 t824.length co25 : Value).ownBlock ∧ some k_ ≠ (.slice Ao32 t831.length co32 : Value).ownBlock ∧ some k_ ≠ (.slice Ao66 t845.length co66 : Value).ownBlock) (Kd.R_keptB (HO_842002.out) hkp (fun k_ hk_ hs_ => (hk_.1.2) hs_)) (fun k_ hk_ => ⟨hk_.1.1.1, hk_.1.1.2, hk_.1.2⟩)); have n3_ := Aside0.mk (blk_kept (by (with_reducible repeat (first | refine blk_drewN ?_ _ | refine blk_drew ?_ | refine blk_alloc ?_ _)); exact BK815.out) hkp (fun hs_ => (fun e_ => (Kd.R_ne HO_835002.out BK815.out (by decide)) e_) hs_)); have n4_ := Aside0.mk (blk_kept (by (with_reducible repeat (first | refine blk_drewN ?_ _ | refine blk_drew ?_ | refine blk_alloc ?_ _)); exact BK828.out) hkp (fun hs_ => (fun e_ => (Kd.R_ne HO_835002.out BK828.out (by decide)) e_) hs_)); have n5_ := Aside0.mk (blk_kept (by (with_reducible repeat (first | refine blk_drewN ?_ _ | refine blk_drew ?_ | refine blk_alloc ?_ _)); exact BK834.out) hkp (fun hs_ => (fun e_ => (Kd.R_ne HO_835002.out BK834.out (by decide)) e_) hs_)); have n6_ := Aside0.mk (blk_kept (by (with_reducible repeat (first | refine blk_drewN ?_ _ | refine blk_drew ?_ | refine blk_alloc ?_ _)); exact BK841.out) hkp (fun hs_ => (fun e_ => (Kd.R_ne HO_835002.out BK841.out (by decide)) e_) hs_)); have n7_ := Aside0.mk (Kd.R_mono (ok' := fun k_ => some k_ ≠ (.slice Ao25 t824.length co25 : Value).ownBlock ∧ some k_ ≠ (.slice Ao32 t831.length co32 : Value).ownBlock ∧ some k_ ≠ (.slice Ao39 t837.length co39 : Value).ownBlock) (Kd.R_keptB (HO847.out) hkp (fun k_ hk_ hs_ => (hk_.1.2) hs_)) (fun k_ hk_ => ⟨hk_.1.1.1.2, hk_.1.1.2, hk_.1.2⟩)); have n8_ := Aside0.mk (hb); clear HO_829002; clear HO_835002; clear HO_842002; clear BK815; clear BK828; clear BK834; clear BK841; clear HO847; clear HB; have HO_829002 := n0_; have HO_835002 := n1_; have HO_842002 := n2_; have BK815 := n3_; have BK828 := n4_; have BK834 := n5_; have BK841 := n6_; have HO847 := n7_; have HB := n8_; clear n0_ n1_ n2_ n3_ n4_ n5_ n6_ n7_ n8_; (try clear hb); (try clear hkp); (try clear hy0)))
            (try simp only [Act.put, List.setIfInBounds_toArray, List.set_cons_zero, List.set_cons_succ])
            go_cut [73] (fun v73 wc => ∃ (kq : Nat) (x73_62 : Bool), v73 = .bool x73_62 ∧ Aside0 (laws_FnExactScreenLevel.j1 kq a1 a2 a3 t827 x73_62 a0_0 a0_1 l0_2 t822 t823 t824 t835 t836 t837 = some r) ∧ Aside0 (kq ≤ kj13) ∧ Aside0 (Kd.R (Kd.int .i64) 3 wc w.heap.size (fun k_ => some k_ ≠ ((.slice Ao32 t831.length co32) : Value).ownBlock ∧ some k_ ≠ ((.slice Ao39 t837.length co39) : Value).ownBlock) (.slice Ao25 t824.length co25) t824) ∧ Aside0 (Kd.R (Kd.int .i64) 3 wc w.heap.size (fun k_ => some k_ ≠ ((.slice Ao25 t824.length co25) : Value).ownBlock ∧ some k_ ≠ ((.slice Ao39 t837.length co39) : Value).ownBlock) (.slice Ao32 t831.length co32) t850) ∧ Aside0 (Kd.R (Kd.int .i64) 3 wc w.heap.size (fun k_ => some k_ ≠ ((.slice Ao25 t824.length co25) : Value).ownBlock ∧ some k_ ≠ ((.slice Ao32 t831.length co32) : Value).ownBlock) (.slice Ao39 t837.length co39) t837) ∧ Aside0 (wc.heap[gb815]? = some (.cells #[.int .i64 a0_0, .int .i64 a0_1, (.slice A0_2 l0_2.length c0_2)] 55 (0, 0))) ∧ Aside0 (wc.heap[gb828]? = some (.cells #[.int .i64 t822, .int .i64 t823, (.slice Ao25 t824.length co25)] 41 (0, 0))) ∧ Aside0 (wc.heap[gb834]? = some (.cells #[.int .i64 t829, .int .i64 t830, (.slice Ao32 t831.length co32)] 26 (0, 0))) ∧ Aside0 (wc.heap[gb841]? = some (.cells #[.int .i64 t835, .int .i64 t836, (.slice Ao39 t837.length co39)] 41 (0, 0))) ∧ Aside0 (Below w.heap.size w wc))
            case first =>
              have H := HC63.out
              clear HC63
              by_cases c73 : t849 < 0
              · rw [if_pos c73] at H
                have c73b0 : decide (t849 < 0) = true := decide_eq_true c73
                clear c73
                (first | rw [c73b0] | (simp only [i64_w, i32_w]; rw [c73b0]) | skip)
                have H' := Aside0.mk H
                clear H
                go_wp2
                go_meet
                case rel => exact ⟨_, (true), (by first | rfl | (simp; done) | (simp [*]; done)), H', ⟨by have := HJ13.out; first | omega | exact Nat.le_refl _⟩, ⟨by (with_reducible repeat (first | apply Kd.R_alloc | apply Kd.R_drewN | apply Kd.R_drew)); exact Kd.R_mono HO_829002.out (fun _ hk => ⟨hk.1, hk.2.1⟩)⟩, ⟨by (with_reducible repeat (first | apply Kd.R_alloc | apply Kd.R_drewN | apply Kd.R_drew)); exact Kd.R_mono HO_835002.out (fun _ hk => ⟨hk.1.1, hk.1.2⟩)⟩, ⟨by (with_reducible repeat (first | apply Kd.R_alloc | apply Kd.R_drewN | apply Kd.R_drew)); exact Kd.R_mono HO_842002.out (fun _ hk => ⟨hk.1, hk.2.1⟩)⟩, ⟨by (with_reducible repeat (first | refine blk_drewN ?_ _ | refine blk_drew ?_ | refine blk_alloc ?_ _)); exact BK815.out⟩, ⟨by (with_reducible repeat (first | refine blk_drewN ?_ _ | refine blk_drew ?_ | refine blk_alloc ?_ _)); exact BK828.out⟩, ⟨by (with_reducible repeat (first | refine blk_drewN ?_ _ | refine blk_drew ?_ | refine blk_alloc ?_ _)); exact BK834.out⟩, ⟨by (with_reducible repeat (first | refine blk_drewN ?_ _ | refine blk_drew ?_ | refine blk_alloc ?_ _)); exact BK841.out⟩, ⟨by repeat (first | (with_reducible first | exact HB.out | apply below_alloc | apply pw_below_drewN | apply below_drew1 | refine below_set ?_ GE815.out | refine below_set ?_ GE828.out | refine below_set ?_ GE834.out | refine below_set ?_ GE841.out) | exact HB.out)⟩⟩
              · rw [if_neg c73] at H
                have c73b0 : decide (t849 < 0) = false := decide_eq_false c73
                clear c73
                (first | rw [c73b0] | (simp only [i64_w, i32_w]; rw [c73b0]) | skip)
                replace H := Option.bind_eq_some_iff.mp H
                obtain ⟨t851, A740, H⟩ := H
                replace H : (if t851 = true then (laws_FnExactScreenLevel.j1 kj13 a1 a2 a3 t827 (t840 != t827) a0_0 a0_1 l0_2 t822 t823 t824 t835 t836 t837) else (laws_FnExactScreenLevel.j1 kj13 a1 a2 a3 t827 true a0_0 a0_1 l0_2 t822 t823 t824 t835 t836 t837)) = some r := H
                have A74 := Aside0.mk A740
                clear A740
                by_cases c75 : t851 = true
                · subst c75
                  have H1 : (laws_FnExactScreenLevel.j1 kj13 a1 a2 a3 t827 (t840 != t827) a0_0 a0_1 l0_2 t822 t823 t824 t835 t836 t837) = some r := by rw [if_pos rfl] at H; exact H
                  clear H
                  have H := H1
                  clear H1
                  have H' := Aside0.mk H
                  clear H
                  have hnb76 := NB841_815.out
                  have hnc76 := NB815_841.out
                  have hnb77 := NB841_828.out
                  have hnc77 := NB828_841.out
                  have hnb78 := NB841_834.out
                  have hnc78 := NB834_841.out
                  have hcz79_0 : w72.cell? ⟨gb841, 0, none⟩ = some (.int .i64 t835) := (blk_cell BK841.out 0).trans rfl
                  have hcz79_1 : w72.cell? ⟨gb841, 1, none⟩ = some (.int .i64 t836) := (blk_cell BK841.out 1).trans rfl
                  have hcz79_2 : w72.cell? ⟨gb841, 2, none⟩ = some (.slice Ao39 t837.length co39) := (blk_cell BK841.out 2).trans rfl
                  have hfz79_0 := blk_frozen BK841.out 0
                  have hfz79_1 := blk_frozen BK841.out 1
                  have hfz79_2 := blk_frozen BK841.out 2
                  have hnb80 := NB828_815.out
                  have hnc80 := NB815_828.out
                  have hnb81 := NB828_834.out
                  have hnc81 := NB834_828.out
                  have hcz82_0 : w72.cell? ⟨gb828, 0, none⟩ = some (.int .i64 t822) := (blk_cell BK828.out 0).trans rfl
                  have hcz82_1 : w72.cell? ⟨gb828, 1, none⟩ = some (.int .i64 t823) := (blk_cell BK828.out 1).trans rfl
                  have hcz82_2 : w72.cell? ⟨gb828, 2, none⟩ = some (.slice Ao25 t824.length co25) := (blk_cell BK828.out 2).trans rfl
                  have hfz82_0 := blk_frozen BK828.out 0
                  have hfz82_1 := blk_frozen BK828.out 1
                  have hfz82_2 := blk_frozen BK828.out 2
                  go_wp2_with (first | (go_at_call 49; (with_reducible refine (laws_eqPicture.calls kj13 t835 t836 _ _ t837 t822 t823 _ _ t824 true _ ?side1 ?side2 ?side3 ?side4 A74.out).mono ?_); (case side1 => repeat (first | exact (Kd.R_reads' HO_842002.out).2.2 | (with_reducible refine Kd.C_alloc ?_ _) | (with_reducible refine Kd.C_drewN ?_ _) | (with_reducible refine Kd.C_drew ?_))); (case side2 => exact (Kd.R_reads' HO_842002.out).2.1); (case side3 => repeat (first | exact (Kd.R_reads' HO_829002.out).2.2 | (with_reducible refine Kd.C_alloc ?_ _) | (with_reducible refine Kd.C_drewN ?_ _) | (with_reducible refine Kd.C_drew ?_))); (case side4 => exact (Kd.R_reads' HO_829002.out).2.1); rintro e w83 ⟨rfl, hb⟩; have n0_ := Aside0.mk (Kd.R_below (by (with_reducible repeat (first | apply Kd.R_alloc | apply Kd.R_drewN | apply Kd.R_drew)); exact HO_829002.out) hb); have n1_ := Aside0.mk (Kd.R_below (by (with_reducible repeat (first | apply Kd.R_alloc | apply Kd.R_drewN | apply Kd.R_drew)); exact HO_835002.out) hb); have n2_ := Aside0.mk (Kd.R_below (by (with_reducible repeat (first | apply Kd.R_alloc | apply Kd.R_drewN | apply Kd.R_drew)); exact HO_842002.out) hb); have n3_ := Aside0.mk (Kd.R_below (by (with_reducible repeat (first | apply Kd.R_alloc | apply Kd.R_drewN | apply Kd.R_drew)); exact HO847.out) hb); have n4_ := Aside0.mk (blk_below (g := gb815) (o := .cells #[.int .i64 a0_0, .int .i64 a0_1, .slice A0_2 l0_2.length c0_2] 55 (0, 0)) (by (with_reducible repeat (first | refine blk_drewN ?_ _ | refine blk_drew ?_ | refine blk_alloc ?_ _)); exact BK815.out) hb); have n5_ := Aside0.mk (blk_below (g := gb828) (o := .cells #[.int .i64 t822, .int .i64 t823, .slice Ao25 t824.length co25] 41 (0, 0)) (by (with_reducible repeat (first | refine blk_drewN ?_ _ | refine blk_drew ?_ | refine blk_alloc ?_ _)); exact BK828.out) hb); have n6_ := Aside0.mk (blk_below (g := gb834) (o := .cells #[.int .i64 t829, .int .i64 t830, .slice Ao32 t831.length co32] 26 (0, 0)) (by (with_reducible repeat (first | refine blk_drewN ?_ _ | refine blk_drew ?_ | refine blk_alloc ?_ _)); exact BK834.out) hb); have n7_ := Aside0.mk (blk_below (g := gb841) (o := .cells #[.int .i64 t835, .int .i64 t836, .slice Ao39 t837.length co39] 41 (0, 0)) (by (with_reducible repeat (first | refine blk_drewN ?_ _ | refine blk_drew ?_ | refine blk_alloc ?_ _)); exact BK841.out) hb); have n8_ := Aside0.mk (below_step (by repeat (first | (with_reducible first | exact HB.out | apply below_alloc | apply pw_below_drewN | apply below_drew1 | refine below_set ?_ GE815.out | refine below_set ?_ GE828.out | refine below_set ?_ GE834.out | refine below_set ?_ GE841.out) | exact HB.out)) hb); clear HO_829002; clear HO_835002; clear HO_842002; clear HO847; clear BK815; clear BK828; clear BK834; clear BK841; clear HB; have HO_829002 := n0_; have HO_835002 := n1_; have HO_842002 := n2_; have HO847 := n3_; have BK815 := n4_; have BK828 := n5_; have BK834 := n6_; have BK841 := n7_; have HB := n8_; clear n0_ n1_ n2_ n3_ n4_ n5_ n6_ n7_ n8_; (try clear hb); (try clear hb2); (try clear hk); (try clear hi)))
                  go_meet
                  case rel => exact ⟨_, ((t840 != t827)), (by first | rfl | (simp; done) | (simp [*]; done)), H', ⟨by have := HJ13.out; first | omega | exact Nat.le_refl _⟩, ⟨by (with_reducible repeat (first | apply Kd.R_alloc | apply Kd.R_drewN | apply Kd.R_drew)); exact Kd.R_mono HO_829002.out (fun _ hk => ⟨hk.1, hk.2.1⟩)⟩, ⟨by (with_reducible repeat (first | apply Kd.R_alloc | apply Kd.R_drewN | apply Kd.R_drew)); exact Kd.R_mono HO_835002.out (fun _ hk => ⟨hk.1.1, hk.1.2⟩)⟩, ⟨by (with_reducible repeat (first | apply Kd.R_alloc | apply Kd.R_drewN | apply Kd.R_drew)); exact Kd.R_mono HO_842002.out (fun _ hk => ⟨hk.1, hk.2.1⟩)⟩, ⟨by (with_reducible repeat (first | refine blk_drewN ?_ _ | refine blk_drew ?_ | refine blk_alloc ?_ _)); exact BK815.out⟩, ⟨by (with_reducible repeat (first | refine blk_drewN ?_ _ | refine blk_drew ?_ | refine blk_alloc ?_ _)); exact BK828.out⟩, ⟨by (with_reducible repeat (first | refine blk_drewN ?_ _ | refine blk_drew ?_ | refine blk_alloc ?_ _)); exact BK834.out⟩, ⟨by (with_reducible repeat (first | refine blk_drewN ?_ _ | refine blk_drew ?_ | refine blk_alloc ?_ _)); exact BK841.out⟩, ⟨by repeat (first | (with_reducible first | exact HB.out | apply below_alloc | apply pw_below_drewN | apply below_drew1 | refine below_set ?_ GE815.out | refine below_set ?_ GE828.out | refine below_set ?_ GE834.out | refine below_set ?_ GE841.out) | exact HB.out)⟩⟩
                · replace c75 := Bool.eq_false_iff.mpr c75
                  subst c75
                  have H1 : (laws_FnExactScreenLevel.j1 kj13 a1 a2 a3 t827 true a0_0 a0_1 l0_2 t822 t823 t824 t835 t836 t837) = some r := by rw [if_neg (show ¬ (false = true) by decide)] at H; exact H
                  clear H
                  have H := H1
                  clear H1
                  have H' := Aside0.mk H
                  clear H
                  have hnb84 := NB841_815.out
                  have hnc84 := NB815_841.out
                  have hnb85 := NB841_828.out
                  have hnc85 := NB828_841.out
                  have hnb86 := NB841_834.out
                  have hnc86 := NB834_841.out
                  have hcz87_0 : w72.cell? ⟨gb841, 0, none⟩ = some (.int .i64 t835) := (blk_cell BK841.out 0).trans rfl
                  have hcz87_1 : w72.cell? ⟨gb841, 1, none⟩ = some (.int .i64 t836) := (blk_cell BK841.out 1).trans rfl
                  have hcz87_2 : w72.cell? ⟨gb841, 2, none⟩ = some (.slice Ao39 t837.length co39) := (blk_cell BK841.out 2).trans rfl
                  have hfz87_0 := blk_frozen BK841.out 0
                  have hfz87_1 := blk_frozen BK841.out 1
                  have hfz87_2 := blk_frozen BK841.out 2
                  have hnb88 := NB828_815.out
                  have hnc88 := NB815_828.out
                  have hnb89 := NB828_834.out
                  have hnc89 := NB834_828.out
                  have hcz90_0 : w72.cell? ⟨gb828, 0, none⟩ = some (.int .i64 t822) := (blk_cell BK828.out 0).trans rfl
                  have hcz90_1 : w72.cell? ⟨gb828, 1, none⟩ = some (.int .i64 t823) := (blk_cell BK828.out 1).trans rfl
                  have hcz90_2 : w72.cell? ⟨gb828, 2, none⟩ = some (.slice Ao25 t824.length co25) := (blk_cell BK828.out 2).trans rfl
                  have hfz90_0 := blk_frozen BK828.out 0
                  have hfz90_1 := blk_frozen BK828.out 1
                  have hfz90_2 := blk_frozen BK828.out 2
                  go_wp2_with (first | (go_at_call 49; (with_reducible refine (laws_eqPicture.calls kj13 t835 t836 _ _ t837 t822 t823 _ _ t824 false _ ?side1 ?side2 ?side3 ?side4 A74.out).mono ?_); (case side1 => repeat (first | exact (Kd.R_reads' HO_842002.out).2.2 | (with_reducible refine Kd.C_alloc ?_ _) | (with_reducible refine Kd.C_drewN ?_ _) | (with_reducible refine Kd.C_drew ?_))); (case side2 => exact (Kd.R_reads' HO_842002.out).2.1); (case side3 => repeat (first | exact (Kd.R_reads' HO_829002.out).2.2 | (with_reducible refine Kd.C_alloc ?_ _) | (with_reducible refine Kd.C_drewN ?_ _) | (with_reducible refine Kd.C_drew ?_))); (case side4 => exact (Kd.R_reads' HO_829002.out).2.1); rintro e w91 ⟨rfl, hb⟩; have n0_ := Aside0.mk (Kd.R_below (by (with_reducible repeat (first | apply Kd.R_alloc | apply Kd.R_drewN | apply Kd.R_drew)); exact HO_829002.out) hb); have n1_ := Aside0.mk (Kd.R_below (by (with_reducible repeat (first | apply Kd.R_alloc | apply Kd.R_drewN | apply Kd.R_drew)); exact HO_835002.out) hb); have n2_ := Aside0.mk (Kd.R_below (by (with_reducible repeat (first | apply Kd.R_alloc | apply Kd.R_drewN | apply Kd.R_drew)); exact HO_842002.out) hb); have n3_ := Aside0.mk (Kd.R_below (by (with_reducible repeat (first | apply Kd.R_alloc | apply Kd.R_drewN | apply Kd.R_drew)); exact HO847.out) hb); have n4_ := Aside0.mk (blk_below (g := gb815) (o := .cells #[.int .i64 a0_0, .int .i64 a0_1, .slice A0_2 l0_2.length c0_2] 55 (0, 0)) (by (with_reducible repeat (first | refine blk_drewN ?_ _ | refine blk_drew ?_ | refine blk_alloc ?_ _)); exact BK815.out) hb); have n5_ := Aside0.mk (blk_below (g := gb828) (o := .cells #[.int .i64 t822, .int .i64 t823, .slice Ao25 t824.length co25] 41 (0, 0)) (by (with_reducible repeat (first | refine blk_drewN ?_ _ | refine blk_drew ?_ | refine blk_alloc ?_ _)); exact BK828.out) hb); have n6_ := Aside0.mk (blk_below (g := gb834) (o := .cells #[.int .i64 t829, .int .i64 t830, .slice Ao32 t831.length co32] 26 (0, 0)) (by (with_reducible repeat (first | refine blk_drewN ?_ _ | refine blk_drew ?_ | refine blk_alloc ?_ _)); exact BK834.out) hb); have n7_ := Aside0.mk (blk_below (g := gb841) (o := .cells #[.int .i64 t835, .int .i64 t836, .slice Ao39 t837.length co39] 41 (0, 0)) (by (with_reducible repeat (first | refine blk_drewN ?_ _ | refine blk_drew ?_ | refine blk_alloc ?_ _)); exact BK841.out) hb); have n8_ := Aside0.mk (below_step (by repeat (first | (with_reducible first | exact HB.out | apply below_alloc | apply pw_below_drewN | apply below_drew1 | refine below_set ?_ GE815.out | refine below_set ?_ GE828.out | refine below_set ?_ GE834.out | refine below_set ?_ GE841.out) | exact HB.out)) hb); clear HO_829002; clear HO_835002; clear HO_842002; clear HO847; clear BK815; clear BK828; clear BK834; clear BK841; clear HB; have HO_829002 := n0_; have HO_835002 := n1_; have HO_842002 := n2_; have HO847 := n3_; have BK815 := n4_; have BK828 := n5_; have BK834 := n6_; have BK841 := n7_; have HB := n8_; clear n0_ n1_ n2_ n3_ n4_ n5_ n6_ n7_ n8_; (try clear hb); (try clear hb2); (try clear hk); (try clear hi)))
                  go_meet
                  case rel => exact ⟨_, (true), (by first | rfl | (simp; done) | (simp [*]; done)), H', ⟨by have := HJ13.out; first | omega | exact Nat.le_refl _⟩, ⟨by (with_reducible repeat (first | apply Kd.R_alloc | apply Kd.R_drewN | apply Kd.R_drew)); exact Kd.R_mono HO_829002.out (fun _ hk => ⟨hk.1, hk.2.1⟩)⟩, ⟨by (with_reducible repeat (first | apply Kd.R_alloc | apply Kd.R_drewN | apply Kd.R_drew)); exact Kd.R_mono HO_835002.out (fun _ hk => ⟨hk.1.1, hk.1.2⟩)⟩, ⟨by (with_reducible repeat (first | apply Kd.R_alloc | apply Kd.R_drewN | apply Kd.R_drew)); exact Kd.R_mono HO_842002.out (fun _ hk => ⟨hk.1, hk.2.1⟩)⟩, ⟨by (with_reducible repeat (first | refine blk_drewN ?_ _ | refine blk_drew ?_ | refine blk_alloc ?_ _)); exact BK815.out⟩, ⟨by (with_reducible repeat (first | refine blk_drewN ?_ _ | refine blk_drew ?_ | refine blk_alloc ?_ _)); exact BK828.out⟩, ⟨by (with_reducible repeat (first | refine blk_drewN ?_ _ | refine blk_drew ?_ | refine blk_alloc ?_ _)); exact BK834.out⟩, ⟨by (with_reducible repeat (first | refine blk_drewN ?_ _ | refine blk_drew ?_ | refine blk_alloc ?_ _)); exact BK841.out⟩, ⟨by repeat (first | (with_reducible first | exact HB.out | apply below_alloc | apply pw_below_drewN | apply below_drew1 | refine below_set ?_ GE815.out | refine below_set ?_ GE828.out | refine below_set ?_ GE834.out | refine below_set ?_ GE841.out) | exact HB.out)⟩⟩
            case rest =>
              clear HC63
              try clear c1
              try clear c2
              try clear p2
              try clear c3
              try clear c4
              try clear c5
              try clear c6
              try clear c6b0
              try clear c7
              try clear c8
              try clear c14
              try clear c23
              try clear c29
              try clear c30
              try clear c34
              try clear c35
              try clear c36
              try clear c37
              try clear c39
              try clear c41
              try clear c42
              try clear c43
              try clear c44
              try clear c46
              try clear c47
              try clear c49
              try clear c50
              try clear c51
              try clear c52
              try clear c54
              try clear c55
              try clear c56
              try clear c58
              try clear c60
              try clear c61
              try clear c68
              try clear c69
              try clear c70
              try clear c73
              try clear c73b0
              try clear c75
              try clear c76
              try clear c77
              try clear c78
              try clear c80
              try clear c81
              try clear c84
              try clear c85
              try clear c86
              try clear c88
              try clear c89
              try clear hcz16_0
              try clear hcz16_1
              try clear hcz16_2
              try clear hcz18_0
              try clear hcz18_1
              try clear hcz18_2
              try clear hcz24_0
              try clear hcz24_1
              try clear hcz24_2
              try clear hcz26_0
              try clear hcz26_1
              try clear hcz26_2
              try clear hcz31_0
              try clear hcz31_1
              try clear hcz31_2
              try clear hcz38_0
              try clear hcz38_1
              try clear hcz38_2
              try clear hcz45_0
              try clear hcz45_1
              try clear hcz45_2
              try clear hcz48_0
              try clear hcz48_1
              try clear hcz48_2
              try clear hcz53_0
              try clear hcz53_1
              try clear hcz53_2
              try clear hcz56_0
              try clear hcz56_1
              try clear hcz56_2
              try clear hcz71_0
              try clear hcz71_1
              try clear hcz71_2
              try clear hcz79_0
              try clear hcz79_1
              try clear hcz79_2
              try clear hcz82_0
              try clear hcz82_1
              try clear hcz82_2
              try clear hcz87_0
              try clear hcz87_1
              try clear hcz87_2
              try clear hcz8_0
              try clear hcz8_1
              try clear hcz8_2
              try clear hcz90_0
              try clear hcz90_1
              try clear hcz90_2
              try clear hfz16_0
              try clear hfz16_1
              try clear hfz16_2
              try clear hfz18_0
              try clear hfz18_1
              try clear hfz18_2
              try clear hfz24_0
              try clear hfz24_1
              try clear hfz24_2
              try clear hfz26_0
              try clear hfz26_1
              try clear hfz26_2
              try clear hfz31_0
              try clear hfz31_1
              try clear hfz31_2
              try clear hfz38_0
              try clear hfz38_1
              try clear hfz38_2
              try clear hfz45_0
              try clear hfz45_1
              try clear hfz45_2
              try clear hfz48_0
              try clear hfz48_1
              try clear hfz48_2
              try clear hfz53_0
              try clear hfz53_1
              try clear hfz53_2
              try clear hfz56_0
              try clear hfz56_1
              try clear hfz56_2
              try clear hfz71_0
              try clear hfz71_1
              try clear hfz71_2
              try clear hfz79_0
              try clear hfz79_1
              try clear hfz79_2
              try clear hfz82_0
              try clear hfz82_1
              try clear hfz82_2
              try clear hfz87_0
              try clear hfz87_1
              try clear hfz87_2
              try clear hfz8_0
              try clear hfz8_1
              try clear hfz8_2
              try clear hfz90_0
              try clear hfz90_1
              try clear hfz90_2
              try clear p2
              obtain ⟨kq, x73_62, rfl, HA, HJ62, HO_829002, HO_835002, HO_842002, BK815, BK828, BK834, BK841, HB⟩ := hcut
              have hl835002_62 := (Kd.R_reads' HO_835002.out).1
              rw [hl835002_62] at HO_835002
              (try simp only [hl835002_62])
              (try simp only [hl835002_62] at BK815)
              (try simp only [hl835002_62] at BK828)
              (try simp only [hl835002_62] at BK834)
              (try simp only [hl835002_62] at BK841)
              (try simp only [hl835002_62] at HO_829002)
              (try simp only [hl835002_62] at HO_842002)
              cases kq with
              | zero => exact absurd HA.out (by simp [laws_FnExactScreenLevel.j1])
              | succ kj62 =>
                have H := HA.out
                clear HA
                simp only [laws_FnExactScreenLevel.j1] at H
                by_cases c92 : x73_62 = true
                · subst c92
                  have H1 : (some false) = some r := by rw [if_pos rfl] at H; exact H
                  clear H
                  have H := H1
                  clear H1
                  exact absurd ((Option.some.inj H).trans hT.out) (by decide)
                · replace c92 := Bool.eq_false_iff.mpr c92
                  subst c92
                  have H1 : ((laws_markPicture.f kj62 t835 t836 t837 1).bind fun bt852 => ((laws_heldPicture.f kj62 t835 t836 bt852.2 1).bind fun t854 => (if t854 < 0 then (some false) else (if t854 = bt852.1 then ((laws_toMatrix.f kj62 a0_0 a0_1 l0_2).bind fun bt855 => ((impl_ScreenLevel.f bt855.1 bt855.2.1 bt855.2.2 a1 a2 a3).bind fun bt860 => ((laws_eqPicture.f kj62 bt860.1 bt860.2.1 bt860.2.2.1 t822 t823 t824).bind fun t867 => (if t867 = true then (laws_FnExactScreenLevel.j2 kj62 bt852.1 (bt860.2.2.2 != t827) t835 t836 bt852.2) else (laws_FnExactScreenLevel.j2 kj62 bt852.1 true t835 t836 bt852.2))))) else (some false))))) = some r := by rw [if_neg (show ¬ (false = true) by decide)] at H; exact H
                  clear H
                  have H := H1
                  clear H1
                  replace H := Option.bind_eq_some_iff.mp H
                  obtain ⟨⟨t852, t853⟩, A930, H⟩ := H
                  replace H : ((laws_heldPicture.f kj62 t835 t836 t853 1).bind fun t854 => (if t854 < 0 then (some false) else (if t854 = t852 then ((laws_toMatrix.f kj62 a0_0 a0_1 l0_2).bind fun bt855 => ((impl_ScreenLevel.f bt855.1 bt855.2.1 bt855.2.2 a1 a2 a3).bind fun bt860 => ((laws_eqPicture.f kj62 bt860.1 bt860.2.1 bt860.2.2.1 t822 t823 t824).bind fun t867 => (if t867 = true then (laws_FnExactScreenLevel.j2 kj62 t852 (bt860.2.2.2 != t827) t835 t836 t853) else (laws_FnExactScreenLevel.j2 kj62 t852 true t835 t836 t853))))) else (some false)))) = some r := H
                  have A93 := Aside0.mk A930
                  clear A930
                  replace H := Option.bind_eq_some_iff.mp H
                  obtain ⟨t854, A940, H⟩ := H
                  replace H : (if t854 < 0 then (some false) else (if t854 = t852 then ((laws_toMatrix.f kj62 a0_0 a0_1 l0_2).bind fun bt855 => ((impl_ScreenLevel.f bt855.1 bt855.2.1 bt855.2.2 a1 a2 a3).bind fun bt860 => ((laws_eqPicture.f kj62 bt860.1 bt860.2.1 bt860.2.2.1 t822 t823 t824).bind fun t867 => (if t867 = true then (laws_FnExactScreenLevel.j2 kj62 t852 (bt860.2.2.2 != t827) t835 t836 t853) else (laws_FnExactScreenLevel.j2 kj62 t852 true t835 t836 t853))))) else (some false))) = some r := H
                  have A94 := Aside0.mk A940
                  clear A940
                  by_cases c95 : t854 < 0
                  · rw [if_pos c95] at H
                    have c95b0 : decide (t854 < 0) = true := decide_eq_true c95
                    clear c95
                    exact absurd ((Option.some.inj H).trans hT.out) (by decide)
                  · rw [if_neg c95] at H
                    have c95b0 : decide (t854 < 0) = false := decide_eq_false c95
                    clear c95
                    by_cases c96 : t854 = t852
                    · rw [if_pos c96] at H
                      have c96b0 : (t854 == t852) = true := beq_iff_eq.mpr c96
                      have c96b1 : (t854 != t852) = false := bne_eq_false_iff_eq.mpr c96
                      clear c96
                      replace H := Option.bind_eq_some_iff.mp H
                      obtain ⟨⟨t855, t856, t857⟩, A970, H⟩ := H
                      replace H : ((impl_ScreenLevel.f t855 t856 t857 a1 a2 a3).bind fun bt860 => ((laws_eqPicture.f kj62 bt860.1 bt860.2.1 bt860.2.2.1 t822 t823 t824).bind fun t867 => (if t867 = true then (laws_FnExactScreenLevel.j2 kj62 t852 (bt860.2.2.2 != t827) t835 t836 t853) else (laws_FnExactScreenLevel.j2 kj62 t852 true t835 t836 t853)))) = some r := H
                      have A97 := Aside0.mk A970
                      clear A970
                      replace H := Option.bind_eq_some_iff.mp H
                      obtain ⟨⟨t860, t861, t862, t865⟩, A980, H⟩ := H
                      replace H : ((laws_eqPicture.f kj62 t860 t861 t862 t822 t823 t824).bind fun t867 => (if t867 = true then (laws_FnExactScreenLevel.j2 kj62 t852 (t865 != t827) t835 t836 t853) else (laws_FnExactScreenLevel.j2 kj62 t852 true t835 t836 t853))) = some r := H
                      have A98 := Aside0.mk A980
                      clear A980
                      have HC99 := Aside0.mk H
                      clear H
                      have hnb100 := NB841_815.out
                      have hnc100 := NB815_841.out
                      have hnb101 := NB841_828.out
                      have hnc101 := NB828_841.out
                      have hnb102 := NB841_834.out
                      have hnc102 := NB834_841.out
                      have hcz103_0 : wc.cell? ⟨gb841, 0, none⟩ = some (.int .i64 t835) := (blk_cell BK841.out 0).trans rfl
                      have hcz103_1 : wc.cell? ⟨gb841, 1, none⟩ = some (.int .i64 t836) := (blk_cell BK841.out 1).trans rfl
                      have hcz103_2 : wc.cell? ⟨gb841, 2, none⟩ = some (.slice Ao39 t837.length co39) := (blk_cell BK841.out 2).trans rfl
                      have hfz103_0 := blk_frozen BK841.out 0
                      have hfz103_1 := blk_frozen BK841.out 1
                      have hfz103_2 := blk_frozen BK841.out 2
                      go_upto_region 25 with (first | ((with_reducible refine gate_callee (f := 50) rfl ?_); refine goesL_ (some 76) rfl rfl Try.func50 (by kernel_rfl) rfl #[.agg #[.int .i64 t835, .int .i64 t836, .slice Ao39 t837.length co39], .int .i64 1] rfl (by (try simp only [List.map_toArray, List.map_cons, List.map_nil]); first | done | rfl | (simp only [List.length_drop, List.length_take]; rfl)) ?_; (with_reducible refine (laws_markPicture.calls kj62 t835 t836 (fun k_ => some k_ = (.slice Ao39 t837.length co39 : Value).ownBlock) (.slice Ao39 t837.length co39) t837 1 t852 t853 w _ ?side1 ?side2 A93.out).mono ?_); (case side1 => repeat (first | (with_reducible first | exact HB.out | apply below_alloc | apply pw_below_drewN | apply below_drew1 | refine below_set ?_ GE815.out | refine below_set ?_ GE828.out | refine below_set ?_ GE834.out | refine below_set ?_ GE841.out) | exact HB.out)); (case side2 => exact Kd.R_tight rfl HO_842002.out); rintro e w104 ⟨rfl, hy0, hb, hkp⟩; refine ⟨_, rfl, ?_⟩; have n0_ := Aside0.mk (Kd.R_mono (ok' := fun k_ => some k_ ≠ (.slice Ao32 t850.length co32 : Value).ownBlock ∧ some k_ ≠ (.slice Ao39 t837.length co39 : Value).ownBlock) (Kd.R_keptB (HO_829002.out) hkp (fun k_ hk_ hs_ => (hk_.2) hs_)) (fun k_ hk_ => ⟨hk_.1.1, hk_.1.2⟩)); have n1_ := Aside0.mk (Kd.R_mono (ok' := fun k_ => some k_ ≠ (.slice Ao25 t824.length co25 : Value).ownBlock ∧ some k_ ≠ (.slice Ao39 t837.length co39 : Value).ownBlock) (Kd.R_keptB (HO_835002.out) hkp (fun k_ hk_ hs_ => (hk_.2) hs_)) (fun k_ hk_ => ⟨hk_.1.1, hk_.1.2⟩)); have n2_ := Aside0.mk (Kd.R_reok rfl hy0 (fun k_ e_ => HO_842002.out.1 k_ e_)); have n3_ := Aside0.mk (blk_kept (by (with_reducible repeat (first | refine blk_drewN ?_ _ | refine blk_drew ?_ | refine blk_alloc ?_ _)); exact BK815.out) hkp (fun hs_ => (fun e_ => (Kd.R_ne HO_842002.out BK815.out (by decide)) e_) hs_)); have n4_ := Aside0.mk (blk_kept (by (with_reducible repeat (first | refine blk_drewN ?_ _ | refine blk_drew ?_ | refine blk_alloc ?_ _)); exact BK828.out) hkp (fun hs_ => (fun e_ => (Kd.R_ne HO_842002.out BK828.out (by decide)) e_) hs_)); have n5_ := Aside0.mk (blk_kept (by (with_reducible repeat (first | refine blk_drewN ?_ _ | refine blk_drew ?_ | refine blk_alloc ?_ _)); exact BK834.out) hkp (fun hs_ => (fun e_ => (Kd.R_ne HO_842002.out BK834.out (by decide)) e_) hs_)); have n6_ := Aside0.mk (blk_kept (by (with_reducible repeat (first | refine blk_drewN ?_ _ | refine blk_drew ?_ | refine blk_alloc ?_ _)); exact BK841.out) hkp (fun hs_ => (fun e_ => (Kd.R_ne HO_842002.out BK841.out (by decide)) e_) hs_)); have n7_ := Aside0.mk (hb); clear HO_829002; clear HO_835002; clear HO_842002; clear BK815; clear BK828; clear BK834; clear BK841; clear HB; have HO_829002 := n0_; have HO_835002 := n1_; have HO_842002 := n2_; have BK815 := n3_; have BK828 := n4_; have BK834 := n5_; have BK841 := n6_; have HB := n7_; clear n0_ n1_ n2_ n3_ n4_ n5_ n6_ n7_; (try clear hb); (try clear hkp); (try clear hy0); have hcz105_0 : w104.cell? ⟨gb841, 0, none⟩ = some (.int .i64 t835) := (blk_cell BK841.out 0).trans rfl; have hcz105_1 : w104.cell? ⟨gb841, 1, none⟩ = some (.int .i64 t836) := (blk_cell BK841.out 1).trans rfl; have hcz105_2 : w104.cell? ⟨gb841, 2, none⟩ = some (.slice Ao39 t837.length co39) := (blk_cell BK841.out 2).trans rfl; have hfz105_0 := blk_frozen BK841.out 0; have hfz105_1 := blk_frozen BK841.out 1; have hfz105_2 := blk_frozen BK841.out 2) | ((with_reducible refine gate_callee (f := 51) rfl ?_); refine goesL_ (some 79) rfl rfl Try.func51 (by kernel_rfl) rfl #[.agg #[.int .i64 t835, .int .i64 t836, .slice Ao39 t853.length co39], .int .i64 1] rfl (by (try simp only [List.map_toArray, List.map_cons, List.map_nil]); first | done | (rw [show t853.length = t837.length from (Kd.R_reads' HO_842002.out).1.symm] <;> rfl) | rfl | (simp only [List.length_drop, List.length_take]; rfl)) ?_; (with_reducible refine (laws_heldPicture.calls kj62 t835 t836 _ _ t853 1 t854 _ ?side1 ?side2 A94.out).mono ?_); (case side1 => repeat (first | exact (Kd.R_reads' HO_842002.out).2.2 | (with_reducible refine Kd.C_alloc ?_ _) | (with_reducible refine Kd.C_drewN ?_ _) | (with_reducible refine Kd.C_drew ?_))); (case side2 => rw [show t853.length = t837.length from (Kd.R_reads' HO_842002.out).1.symm]; exact (Kd.R_reads' HO_842002.out).2.1); rintro e w106 ⟨rfl, hb⟩; refine ⟨_, rfl, ?_⟩; have n0_ := Aside0.mk (Kd.R_below (by (with_reducible repeat (first | apply Kd.R_alloc | apply Kd.R_drewN | apply Kd.R_drew)); exact HO_829002.out) hb); have n1_ := Aside0.mk (Kd.R_below (by (with_reducible repeat (first | apply Kd.R_alloc | apply Kd.R_drewN | apply Kd.R_drew)); exact HO_835002.out) hb); have n2_ := Aside0.mk (Kd.R_below (by (with_reducible repeat (first | apply Kd.R_alloc | apply Kd.R_drewN | apply Kd.R_drew)); exact HO_842002.out) hb); have n3_ := Aside0.mk (blk_below (g := gb815) (o := .cells #[.int .i64 a0_0, .int .i64 a0_1, .slice A0_2 l0_2.length c0_2] 55 (0, 0)) (by (with_reducible repeat (first | refine blk_drewN ?_ _ | refine blk_drew ?_ | refine blk_alloc ?_ _)); exact BK815.out) hb); have n4_ := Aside0.mk (blk_below (g := gb828) (o := .cells #[.int .i64 t822, .int .i64 t823, .slice Ao25 t824.length co25] 41 (0, 0)) (by (with_reducible repeat (first | refine blk_drewN ?_ _ | refine blk_drew ?_ | refine blk_alloc ?_ _)); exact BK828.out) hb); have n5_ := Aside0.mk (blk_below (g := gb834) (o := .cells #[.int .i64 t829, .int .i64 t830, .slice Ao32 t850.length co32] 26 (0, 0)) (by (with_reducible repeat (first | refine blk_drewN ?_ _ | refine blk_drew ?_ | refine blk_alloc ?_ _)); exact BK834.out) hb); have n6_ := Aside0.mk (blk_below (g := gb841) (o := .cells #[.int .i64 t835, .int .i64 t836, .slice Ao39 t837.length co39] 41 (0, 0)) (by (with_reducible repeat (first | refine blk_drewN ?_ _ | refine blk_drew ?_ | refine blk_alloc ?_ _)); exact BK841.out) hb); have n7_ := Aside0.mk (below_step (by repeat (first | (with_reducible first | exact HB.out | apply below_alloc | apply pw_below_drewN | apply below_drew1 | refine below_set ?_ GE815.out | refine below_set ?_ GE828.out | refine below_set ?_ GE834.out | refine below_set ?_ GE841.out) | exact HB.out)) hb); clear HO_829002; clear HO_835002; clear HO_842002; clear BK815; clear BK828; clear BK834; clear BK841; clear HB; have HO_829002 := n0_; have HO_835002 := n1_; have HO_842002 := n2_; have BK815 := n3_; have BK828 := n4_; have BK834 := n5_; have BK841 := n6_; have HB := n7_; clear n0_ n1_ n2_ n3_ n4_ n5_ n6_ n7_; (try clear hb); (try clear hb2); (try clear hk); (try clear hi); have hnb107 := NB815_828.out; have hnc107 := NB828_815.out; have hnb108 := NB815_834.out; have hnc108 := NB834_815.out; have hcz109_0 : w106.cell? ⟨gb815, 0, none⟩ = some (.int .i64 a0_0) := (blk_cell BK815.out 0).trans rfl; have hcz109_1 : w106.cell? ⟨gb815, 1, none⟩ = some (.int .i64 a0_1) := (blk_cell BK815.out 1).trans rfl; have hcz109_2 : w106.cell? ⟨gb815, 2, none⟩ = some (.slice A0_2 l0_2.length c0_2) := (blk_cell BK815.out 2).trans rfl; have hfz109_0 := blk_frozen BK815.out 0; have hfz109_1 := blk_frozen BK815.out 1; have hfz109_2 := blk_frozen BK815.out 2) | ((with_reducible refine gate_callee (f := 58) rfl ?_); refine goesL_ (some 87) rfl rfl Try.func58 (by kernel_rfl) rfl #[.agg #[.int .i64 a0_0, .int .i64 a0_1, .slice A0_2 l0_2.length c0_2]] rfl (by (try simp only [List.map_toArray, List.map_cons, List.map_nil]); first | done | rfl | (simp only [List.length_drop, List.length_take]; rfl)) ?_; (with_reducible refine (laws_toMatrix.calls kj62 a0_0 a0_1 _ _ l0_2 t855 t856 t857 _ ?side1 ?side2 A97.out).mono ?_); (case side1 => repeat (first | exact (Kd.C_below HR0_2.out HB.out) | (with_reducible refine Kd.C_alloc ?_ _) | (with_reducible refine Kd.C_drewN ?_ _) | (with_reducible refine Kd.C_drew ?_))); (case side2 => exact HC0_2.out); rintro e w110 ⟨v858, rfl, ho0, hb⟩; refine ⟨_, rfl, ?_⟩; have n0_ := Aside0.mk (Kd.R_elder' (by (with_reducible repeat (first | apply Kd.R_alloc | apply Kd.R_drewN | apply Kd.R_drew)); exact HO_829002.out) (Kd.R_base ho0) hb); have n1_ := Aside0.mk (Kd.R_elder' (by (with_reducible repeat (first | apply Kd.R_alloc | apply Kd.R_drewN | apply Kd.R_drew)); exact HO_835002.out) (Kd.R_base ho0) hb); have n2_ := Aside0.mk (Kd.R_elder' (by (with_reducible repeat (first | apply Kd.R_alloc | apply Kd.R_drewN | apply Kd.R_drew)); exact HO_842002.out) (Kd.R_base ho0) hb); have n3_ := Aside0.mk (Kd.R_lower (Kd.R_new' (Kd.R_new' (Kd.R_new' ho0 (Kd.R_lt (by (with_reducible repeat (first | apply Kd.R_alloc | apply Kd.R_drewN | apply Kd.R_drew)); exact HO_829002.out))) (Kd.R_lt (by (with_reducible repeat (first | apply Kd.R_alloc | apply Kd.R_drewN | apply Kd.R_drew)); exact HO_835002.out))) (Kd.R_lt (by (with_reducible repeat (first | apply Kd.R_alloc | apply Kd.R_drewN | apply Kd.R_drew)); exact HO_842002.out))) (below_size (by repeat (first | (with_reducible first | exact HB.out | apply below_alloc | apply pw_below_drewN | apply below_drew1 | refine below_set ?_ GE815.out | refine below_set ?_ GE828.out | refine below_set ?_ GE834.out | refine below_set ?_ GE841.out) | exact HB.out)))); have n4_ := Aside0.mk (blk_below (g := gb815) (o := .cells #[.int .i64 a0_0, .int .i64 a0_1, .slice A0_2 l0_2.length c0_2] 55 (0, 0)) (by (with_reducible repeat (first | refine blk_drewN ?_ _ | refine blk_drew ?_ | refine blk_alloc ?_ _)); exact BK815.out) hb); have n5_ := Aside0.mk (blk_below (g := gb828) (o := .cells #[.int .i64 t822, .int .i64 t823, .slice Ao25 t824.length co25] 41 (0, 0)) (by (with_reducible repeat (first | refine blk_drewN ?_ _ | refine blk_drew ?_ | refine blk_alloc ?_ _)); exact BK828.out) hb); have n6_ := Aside0.mk (blk_below (g := gb834) (o := .cells #[.int .i64 t829, .int .i64 t830, .slice Ao32 t850.length co32] 26 (0, 0)) (by (with_reducible repeat (first | refine blk_drewN ?_ _ | refine blk_drew ?_ | refine blk_alloc ?_ _)); exact BK834.out) hb); have n7_ := Aside0.mk (blk_below (g := gb841) (o := .cells #[.int .i64 t835, .int .i64 t836, .slice Ao39 t837.length co39] 41 (0, 0)) (by (with_reducible repeat (first | refine blk_drewN ?_ _ | refine blk_drew ?_ | refine blk_alloc ?_ _)); exact BK841.out) hb); have n8_ := Aside0.mk (below_step (by repeat (first | (with_reducible first | exact HB.out | apply below_alloc | apply pw_below_drewN | apply below_drew1 | refine below_set ?_ GE815.out | refine below_set ?_ GE828.out | refine below_set ?_ GE834.out | refine below_set ?_ GE841.out) | exact HB.out)) hb); clear HO_829002; clear HO_835002; clear HO_842002; clear BK815; clear BK828; clear BK834; clear BK841; clear HB; have HO_829002 := n0_; have HO_835002 := n1_; have HO_842002 := n2_; have HO859 := n3_; have BK815 := n4_; have BK828 := n5_; have BK834 := n6_; have BK841 := n7_; have HB := n8_; clear n0_ n1_ n2_ n3_ n4_ n5_ n6_ n7_ n8_; (try clear hb); (try clear hb2); (try clear hk); (try clear hi); (try clear ho0); obtain ⟨Ao111, co111, eo111⟩ := Kd.R_slice HO859.out; subst eo111) | ((with_reducible refine gate_callee (f := 39) rfl ?_); refine goesL_ (some 91) rfl rfl Try.func39 (by kernel_rfl) rfl #[.agg #[.int .i64 t855, .int .i64 t856, .slice Ao111 t857.length co111], .int .i64 a1, .int .i64 a2, .int .i64 a3] rfl (by (try simp only [List.map_toArray, List.map_cons, List.map_nil]); first | done | rfl | (simp only [List.length_drop, List.length_take]; rfl)) ?_; (with_reducible refine (impl_ScreenLevel.calls t855 t856 _ _ t857 a1 a2 a3 t860 t861 t862 t865 _ ?side1 ?side2 A98.out).mono ?_); (case side1 => repeat (first | exact (Kd.R_reads' HO859.out).2.2 | (with_reducible refine Kd.C_alloc ?_ _) | (with_reducible refine Kd.C_drewN ?_ _) | (with_reducible refine Kd.C_drew ?_))); (case side2 => exact (Kd.R_reads' HO859.out).2.1); rintro e w112 ⟨v863, rfl, ho0, hb⟩; refine ⟨_, rfl, ?_⟩; have n0_ := Aside0.mk (Kd.R_elder' (by (with_reducible repeat (first | apply Kd.R_alloc | apply Kd.R_drewN | apply Kd.R_drew)); exact HO_829002.out) (Kd.R_base ho0) hb); have n1_ := Aside0.mk (Kd.R_elder' (by (with_reducible repeat (first | apply Kd.R_alloc | apply Kd.R_drewN | apply Kd.R_drew)); exact HO_835002.out) (Kd.R_base ho0) hb); have n2_ := Aside0.mk (Kd.R_elder' (by (with_reducible repeat (first | apply Kd.R_alloc | apply Kd.R_drewN | apply Kd.R_drew)); exact HO_842002.out) (Kd.R_base ho0) hb); have n3_ := Aside0.mk (Kd.R_elder' (by (with_reducible repeat (first | apply Kd.R_alloc | apply Kd.R_drewN | apply Kd.R_drew)); exact HO859.out) (Kd.R_base ho0) hb); have n4_ := Aside0.mk (Kd.R_lower (Kd.R_new' (Kd.R_new' (Kd.R_new' (Kd.R_new' ho0 (Kd.R_lt (by (with_reducible repeat (first | apply Kd.R_alloc | apply Kd.R_drewN | apply Kd.R_drew)); exact HO_829002.out))) (Kd.R_lt (by (with_reducible repeat (first | apply Kd.R_alloc | apply Kd.R_drewN | apply Kd.R_drew)); exact HO_835002.out))) (Kd.R_lt (by (with_reducible repeat (first | apply Kd.R_alloc | apply Kd.R_drewN | apply Kd.R_drew)); exact HO_842002.out))) (Kd.R_lt (by (with_reducible repeat (first | apply Kd.R_alloc | apply Kd.R_drewN | apply Kd.R_drew)); exact HO859.out))) (below_size (by repeat (first | (with_reducible first | exact HB.out | apply below_alloc | apply pw_below_drewN | apply below_drew1 | refine below_set ?_ GE815.out | refine below_set ?_ GE828.out | refine below_set ?_ GE834.out | refine below_set ?_ GE841.out) | exact HB.out)))); have n5_ := Aside0.mk (blk_below (g := gb815) (o := .cells #[.int .i64 a0_0, .int .i64 a0_1, .slice A0_2 l0_2.length c0_2] 55 (0, 0)) (by (with_reducible repeat (first | refine blk_drewN ?_ _ | refine blk_drew ?_ | refine blk_alloc ?_ _)); exact BK815.out) hb); have n6_ := Aside0.mk (blk_below (g := gb828) (o := .cells #[.int .i64 t822, .int .i64 t823, .slice Ao25 t824.length co25] 41 (0, 0)) (by (with_reducible repeat (first | refine blk_drewN ?_ _ | refine blk_drew ?_ | refine blk_alloc ?_ _)); exact BK828.out) hb); have n7_ := Aside0.mk (blk_below (g := gb834) (o := .cells #[.int .i64 t829, .int .i64 t830, .slice Ao32 t850.length co32] 26 (0, 0)) (by (with_reducible repeat (first | refine blk_drewN ?_ _ | refine blk_drew ?_ | refine blk_alloc ?_ _)); exact BK834.out) hb); have n8_ := Aside0.mk (blk_below (g := gb841) (o := .cells #[.int .i64 t835, .int .i64 t836, .slice Ao39 t837.length co39] 41 (0, 0)) (by (with_reducible repeat (first | refine blk_drewN ?_ _ | refine blk_drew ?_ | refine blk_alloc ?_ _)); exact BK841.out) hb); have n9_ := Aside0.mk (below_step (by repeat (first | (with_reducible first | exact HB.out | apply below_alloc | apply pw_below_drewN | apply below_drew1 | refine below_set ?_ GE815.out | refine below_set ?_ GE828.out | refine below_set ?_ GE834.out | refine below_set ?_ GE841.out) | exact HB.out)) hb); clear HO_829002; clear HO_835002; clear HO_842002; clear HO859; clear BK815; clear BK828; clear BK834; clear BK841; clear HB; have HO_829002 := n0_; have HO_835002 := n1_; have HO_842002 := n2_; have HO859 := n3_; have HO864 := n4_; have BK815 := n5_; have BK828 := n6_; have BK834 := n7_; have BK841 := n8_; have HB := n9_; clear n0_ n1_ n2_ n3_ n4_ n5_ n6_ n7_ n8_ n9_; (try clear hb); (try clear hb2); (try clear hk); (try clear hi); (try clear ho0)) | ((with_reducible refine gate_dst (N := 18) rfl ?_); refine box_event ?hg (N := 18) ?hd (cs := #[.int .i64 0, .int .i64 0, .slice none 0 0]) (t := 41) ?hr ?_; (case hd => rfl); (case hg => rfl); (case hr => first | (go_simp; done) | (go_simp; rfl)); intro gb866 hg w113 hbox hb; have n0_ := Aside0.mk (Kd.R_below (by (with_reducible repeat (first | apply Kd.R_alloc | apply Kd.R_drewN | apply Kd.R_drew)); exact HO_829002.out) hb); have n1_ := Aside0.mk (Kd.R_below (by (with_reducible repeat (first | apply Kd.R_alloc | apply Kd.R_drewN | apply Kd.R_drew)); exact HO_835002.out) hb); have n2_ := Aside0.mk (Kd.R_below (by (with_reducible repeat (first | apply Kd.R_alloc | apply Kd.R_drewN | apply Kd.R_drew)); exact HO_842002.out) hb); have n3_ := Aside0.mk (Kd.R_below (by (with_reducible repeat (first | apply Kd.R_alloc | apply Kd.R_drewN | apply Kd.R_drew)); exact HO859.out) hb); have n4_ := Aside0.mk (Kd.R_below (by (with_reducible repeat (first | apply Kd.R_alloc | apply Kd.R_drewN | apply Kd.R_drew)); exact HO864.out) hb); have n5_ := Aside0.mk (blk_below (g := gb815) (o := .cells #[.int .i64 a0_0, .int .i64 a0_1, .slice A0_2 l0_2.length c0_2] 55 (0, 0)) (by (with_reducible repeat (first | refine blk_drewN ?_ _ | refine blk_drew ?_ | refine blk_alloc ?_ _)); exact BK815.out) hb); have n6_ := Aside0.mk (blk_below (g := gb828) (o := .cells #[.int .i64 t822, .int .i64 t823, .slice Ao25 t824.length co25] 41 (0, 0)) (by (with_reducible repeat (first | refine blk_drewN ?_ _ | refine blk_drew ?_ | refine blk_alloc ?_ _)); exact BK828.out) hb); have n7_ := Aside0.mk (blk_below (g := gb834) (o := .cells #[.int .i64 t829, .int .i64 t830, .slice Ao32 t850.length co32] 26 (0, 0)) (by (with_reducible repeat (first | refine blk_drewN ?_ _ | refine blk_drew ?_ | refine blk_alloc ?_ _)); exact BK834.out) hb); have n8_ := Aside0.mk (blk_below (g := gb841) (o := .cells #[.int .i64 t835, .int .i64 t836, .slice Ao39 t837.length co39] 41 (0, 0)) (by (with_reducible repeat (first | refine blk_drewN ?_ _ | refine blk_drew ?_ | refine blk_alloc ?_ _)); exact BK841.out) hb); have n9_ := Aside0.mk (below_step (by repeat (first | (with_reducible first | exact HB.out | apply below_alloc | apply pw_below_drewN | apply below_drew1 | refine below_set ?_ GE815.out | refine below_set ?_ GE828.out | refine below_set ?_ GE834.out | refine below_set ?_ GE841.out) | exact HB.out)) hb); have n10_ := Aside0.mk (hbox); have n11_ := Aside0.mk ((by rw [hg]; exact (below_size (by repeat (first | (with_reducible first | exact HB.out | apply below_alloc | apply pw_below_drewN | apply below_drew1 | refine below_set ?_ GE815.out | refine below_set ?_ GE828.out | refine below_set ?_ GE834.out | refine below_set ?_ GE841.out) | exact HB.out))) : w.heap.size ≤ gb866)); have n12_ := Aside0.mk ((by rw [hg]; exact (below_size (by repeat (first | (with_reducible first | exact HB.out | apply below_alloc | apply pw_below_drewN | apply below_drew1 | refine below_set ?_ GE815.out | refine below_set ?_ GE828.out | refine below_set ?_ GE834.out | refine below_set ?_ GE841.out) | exact HB.out))) : w.heap.size ≤ gb866)); have n13_ := Aside0.mk ((by rw [hg]; exact Nat.ne_of_lt (blk_lt (g := gb815) (o := .cells #[.int .i64 a0_0, .int .i64 a0_1, .slice A0_2 l0_2.length c0_2] 55 (0, 0)) (by (with_reducible repeat (first | refine blk_drewN ?_ _ | refine blk_drew ?_ | refine blk_alloc ?_ _)); exact BK815.out)) : gb815 ≠ gb866)); have n14_ := Aside0.mk ((by rw [hg]; exact Nat.ne_of_gt (blk_lt (g := gb815) (o := .cells #[.int .i64 a0_0, .int .i64 a0_1, .slice A0_2 l0_2.length c0_2] 55 (0, 0)) (by (with_reducible repeat (first | refine blk_drewN ?_ _ | refine blk_drew ?_ | refine blk_alloc ?_ _)); exact BK815.out)) : gb866 ≠ gb815)); have n15_ := Aside0.mk ((by rw [hg]; exact Nat.ne_of_lt (blk_lt (g := gb828) (o := .cells #[.int .i64 t822, .int .i64 t823, .slice Ao25 t824.length co25] 41 (0, 0)) (by (with_reducible repeat (first | refine blk_drewN ?_ _ | refine blk_drew ?_ | refine blk_alloc ?_ _)); exact BK828.out)) : gb828 ≠ gb866)); have n16_ := Aside0.mk ((by rw [hg]; exact Nat.ne_of_gt (blk_lt (g := gb828) (o := .cells #[.int .i64 t822, .int .i64 t823, .slice Ao25 t824.length co25] 41 (0, 0)) (by (with_reducible repeat (first | refine blk_drewN ?_ _ | refine blk_drew ?_ | refine blk_alloc ?_ _)); exact BK828.out)) : gb866 ≠ gb828)); have n17_ := Aside0.mk ((by rw [hg]; exact Nat.ne_of_lt (blk_lt (g := gb834) (o := .cells #[.int .i64 t829, .int .i64 t830, .slice Ao32 t850.length co32] 26 (0, 0)) (by (with_reducible repeat (first | refine blk_drewN ?_ _ | refine blk_drew ?_ | refine blk_alloc ?_ _)); exact BK834.out)) : gb834 ≠ gb866)); have n18_ := Aside0.mk ((by rw [hg]; exact Nat.ne_of_gt (blk_lt (g := gb834) (o := .cells #[.int .i64 t829, .int .i64 t830, .slice Ao32 t850.length co32] 26 (0, 0)) (by (with_reducible repeat (first | refine blk_drewN ?_ _ | refine blk_drew ?_ | refine blk_alloc ?_ _)); exact BK834.out)) : gb866 ≠ gb834)); have n19_ := Aside0.mk ((by rw [hg]; exact Nat.ne_of_lt (blk_lt (g := gb841) (o := .cells #[.int .i64 t835, .int .i64 t836, .slice Ao39 t837.length co39] 41 (0, 0)) (by (with_reducible repeat (first | refine blk_drewN ?_ _ | refine blk_drew ?_ | refine blk_alloc ?_ _)); exact BK841.out)) : gb841 ≠ gb866)); have n20_ := Aside0.mk ((by rw [hg]; exact Nat.ne_of_gt (blk_lt (g := gb841) (o := .cells #[.int .i64 t835, .int .i64 t836, .slice Ao39 t837.length co39] 41 (0, 0)) (by (with_reducible repeat (first | refine blk_drewN ?_ _ | refine blk_drew ?_ | refine blk_alloc ?_ _)); exact BK841.out)) : gb866 ≠ gb841)); clear HO_829002; clear HO_835002; clear HO_842002; clear HO859; clear HO864; clear BK815; clear BK828; clear BK834; clear BK841; clear HB; have HO_829002 := n0_; have HO_835002 := n1_; have HO_842002 := n2_; have HO859 := n3_; have HO864 := n4_; have BK815 := n5_; have BK828 := n6_; have BK834 := n7_; have BK841 := n8_; have HB := n9_; have BK866 := n10_; have GW866 := n11_; have GE866 := n12_; have NB815_866 := n13_; have NB866_815 := n14_; have NB828_866 := n15_; have NB866_828 := n16_; have NB834_866 := n17_; have NB866_834 := n18_; have NB841_866 := n19_; have NB866_841 := n20_; clear n0_ n1_ n2_ n3_ n4_ n5_ n6_ n7_ n8_ n9_ n10_ n11_ n12_ n13_ n14_ n15_ n16_ n17_ n18_ n19_ n20_; clear hb hbox hg; have hnb114 := NB866_815.out; have hnc114 := NB815_866.out; have hnb115 := NB866_828.out; have hnc115 := NB828_866.out; have hnb116 := NB866_834.out; have hnc116 := NB834_866.out; have hnb117 := NB866_841.out; have hnc117 := NB841_866.out; have hcz118_0 : w113.cell? ⟨gb866, 0, none⟩ = some (.int .i64 0) := (blk_cell BK866.out 0).trans rfl; have hcz118_1 : w113.cell? ⟨gb866, 1, none⟩ = some (.int .i64 0) := (blk_cell BK866.out 1).trans rfl; have hcz118_2 : w113.cell? ⟨gb866, 2, none⟩ = some (.slice none 0 0) := (blk_cell BK866.out 2).trans rfl; have hfz118_0 := blk_frozen BK866.out 0; have hfz118_1 := blk_frozen BK866.out 1; have hfz118_2 := blk_frozen BK866.out 2; obtain ⟨Ao119, co119, eo119⟩ := Kd.R_slice HO864.out; subst eo119))
                      (try simp only [Act.put, List.setIfInBounds_toArray, List.set_cons_zero, List.set_cons_succ])
                      go_cut [102] (fun v102 wc => ∃ (kq : Nat) (x102_98 : Bool), v102 = .bool x102_98 ∧ Aside0 (laws_FnExactScreenLevel.j2 kq t852 x102_98 t835 t836 t853 = some r) ∧ Aside0 (kq ≤ kj62) ∧ Aside0 (Kd.R (Kd.int .i64) 3 wc w.heap.size (fun k_ => some k_ ≠ ((.slice Ao32 t850.length co32) : Value).ownBlock ∧ some k_ ≠ ((.slice Ao39 t837.length co39) : Value).ownBlock ∧ some k_ ≠ ((.slice Ao119 t862.length co119) : Value).ownBlock) (.slice Ao25 t824.length co25) t824) ∧ Aside0 (Kd.R (Kd.int .i64) 3 wc w.heap.size (fun k_ => some k_ ≠ ((.slice Ao25 t824.length co25) : Value).ownBlock ∧ some k_ ≠ ((.slice Ao39 t837.length co39) : Value).ownBlock ∧ some k_ ≠ ((.slice Ao119 t862.length co119) : Value).ownBlock) (.slice Ao32 t850.length co32) t850) ∧ Aside0 (Kd.R (Kd.int .i64) 3 wc w.heap.size (fun k_ => some k_ ≠ ((.slice Ao25 t824.length co25) : Value).ownBlock ∧ some k_ ≠ ((.slice Ao32 t850.length co32) : Value).ownBlock ∧ some k_ ≠ ((.slice Ao119 t862.length co119) : Value).ownBlock) (.slice Ao39 t837.length co39) t853) ∧ Aside0 (Kd.R (Kd.int .i64) 3 wc w.heap.size (fun k_ => some k_ ≠ ((.slice Ao25 t824.length co25) : Value).ownBlock ∧ some k_ ≠ ((.slice Ao32 t850.length co32) : Value).ownBlock ∧ some k_ ≠ ((.slice Ao39 t837.length co39) : Value).ownBlock) (.slice Ao119 t862.length co119) t862) ∧ Aside0 (wc.heap[gb815]? = some (.cells #[.int .i64 a0_0, .int .i64 a0_1, (.slice A0_2 l0_2.length c0_2)] 55 (0, 0))) ∧ Aside0 (wc.heap[gb828]? = some (.cells #[.int .i64 t822, .int .i64 t823, (.slice Ao25 t824.length co25)] 41 (0, 0))) ∧ Aside0 (wc.heap[gb834]? = some (.cells #[.int .i64 t829, .int .i64 t830, (.slice Ao32 t850.length co32)] 26 (0, 0))) ∧ Aside0 (wc.heap[gb841]? = some (.cells #[.int .i64 t835, .int .i64 t836, (.slice Ao39 t837.length co39)] 41 (0, 0))) ∧ Aside0 (wc.heap[gb866]? = some (.cells #[.int .i64 t860, .int .i64 t861, (.slice Ao119 t862.length co119)] 41 (0, 0))) ∧ Aside0 (Below w.heap.size w wc))
                      case first =>
                        have H := HC99.out
                        clear HC99
                        replace H := Option.bind_eq_some_iff.mp H
                        obtain ⟨t867, A1200, H⟩ := H
                        replace H : (if t867 = true then (laws_FnExactScreenLevel.j2 kj62 t852 (t865 != t827) t835 t836 t853) else (laws_FnExactScreenLevel.j2 kj62 t852 true t835 t836 t853)) = some r := H
                        have A120 := Aside0.mk A1200
                        clear A1200
                        by_cases c121 : t867 = true
                        · subst c121
                          have H1 : (laws_FnExactScreenLevel.j2 kj62 t852 (t865 != t827) t835 t836 t853) = some r := by rw [if_pos rfl] at H; exact H
                          clear H
                          have H := H1
                          clear H1
                          have H' := Aside0.mk H
                          clear H
                          have hnb122 := NB866_815.out
                          have hnc122 := NB815_866.out
                          have hnb123 := NB866_828.out
                          have hnc123 := NB828_866.out
                          have hnb124 := NB866_834.out
                          have hnc124 := NB834_866.out
                          have hnb125 := NB866_841.out
                          have hnc125 := NB841_866.out
                          have hcz126_0 : w113.cell? ⟨gb866, 0, none⟩ = some (.int .i64 0) := (blk_cell BK866.out 0).trans rfl
                          have hcz126_1 : w113.cell? ⟨gb866, 1, none⟩ = some (.int .i64 0) := (blk_cell BK866.out 1).trans rfl
                          have hcz126_2 : w113.cell? ⟨gb866, 2, none⟩ = some (.slice none 0 0) := (blk_cell BK866.out 2).trans rfl
                          have hfz126_0 := blk_frozen BK866.out 0
                          have hfz126_1 := blk_frozen BK866.out 1
                          have hfz126_2 := blk_frozen BK866.out 2
                          have hnb127 := NB828_815.out
                          have hnc127 := NB815_828.out
                          have hnb128 := NB828_834.out
                          have hnc128 := NB834_828.out
                          have hnb129 := NB828_841.out
                          have hnc129 := NB841_828.out
                          have hcz130_0 : w113.cell? ⟨gb828, 0, none⟩ = some (.int .i64 t822) := (blk_cell BK828.out 0).trans rfl
                          have hcz130_1 : w113.cell? ⟨gb828, 1, none⟩ = some (.int .i64 t823) := (blk_cell BK828.out 1).trans rfl
                          have hcz130_2 : w113.cell? ⟨gb828, 2, none⟩ = some (.slice Ao25 t824.length co25) := (blk_cell BK828.out 2).trans rfl
                          have hfz130_0 := blk_frozen BK828.out 0
                          have hfz130_1 := blk_frozen BK828.out 1
                          have hfz130_2 := blk_frozen BK828.out 2
                          go_wp2_with (first | ((with_reducible refine gate_callee (f := 49) rfl ?_); refine goesL_ (some 96) rfl rfl Try.func49 (by kernel_rfl) rfl #[.agg #[.int .i64 t860, .int .i64 t861, .slice Ao119 t862.length co119], .agg #[.int .i64 t822, .int .i64 t823, .slice Ao25 t824.length co25]] rfl (by (try simp only [List.map_toArray, List.map_cons, List.map_nil]); first | done | rfl | (simp only [List.length_drop, List.length_take]; rfl)) ?_; (with_reducible refine (laws_eqPicture.calls kj62 t860 t861 _ _ t862 t822 t823 _ _ t824 true _ ?side1 ?side2 ?side3 ?side4 A120.out).mono ?_); (case side1 => refine (Kd.R_reads' (e := 3) (base := w.heap.size) (ok := fun k_ => ((((True ∧ some k_ ≠ (.slice Ao25 t824.length co25 : Value).ownBlock) ∧ some k_ ≠ (.slice Ao32 t850.length co32 : Value).ownBlock) ∧ some k_ ≠ (.slice Ao39 t837.length co39 : Value).ownBlock) ∧ some k_ ≠ (.slice Ao111 t857.length co111 : Value).ownBlock)) (n := t862.length) (c := co119) ?_).2.2; exact (by (with_reducible repeat (first | apply Kd.R_alloc | apply Kd.R_drewN | apply Kd.R_drew)); exact (Kd.R_mono (Kd.R_far (p := ⟨gb866, 2, none⟩) (Kd.R_far (p := ⟨gb866, 1, none⟩) (Kd.R_far (p := ⟨gb866, 0, none⟩) (Kd.R_types HO864.out BK866.out (by decide)) (fun _ hk => hk.2) (.int .i64 t860)) (fun _ hk => hk.2) (.int .i64 t861)) (fun _ hk => hk.2) (.slice Ao119 t862.length co119)) (fun _ h_ => h_.1)))); (case side2 => exact (Kd.R_reads' HO864.out).2.1); (case side3 => refine (Kd.R_reads' (e := 3) (base := w.heap.size) (ok := fun k_ => (((some k_ ≠ (.slice Ao32 t850.length co32 : Value).ownBlock ∧ some k_ ≠ (.slice Ao39 t837.length co39 : Value).ownBlock) ∧ some k_ ≠ (.slice Ao111 t857.length co111 : Value).ownBlock) ∧ some k_ ≠ (.slice Ao119 t862.length co119 : Value).ownBlock)) (n := t824.length) (c := co25) ?_).2.2; exact (by (with_reducible repeat (first | apply Kd.R_alloc | apply Kd.R_drewN | apply Kd.R_drew)); exact (Kd.R_mono (Kd.R_far (p := ⟨gb866, 2, none⟩) (Kd.R_far (p := ⟨gb866, 1, none⟩) (Kd.R_far (p := ⟨gb866, 0, none⟩) (Kd.R_types HO_829002.out BK866.out (by decide)) (fun _ hk => hk.2) (.int .i64 t860)) (fun _ hk => hk.2) (.int .i64 t861)) (fun _ hk => hk.2) (.slice Ao119 t862.length co119)) (fun _ h_ => h_.1)))); (case side4 => exact (Kd.R_reads' HO_829002.out).2.1); rintro e w131 ⟨rfl, hb⟩; refine ⟨_, rfl, ?_⟩; have n0_ := Aside0.mk (Kd.R_below (by (with_reducible repeat (first | apply Kd.R_alloc | apply Kd.R_drewN | apply Kd.R_drew)); exact (Kd.R_mono (Kd.R_far (p := ⟨gb866, 2, none⟩) (Kd.R_far (p := ⟨gb866, 1, none⟩) (Kd.R_far (p := ⟨gb866, 0, none⟩) (Kd.R_types HO_829002.out BK866.out (by decide)) (fun _ hk => hk.2) (.int .i64 t860)) (fun _ hk => hk.2) (.int .i64 t861)) (fun _ hk => hk.2) (.slice Ao119 t862.length co119)) (fun _ h_ => h_.1))) hb); have n1_ := Aside0.mk (Kd.R_below (by (with_reducible repeat (first | apply Kd.R_alloc | apply Kd.R_drewN | apply Kd.R_drew)); exact (Kd.R_mono (Kd.R_far (p := ⟨gb866, 2, none⟩) (Kd.R_far (p := ⟨gb866, 1, none⟩) (Kd.R_far (p := ⟨gb866, 0, none⟩) (Kd.R_types HO_835002.out BK866.out (by decide)) (fun _ hk => hk.2) (.int .i64 t860)) (fun _ hk => hk.2) (.int .i64 t861)) (fun _ hk => hk.2) (.slice Ao119 t862.length co119)) (fun _ h_ => h_.1))) hb); have n2_ := Aside0.mk (Kd.R_below (by (with_reducible repeat (first | apply Kd.R_alloc | apply Kd.R_drewN | apply Kd.R_drew)); exact (Kd.R_mono (Kd.R_far (p := ⟨gb866, 2, none⟩) (Kd.R_far (p := ⟨gb866, 1, none⟩) (Kd.R_far (p := ⟨gb866, 0, none⟩) (Kd.R_types HO_842002.out BK866.out (by decide)) (fun _ hk => hk.2) (.int .i64 t860)) (fun _ hk => hk.2) (.int .i64 t861)) (fun _ hk => hk.2) (.slice Ao119 t862.length co119)) (fun _ h_ => h_.1))) hb); have n3_ := Aside0.mk (Kd.R_below (by (with_reducible repeat (first | apply Kd.R_alloc | apply Kd.R_drewN | apply Kd.R_drew)); exact (Kd.R_mono (Kd.R_far (p := ⟨gb866, 2, none⟩) (Kd.R_far (p := ⟨gb866, 1, none⟩) (Kd.R_far (p := ⟨gb866, 0, none⟩) (Kd.R_types HO859.out BK866.out (by decide)) (fun _ hk => hk.2) (.int .i64 t860)) (fun _ hk => hk.2) (.int .i64 t861)) (fun _ hk => hk.2) (.slice Ao119 t862.length co119)) (fun _ h_ => h_.1))) hb); have n4_ := Aside0.mk (Kd.R_below (by (with_reducible repeat (first | apply Kd.R_alloc | apply Kd.R_drewN | apply Kd.R_drew)); exact (Kd.R_mono (Kd.R_far (p := ⟨gb866, 2, none⟩) (Kd.R_far (p := ⟨gb866, 1, none⟩) (Kd.R_far (p := ⟨gb866, 0, none⟩) (Kd.R_types HO864.out BK866.out (by decide)) (fun _ hk => hk.2) (.int .i64 t860)) (fun _ hk => hk.2) (.int .i64 t861)) (fun _ hk => hk.2) (.slice Ao119 t862.length co119)) (fun _ h_ => h_.1))) hb); have n5_ := Aside0.mk (blk_below (g := gb815) (o := .cells #[.int .i64 a0_0, .int .i64 a0_1, .slice A0_2 l0_2.length c0_2] 55 (0, 0)) (by (with_reducible repeat (first | refine blk_drewN ?_ _ | refine blk_drew ?_ | refine blk_alloc ?_ _)); refine blk_far ?_ NB815_866.out _; (with_reducible repeat (first | refine blk_drewN ?_ _ | refine blk_drew ?_ | refine blk_alloc ?_ _)); refine blk_far ?_ NB815_866.out _; (with_reducible repeat (first | refine blk_drewN ?_ _ | refine blk_drew ?_ | refine blk_alloc ?_ _)); refine blk_far ?_ NB815_866.out _; (with_reducible repeat (first | refine blk_drewN ?_ _ | refine blk_drew ?_ | refine blk_alloc ?_ _)); exact BK815.out) hb); have n6_ := Aside0.mk (blk_below (g := gb828) (o := .cells #[.int .i64 t822, .int .i64 t823, .slice Ao25 t824.length co25] 41 (0, 0)) (by (with_reducible repeat (first | refine blk_drewN ?_ _ | refine blk_drew ?_ | refine blk_alloc ?_ _)); refine blk_far ?_ NB828_866.out _; (with_reducible repeat (first | refine blk_drewN ?_ _ | refine blk_drew ?_ | refine blk_alloc ?_ _)); refine blk_far ?_ NB828_866.out _; (with_reducible repeat (first | refine blk_drewN ?_ _ | refine blk_drew ?_ | refine blk_alloc ?_ _)); refine blk_far ?_ NB828_866.out _; (with_reducible repeat (first | refine blk_drewN ?_ _ | refine blk_drew ?_ | refine blk_alloc ?_ _)); exact BK828.out) hb); have n7_ := Aside0.mk (blk_below (g := gb834) (o := .cells #[.int .i64 t829, .int .i64 t830, .slice Ao32 t850.length co32] 26 (0, 0)) (by (with_reducible repeat (first | refine blk_drewN ?_ _ | refine blk_drew ?_ | refine blk_alloc ?_ _)); refine blk_far ?_ NB834_866.out _; (with_reducible repeat (first | refine blk_drewN ?_ _ | refine blk_drew ?_ | refine blk_alloc ?_ _)); refine blk_far ?_ NB834_866.out _; (with_reducible repeat (first | refine blk_drewN ?_ _ | refine blk_drew ?_ | refine blk_alloc ?_ _)); refine blk_far ?_ NB834_866.out _; (with_reducible repeat (first | refine blk_drewN ?_ _ | refine blk_drew ?_ | refine blk_alloc ?_ _)); exact BK834.out) hb); have n8_ := Aside0.mk (blk_below (g := gb841) (o := .cells #[.int .i64 t835, .int .i64 t836, .slice Ao39 t837.length co39] 41 (0, 0)) (by (with_reducible repeat (first | refine blk_drewN ?_ _ | refine blk_drew ?_ | refine blk_alloc ?_ _)); refine blk_far ?_ NB841_866.out _; (with_reducible repeat (first | refine blk_drewN ?_ _ | refine blk_drew ?_ | refine blk_alloc ?_ _)); refine blk_far ?_ NB841_866.out _; (with_reducible repeat (first | refine blk_drewN ?_ _ | refine blk_drew ?_ | refine blk_alloc ?_ _)); refine blk_far ?_ NB841_866.out _; (with_reducible repeat (first | refine blk_drewN ?_ _ | refine blk_drew ?_ | refine blk_alloc ?_ _)); exact BK841.out) hb); have n9_ := Aside0.mk (blk_below (g := gb866) (o := .cells #[.int .i64 t860, .int .i64 t861, .slice Ao119 t862.length co119] 41 (0, 0)) (by (with_reducible repeat (first | refine blk_drewN ?_ _ | refine blk_drew ?_ | refine blk_alloc ?_ _)); refine blk_put (cs := #[.int .i64 t860, .int .i64 t861, .slice none 0 0]) ?_ 2 _ rfl; (with_reducible repeat (first | refine blk_drewN ?_ _ | refine blk_drew ?_ | refine blk_alloc ?_ _)); refine blk_put (cs := #[.int .i64 t860, .int .i64 0, .slice none 0 0]) ?_ 1 _ rfl; (with_reducible repeat (first | refine blk_drewN ?_ _ | refine blk_drew ?_ | refine blk_alloc ?_ _)); refine blk_put (cs := #[.int .i64 0, .int .i64 0, .slice none 0 0]) ?_ 0 _ rfl; (with_reducible repeat (first | refine blk_drewN ?_ _ | refine blk_drew ?_ | refine blk_alloc ?_ _)); exact BK866.out) hb); have n10_ := Aside0.mk (below_step (by repeat (first | (with_reducible first | exact HB.out | apply below_alloc | apply pw_below_drewN | apply below_drew1 | refine below_set ?_ GE815.out | refine below_set ?_ GE828.out | refine below_set ?_ GE834.out | refine below_set ?_ GE841.out | refine below_set ?_ GE866.out) | exact HB.out)) hb); clear HO_829002; clear HO_835002; clear HO_842002; clear HO859; clear HO864; clear BK815; clear BK828; clear BK834; clear BK841; clear BK866; clear HB; have HO_829002 := n0_; have HO_835002 := n1_; have HO_842002 := n2_; have HO859 := n3_; have HO864 := n4_; have BK815 := n5_; have BK828 := n6_; have BK834 := n7_; have BK841 := n8_; have BK866 := n9_; have HB := n10_; clear n0_ n1_ n2_ n3_ n4_ n5_ n6_ n7_ n8_ n9_ n10_; (try clear hb); (try clear hb2); (try clear hk); (try clear hi)))
                          go_meet
                          case rel => exact ⟨_, ((t865 != t827)), (by first | rfl | (simp; done) | (simp [*]; done)), H', ⟨by have := HJ13.out; have := HJ62.out; first | omega | exact Nat.le_refl _⟩, ⟨by (try simp only [hl835002_62]); (with_reducible repeat (first | apply Kd.R_alloc | apply Kd.R_drewN | apply Kd.R_drew)); exact Kd.R_mono HO_829002.out (fun _ hk => ⟨hk.1.1.1, ⟨hk.1.1.2, hk.2⟩⟩)⟩, ⟨by (try simp only [hl835002_62]); (with_reducible repeat (first | apply Kd.R_alloc | apply Kd.R_drewN | apply Kd.R_drew)); exact Kd.R_mono HO_835002.out (fun _ hk => ⟨hk.1.1.1, ⟨hk.1.1.2, hk.2⟩⟩)⟩, ⟨by (try simp only [hl835002_62]); (with_reducible repeat (first | apply Kd.R_alloc | apply Kd.R_drewN | apply Kd.R_drew)); exact Kd.R_mono HO_842002.out (fun _ hk => ⟨hk.1.1.1, ⟨hk.1.1.2, hk.2⟩⟩)⟩, ⟨by (try simp only [hl835002_62]); (with_reducible repeat (first | apply Kd.R_alloc | apply Kd.R_drewN | apply Kd.R_drew)); exact Kd.R_mono HO864.out (fun _ hk => ⟨hk.1.1.1.2, ⟨hk.1.1.2, hk.1.2⟩⟩)⟩, ⟨by (try simp only [hl835002_62]); (with_reducible repeat (first | refine blk_drewN ?_ _ | refine blk_drew ?_ | refine blk_alloc ?_ _)); exact BK815.out⟩, ⟨by (try simp only [hl835002_62]); (with_reducible repeat (first | refine blk_drewN ?_ _ | refine blk_drew ?_ | refine blk_alloc ?_ _)); exact BK828.out⟩, ⟨by (try simp only [hl835002_62]); (with_reducible repeat (first | refine blk_drewN ?_ _ | refine blk_drew ?_ | refine blk_alloc ?_ _)); exact BK834.out⟩, ⟨by (try simp only [hl835002_62]); (with_reducible repeat (first | refine blk_drewN ?_ _ | refine blk_drew ?_ | refine blk_alloc ?_ _)); exact BK841.out⟩, ⟨by (try simp only [hl835002_62]); (with_reducible repeat (first | refine blk_drewN ?_ _ | refine blk_drew ?_ | refine blk_alloc ?_ _)); exact BK866.out⟩, ⟨by repeat (first | (with_reducible first | exact HB.out | apply below_alloc | apply pw_below_drewN | apply below_drew1 | refine below_set ?_ GE815.out | refine below_set ?_ GE828.out | refine below_set ?_ GE834.out | refine below_set ?_ GE841.out | refine below_set ?_ GE866.out) | exact HB.out)⟩⟩
                        · replace c121 := Bool.eq_false_iff.mpr c121
                          subst c121
                          have H1 : (laws_FnExactScreenLevel.j2 kj62 t852 true t835 t836 t853) = some r := by rw [if_neg (show ¬ (false = true) by decide)] at H; exact H
                          clear H
                          have H := H1
                          clear H1
                          have H' := Aside0.mk H
                          clear H
                          have hnb132 := NB866_815.out
                          have hnc132 := NB815_866.out
                          have hnb133 := NB866_828.out
                          have hnc133 := NB828_866.out
                          have hnb134 := NB866_834.out
                          have hnc134 := NB834_866.out
                          have hnb135 := NB866_841.out
                          have hnc135 := NB841_866.out
                          have hcz136_0 : w113.cell? ⟨gb866, 0, none⟩ = some (.int .i64 0) := (blk_cell BK866.out 0).trans rfl
                          have hcz136_1 : w113.cell? ⟨gb866, 1, none⟩ = some (.int .i64 0) := (blk_cell BK866.out 1).trans rfl
                          have hcz136_2 : w113.cell? ⟨gb866, 2, none⟩ = some (.slice none 0 0) := (blk_cell BK866.out 2).trans rfl
                          have hfz136_0 := blk_frozen BK866.out 0
                          have hfz136_1 := blk_frozen BK866.out 1
                          have hfz136_2 := blk_frozen BK866.out 2
                          have hnb137 := NB828_815.out
                          have hnc137 := NB815_828.out
                          have hnb138 := NB828_834.out
                          have hnc138 := NB834_828.out
                          have hnb139 := NB828_841.out
                          have hnc139 := NB841_828.out
                          have hcz140_0 : w113.cell? ⟨gb828, 0, none⟩ = some (.int .i64 t822) := (blk_cell BK828.out 0).trans rfl
                          have hcz140_1 : w113.cell? ⟨gb828, 1, none⟩ = some (.int .i64 t823) := (blk_cell BK828.out 1).trans rfl
                          have hcz140_2 : w113.cell? ⟨gb828, 2, none⟩ = some (.slice Ao25 t824.length co25) := (blk_cell BK828.out 2).trans rfl
                          have hfz140_0 := blk_frozen BK828.out 0
                          have hfz140_1 := blk_frozen BK828.out 1
                          have hfz140_2 := blk_frozen BK828.out 2
                          go_wp2_with (first | ((with_reducible refine gate_callee (f := 49) rfl ?_); refine goesL_ (some 96) rfl rfl Try.func49 (by kernel_rfl) rfl #[.agg #[.int .i64 t860, .int .i64 t861, .slice Ao119 t862.length co119], .agg #[.int .i64 t822, .int .i64 t823, .slice Ao25 t824.length co25]] rfl (by (try simp only [List.map_toArray, List.map_cons, List.map_nil]); first | done | rfl | (simp only [List.length_drop, List.length_take]; rfl)) ?_; (with_reducible refine (laws_eqPicture.calls kj62 t860 t861 _ _ t862 t822 t823 _ _ t824 false _ ?side1 ?side2 ?side3 ?side4 A120.out).mono ?_); (case side1 => refine (Kd.R_reads' (e := 3) (base := w.heap.size) (ok := fun k_ => ((((True ∧ some k_ ≠ (.slice Ao25 t824.length co25 : Value).ownBlock) ∧ some k_ ≠ (.slice Ao32 t850.length co32 : Value).ownBlock) ∧ some k_ ≠ (.slice Ao39 t837.length co39 : Value).ownBlock) ∧ some k_ ≠ (.slice Ao111 t857.length co111 : Value).ownBlock)) (n := t862.length) (c := co119) ?_).2.2; exact (by (with_reducible repeat (first | apply Kd.R_alloc | apply Kd.R_drewN | apply Kd.R_drew)); exact (Kd.R_mono (Kd.R_far (p := ⟨gb866, 2, none⟩) (Kd.R_far (p := ⟨gb866, 1, none⟩) (Kd.R_far (p := ⟨gb866, 0, none⟩) (Kd.R_types HO864.out BK866.out (by decide)) (fun _ hk => hk.2) (.int .i64 t860)) (fun _ hk => hk.2) (.int .i64 t861)) (fun _ hk => hk.2) (.slice Ao119 t862.length co119)) (fun _ h_ => h_.1)))); (case side2 => exact (Kd.R_reads' HO864.out).2.1); (case side3 => refine (Kd.R_reads' (e := 3) (base := w.heap.size) (ok := fun k_ => (((some k_ ≠ (.slice Ao32 t850.length co32 : Value).ownBlock ∧ some k_ ≠ (.slice Ao39 t837.length co39 : Value).ownBlock) ∧ some k_ ≠ (.slice Ao111 t857.length co111 : Value).ownBlock) ∧ some k_ ≠ (.slice Ao119 t862.length co119 : Value).ownBlock)) (n := t824.length) (c := co25) ?_).2.2; exact (by (with_reducible repeat (first | apply Kd.R_alloc | apply Kd.R_drewN | apply Kd.R_drew)); exact (Kd.R_mono (Kd.R_far (p := ⟨gb866, 2, none⟩) (Kd.R_far (p := ⟨gb866, 1, none⟩) (Kd.R_far (p := ⟨gb866, 0, none⟩) (Kd.R_types HO_829002.out BK866.out (by decide)) (fun _ hk => hk.2) (.int .i64 t860)) (fun _ hk => hk.2) (.int .i64 t861)) (fun _ hk => hk.2) (.slice Ao119 t862.length co119)) (fun _ h_ => h_.1)))); (case side4 => exact (Kd.R_reads' HO_829002.out).2.1); rintro e w141 ⟨rfl, hb⟩; refine ⟨_, rfl, ?_⟩; have n0_ := Aside0.mk (Kd.R_below (by (with_reducible repeat (first | apply Kd.R_alloc | apply Kd.R_drewN | apply Kd.R_drew)); exact (Kd.R_mono (Kd.R_far (p := ⟨gb866, 2, none⟩) (Kd.R_far (p := ⟨gb866, 1, none⟩) (Kd.R_far (p := ⟨gb866, 0, none⟩) (Kd.R_types HO_829002.out BK866.out (by decide)) (fun _ hk => hk.2) (.int .i64 t860)) (fun _ hk => hk.2) (.int .i64 t861)) (fun _ hk => hk.2) (.slice Ao119 t862.length co119)) (fun _ h_ => h_.1))) hb); have n1_ := Aside0.mk (Kd.R_below (by (with_reducible repeat (first | apply Kd.R_alloc | apply Kd.R_drewN | apply Kd.R_drew)); exact (Kd.R_mono (Kd.R_far (p := ⟨gb866, 2, none⟩) (Kd.R_far (p := ⟨gb866, 1, none⟩) (Kd.R_far (p := ⟨gb866, 0, none⟩) (Kd.R_types HO_835002.out BK866.out (by decide)) (fun _ hk => hk.2) (.int .i64 t860)) (fun _ hk => hk.2) (.int .i64 t861)) (fun _ hk => hk.2) (.slice Ao119 t862.length co119)) (fun _ h_ => h_.1))) hb); have n2_ := Aside0.mk (Kd.R_below (by (with_reducible repeat (first | apply Kd.R_alloc | apply Kd.R_drewN | apply Kd.R_drew)); exact (Kd.R_mono (Kd.R_far (p := ⟨gb866, 2, none⟩) (Kd.R_far (p := ⟨gb866, 1, none⟩) (Kd.R_far (p := ⟨gb866, 0, none⟩) (Kd.R_types HO_842002.out BK866.out (by decide)) (fun _ hk => hk.2) (.int .i64 t860)) (fun _ hk => hk.2) (.int .i64 t861)) (fun _ hk => hk.2) (.slice Ao119 t862.length co119)) (fun _ h_ => h_.1))) hb); have n3_ := Aside0.mk (Kd.R_below (by (with_reducible repeat (first | apply Kd.R_alloc | apply Kd.R_drewN | apply Kd.R_drew)); exact (Kd.R_mono (Kd.R_far (p := ⟨gb866, 2, none⟩) (Kd.R_far (p := ⟨gb866, 1, none⟩) (Kd.R_far (p := ⟨gb866, 0, none⟩) (Kd.R_types HO859.out BK866.out (by decide)) (fun _ hk => hk.2) (.int .i64 t860)) (fun _ hk => hk.2) (.int .i64 t861)) (fun _ hk => hk.2) (.slice Ao119 t862.length co119)) (fun _ h_ => h_.1))) hb); have n4_ := Aside0.mk (Kd.R_below (by (with_reducible repeat (first | apply Kd.R_alloc | apply Kd.R_drewN | apply Kd.R_drew)); exact (Kd.R_mono (Kd.R_far (p := ⟨gb866, 2, none⟩) (Kd.R_far (p := ⟨gb866, 1, none⟩) (Kd.R_far (p := ⟨gb866, 0, none⟩) (Kd.R_types HO864.out BK866.out (by decide)) (fun _ hk => hk.2) (.int .i64 t860)) (fun _ hk => hk.2) (.int .i64 t861)) (fun _ hk => hk.2) (.slice Ao119 t862.length co119)) (fun _ h_ => h_.1))) hb); have n5_ := Aside0.mk (blk_below (g := gb815) (o := .cells #[.int .i64 a0_0, .int .i64 a0_1, .slice A0_2 l0_2.length c0_2] 55 (0, 0)) (by (with_reducible repeat (first | refine blk_drewN ?_ _ | refine blk_drew ?_ | refine blk_alloc ?_ _)); refine blk_far ?_ NB815_866.out _; (with_reducible repeat (first | refine blk_drewN ?_ _ | refine blk_drew ?_ | refine blk_alloc ?_ _)); refine blk_far ?_ NB815_866.out _; (with_reducible repeat (first | refine blk_drewN ?_ _ | refine blk_drew ?_ | refine blk_alloc ?_ _)); refine blk_far ?_ NB815_866.out _; (with_reducible repeat (first | refine blk_drewN ?_ _ | refine blk_drew ?_ | refine blk_alloc ?_ _)); exact BK815.out) hb); have n6_ := Aside0.mk (blk_below (g := gb828) (o := .cells #[.int .i64 t822, .int .i64 t823, .slice Ao25 t824.length co25] 41 (0, 0)) (by (with_reducible repeat (first | refine blk_drewN ?_ _ | refine blk_drew ?_ | refine blk_alloc ?_ _)); refine blk_far ?_ NB828_866.out _; (with_reducible repeat (first | refine blk_drewN ?_ _ | refine blk_drew ?_ | refine blk_alloc ?_ _)); refine blk_far ?_ NB828_866.out _; (with_reducible repeat (first | refine blk_drewN ?_ _ | refine blk_drew ?_ | refine blk_alloc ?_ _)); refine blk_far ?_ NB828_866.out _; (with_reducible repeat (first | refine blk_drewN ?_ _ | refine blk_drew ?_ | refine blk_alloc ?_ _)); exact BK828.out) hb); have n7_ := Aside0.mk (blk_below (g := gb834) (o := .cells #[.int .i64 t829, .int .i64 t830, .slice Ao32 t850.length co32] 26 (0, 0)) (by (with_reducible repeat (first | refine blk_drewN ?_ _ | refine blk_drew ?_ | refine blk_alloc ?_ _)); refine blk_far ?_ NB834_866.out _; (with_reducible repeat (first | refine blk_drewN ?_ _ | refine blk_drew ?_ | refine blk_alloc ?_ _)); refine blk_far ?_ NB834_866.out _; (with_reducible repeat (first | refine blk_drewN ?_ _ | refine blk_drew ?_ | refine blk_alloc ?_ _)); refine blk_far ?_ NB834_866.out _; (with_reducible repeat (first | refine blk_drewN ?_ _ | refine blk_drew ?_ | refine blk_alloc ?_ _)); exact BK834.out) hb); have n8_ := Aside0.mk (blk_below (g := gb841) (o := .cells #[.int .i64 t835, .int .i64 t836, .slice Ao39 t837.length co39] 41 (0, 0)) (by (with_reducible repeat (first | refine blk_drewN ?_ _ | refine blk_drew ?_ | refine blk_alloc ?_ _)); refine blk_far ?_ NB841_866.out _; (with_reducible repeat (first | refine blk_drewN ?_ _ | refine blk_drew ?_ | refine blk_alloc ?_ _)); refine blk_far ?_ NB841_866.out _; (with_reducible repeat (first | refine blk_drewN ?_ _ | refine blk_drew ?_ | refine blk_alloc ?_ _)); refine blk_far ?_ NB841_866.out _; (with_reducible repeat (first | refine blk_drewN ?_ _ | refine blk_drew ?_ | refine blk_alloc ?_ _)); exact BK841.out) hb); have n9_ := Aside0.mk (blk_below (g := gb866) (o := .cells #[.int .i64 t860, .int .i64 t861, .slice Ao119 t862.length co119] 41 (0, 0)) (by (with_reducible repeat (first | refine blk_drewN ?_ _ | refine blk_drew ?_ | refine blk_alloc ?_ _)); refine blk_put (cs := #[.int .i64 t860, .int .i64 t861, .slice none 0 0]) ?_ 2 _ rfl; (with_reducible repeat (first | refine blk_drewN ?_ _ | refine blk_drew ?_ | refine blk_alloc ?_ _)); refine blk_put (cs := #[.int .i64 t860, .int .i64 0, .slice none 0 0]) ?_ 1 _ rfl; (with_reducible repeat (first | refine blk_drewN ?_ _ | refine blk_drew ?_ | refine blk_alloc ?_ _)); refine blk_put (cs := #[.int .i64 0, .int .i64 0, .slice none 0 0]) ?_ 0 _ rfl; (with_reducible repeat (first | refine blk_drewN ?_ _ | refine blk_drew ?_ | refine blk_alloc ?_ _)); exact BK866.out) hb); have n10_ := Aside0.mk (below_step (by repeat (first | (with_reducible first | exact HB.out | apply below_alloc | apply pw_below_drewN | apply below_drew1 | refine below_set ?_ GE815.out | refine below_set ?_ GE828.out | refine below_set ?_ GE834.out | refine below_set ?_ GE841.out | refine below_set ?_ GE866.out) | exact HB.out)) hb); clear HO_829002; clear HO_835002; clear HO_842002; clear HO859; clear HO864; clear BK815; clear BK828; clear BK834; clear BK841; clear BK866; clear HB; have HO_829002 := n0_; have HO_835002 := n1_; have HO_842002 := n2_; have HO859 := n3_; have HO864 := n4_; have BK815 := n5_; have BK828 := n6_; have BK834 := n7_; have BK841 := n8_; have BK866 := n9_; have HB := n10_; clear n0_ n1_ n2_ n3_ n4_ n5_ n6_ n7_ n8_ n9_ n10_; (try clear hb); (try clear hb2); (try clear hk); (try clear hi)))
                          go_meet
                          case rel => exact ⟨_, (true), (by first | rfl | (simp; done) | (simp [*]; done)), H', ⟨by have := HJ13.out; have := HJ62.out; first | omega | exact Nat.le_refl _⟩, ⟨by (try simp only [hl835002_62]); (with_reducible repeat (first | apply Kd.R_alloc | apply Kd.R_drewN | apply Kd.R_drew)); exact Kd.R_mono HO_829002.out (fun _ hk => ⟨hk.1.1.1, ⟨hk.1.1.2, hk.2⟩⟩)⟩, ⟨by (try simp only [hl835002_62]); (with_reducible repeat (first | apply Kd.R_alloc | apply Kd.R_drewN | apply Kd.R_drew)); exact Kd.R_mono HO_835002.out (fun _ hk => ⟨hk.1.1.1, ⟨hk.1.1.2, hk.2⟩⟩)⟩, ⟨by (try simp only [hl835002_62]); (with_reducible repeat (first | apply Kd.R_alloc | apply Kd.R_drewN | apply Kd.R_drew)); exact Kd.R_mono HO_842002.out (fun _ hk => ⟨hk.1.1.1, ⟨hk.1.1.2, hk.2⟩⟩)⟩, ⟨by (try simp only [hl835002_62]); (with_reducible repeat (first | apply Kd.R_alloc | apply Kd.R_drewN | apply Kd.R_drew)); exact Kd.R_mono HO864.out (fun _ hk => ⟨hk.1.1.1.2, ⟨hk.1.1.2, hk.1.2⟩⟩)⟩, ⟨by (try simp only [hl835002_62]); (with_reducible repeat (first | refine blk_drewN ?_ _ | refine blk_drew ?_ | refine blk_alloc ?_ _)); exact BK815.out⟩, ⟨by (try simp only [hl835002_62]); (with_reducible repeat (first | refine blk_drewN ?_ _ | refine blk_drew ?_ | refine blk_alloc ?_ _)); exact BK828.out⟩, ⟨by (try simp only [hl835002_62]); (with_reducible repeat (first | refine blk_drewN ?_ _ | refine blk_drew ?_ | refine blk_alloc ?_ _)); exact BK834.out⟩, ⟨by (try simp only [hl835002_62]); (with_reducible repeat (first | refine blk_drewN ?_ _ | refine blk_drew ?_ | refine blk_alloc ?_ _)); exact BK841.out⟩, ⟨by (try simp only [hl835002_62]); (with_reducible repeat (first | refine blk_drewN ?_ _ | refine blk_drew ?_ | refine blk_alloc ?_ _)); exact BK866.out⟩, ⟨by repeat (first | (with_reducible first | exact HB.out | apply below_alloc | apply pw_below_drewN | apply below_drew1 | refine below_set ?_ GE815.out | refine below_set ?_ GE828.out | refine below_set ?_ GE834.out | refine below_set ?_ GE841.out | refine below_set ?_ GE866.out) | exact HB.out)⟩⟩
                      case rest =>
                        clear HC99
                        try clear c1
                        try clear c2
                        try clear p2
                        try clear c3
                        try clear c4
                        try clear c5
                        try clear c6
                        try clear c6b0
                        try clear c7
                        try clear c8
                        try clear c9
                        try clear c10
                        try clear c11
                        try clear c12
                        try clear c13
                        try clear c14
                        try clear c23
                        try clear c29
                        try clear c30
                        try clear c34
                        try clear c35
                        try clear c36
                        try clear c37
                        try clear c39
                        try clear c41
                        try clear c42
                        try clear c43
                        try clear c44
                        try clear c46
                        try clear c47
                        try clear c49
                        try clear c50
                        try clear c51
                        try clear c52
                        try clear c54
                        try clear c55
                        try clear c56
                        try clear c58
                        try clear c60
                        try clear c61
                        try clear c68
                        try clear c69
                        try clear c70
                        try clear c73
                        try clear c73b0
                        try clear c75
                        try clear c76
                        try clear c77
                        try clear c78
                        try clear c80
                        try clear c81
                        try clear c84
                        try clear c85
                        try clear c86
                        try clear c88
                        try clear c89
                        try clear c92
                        try clear c95
                        try clear c95b0
                        try clear c96
                        try clear c96b0
                        try clear c96b1
                        try clear c100
                        try clear c101
                        try clear c102
                        try clear c107
                        try clear c108
                        try clear c114
                        try clear c115
                        try clear c116
                        try clear c117
                        try clear c121
                        try clear c122
                        try clear c123
                        try clear c124
                        try clear c125
                        try clear c127
                        try clear c128
                        try clear c129
                        try clear c132
                        try clear c133
                        try clear c134
                        try clear c135
                        try clear c137
                        try clear c138
                        try clear c139
                        try clear hcz103_0
                        try clear hcz103_1
                        try clear hcz103_2
                        try clear hcz105_0
                        try clear hcz105_1
                        try clear hcz105_2
                        try clear hcz109_0
                        try clear hcz109_1
                        try clear hcz109_2
                        try clear hcz118_0
                        try clear hcz118_1
                        try clear hcz118_2
                        try clear hcz126_0
                        try clear hcz126_1
                        try clear hcz126_2
                        try clear hcz130_0
                        try clear hcz130_1
                        try clear hcz130_2
                        try clear hcz136_0
                        try clear hcz136_1
                        try clear hcz136_2
                        try clear hcz140_0
                        try clear hcz140_1
                        try clear hcz140_2
                        try clear hcz16_0
                        try clear hcz16_1
                        try clear hcz16_2
                        try clear hcz18_0
                        try clear hcz18_1
                        try clear hcz18_2
                        try clear hcz24_0
                        try clear hcz24_1
                        try clear hcz24_2
                        try clear hcz26_0
                        try clear hcz26_1
                        try clear hcz26_2
                        try clear hcz31_0
                        try clear hcz31_1
                        try clear hcz31_2
                        try clear hcz38_0
                        try clear hcz38_1
                        try clear hcz38_2
                        try clear hcz45_0
                        try clear hcz45_1
                        try clear hcz45_2
                        try clear hcz48_0
                        try clear hcz48_1
                        try clear hcz48_2
                        try clear hcz53_0
                        try clear hcz53_1
                        try clear hcz53_2
                        try clear hcz56_0
                        try clear hcz56_1
                        try clear hcz56_2
                        try clear hcz71_0
                        try clear hcz71_1
                        try clear hcz71_2
                        try clear hcz79_0
                        try clear hcz79_1
                        try clear hcz79_2
                        try clear hcz82_0
                        try clear hcz82_1
                        try clear hcz82_2
                        try clear hcz87_0
                        try clear hcz87_1
                        try clear hcz87_2
                        try clear hcz8_0
                        try clear hcz8_1
                        try clear hcz8_2
                        try clear hcz90_0
                        try clear hcz90_1
                        try clear hcz90_2
                        try clear hfz103_0
                        try clear hfz103_1
                        try clear hfz103_2
                        try clear hfz105_0
                        try clear hfz105_1
                        try clear hfz105_2
                        try clear hfz109_0
                        try clear hfz109_1
                        try clear hfz109_2
                        try clear hfz118_0
                        try clear hfz118_1
                        try clear hfz118_2
                        try clear hfz126_0
                        try clear hfz126_1
                        try clear hfz126_2
                        try clear hfz130_0
                        try clear hfz130_1
                        try clear hfz130_2
                        try clear hfz136_0
                        try clear hfz136_1
                        try clear hfz136_2
                        try clear hfz140_0
                        try clear hfz140_1
                        try clear hfz140_2
                        try clear hfz16_0
                        try clear hfz16_1
                        try clear hfz16_2
                        try clear hfz18_0
                        try clear hfz18_1
                        try clear hfz18_2
                        try clear hfz24_0
                        try clear hfz24_1
                        try clear hfz24_2
                        try clear hfz26_0
                        try clear hfz26_1
                        try clear hfz26_2
                        try clear hfz31_0
                        try clear hfz31_1
                        try clear hfz31_2
                        try clear hfz38_0
                        try clear hfz38_1
                        try clear hfz38_2
                        try clear hfz45_0
                        try clear hfz45_1
                        try clear hfz45_2
                        try clear hfz48_0
                        try clear hfz48_1
                        try clear hfz48_2
                        try clear hfz53_0
                        try clear hfz53_1
                        try clear hfz53_2
                        try clear hfz56_0
                        try clear hfz56_1
                        try clear hfz56_2
                        try clear hfz71_0
                        try clear hfz71_1
                        try clear hfz71_2
                        try clear hfz79_0
                        try clear hfz79_1
                        try clear hfz79_2
                        try clear hfz82_0
                        try clear hfz82_1
                        try clear hfz82_2
                        try clear hfz87_0
                        try clear hfz87_1
                        try clear hfz87_2
                        try clear hfz8_0
                        try clear hfz8_1
                        try clear hfz8_2
                        try clear hfz90_0
                        try clear hfz90_1
                        try clear hfz90_2
                        try clear p2
                        obtain ⟨kq, x102_98, rfl, HA, HJ98, HO_829002, HO_835002, HO_842002, HO_867002, BK815, BK828, BK834, BK841, BK866, HB⟩ := hcut
                        have hl842002_98 := (Kd.R_reads' HO_842002.out).1
                        rw [hl842002_98] at HO_842002
                        (try simp only [hl842002_98])
                        (try simp only [hl842002_98] at BK815)
                        (try simp only [hl842002_98] at BK828)
                        (try simp only [hl842002_98] at BK834)
                        (try simp only [hl842002_98] at BK841)
                        (try simp only [hl842002_98] at BK866)
                        (try simp only [hl842002_98] at HO_829002)
                        (try simp only [hl842002_98] at HO_835002)
                        (try simp only [hl842002_98] at HO_867002)
                        cases kq with
                        | zero => exact absurd HA.out (by simp [laws_FnExactScreenLevel.j2])
                        | succ kj98 =>
                          have H := HA.out
                          clear HA
                          simp only [laws_FnExactScreenLevel.j2] at H
                          by_cases c142 : x102_98 = true
                          · subst c142
                            have H1 : (some false) = some r := by rw [if_pos rfl] at H; exact H
                            clear H
                            have H := H1
                            clear H1
                            exact absurd ((Option.some.inj H).trans hT.out) (by decide)
                          · replace c142 := Bool.eq_false_iff.mpr c142
                            subst c142
                            have H1 : ((laws_heldPicture.f kj98 t835 t836 t853 1).bind fun t868 => (if t868 < 0 then (some false) else (if t868 = t852 then (some true) else (some false)))) = some r := by rw [if_neg (show ¬ (false = true) by decide)] at H; exact H
                            clear H
                            have H := H1
                            clear H1
                            replace H := Option.bind_eq_some_iff.mp H
                            obtain ⟨t868, A1430, H⟩ := H
                            replace H : (if t868 < 0 then (some false) else (if t868 = t852 then (some true) else (some false))) = some r := H
                            have A143 := Aside0.mk A1430
                            clear A1430
                            by_cases c144 : t868 < 0
                            · rw [if_pos c144] at H
                              have c144b0 : decide (t868 < 0) = true := decide_eq_true c144
                              clear c144
                              exact absurd ((Option.some.inj H).trans hT.out) (by decide)
                            · rw [if_neg c144] at H
                              have c144b0 : decide (t868 < 0) = false := decide_eq_false c144
                              clear c144
                              by_cases c145 : t868 = t852
                              · rw [if_pos c145] at H
                                have c145b0 : (t868 == t852) = true := beq_iff_eq.mpr c145
                                have c145b1 : (t868 != t852) = false := bne_eq_false_iff_eq.mpr c145
                                clear c145
                                obtain rfl := Option.some.inj H
                                have hnb146 := NB841_815.out
                                have hnc146 := NB815_841.out
                                have hnb147 := NB841_828.out
                                have hnc147 := NB828_841.out
                                have hnb148 := NB841_834.out
                                have hnc148 := NB834_841.out
                                have hnb149 := NB841_866.out
                                have hnc149 := NB866_841.out
                                have hcz150_0 : wc.cell? ⟨gb841, 0, none⟩ = some (.int .i64 t835) := (blk_cell BK841.out 0).trans rfl
                                have hcz150_1 : wc.cell? ⟨gb841, 1, none⟩ = some (.int .i64 t836) := (blk_cell BK841.out 1).trans rfl
                                have hcz150_2 : wc.cell? ⟨gb841, 2, none⟩ = some (.slice Ao39 t853.length co39) := (blk_cell BK841.out 2).trans rfl
                                have hfz150_0 := blk_frozen BK841.out 0
                                have hfz150_1 := blk_frozen BK841.out 1
                                have hfz150_2 := blk_frozen BK841.out 2
                                go_wp2_with (first | ((with_reducible refine gate_callee (f := 51) rfl ?_); refine goesL_ (some 105) rfl rfl Try.func51 (by kernel_rfl) rfl #[.agg #[.int .i64 t835, .int .i64 t836, .slice Ao39 t853.length co39], .int .i64 1] rfl (by (try simp only [List.map_toArray, List.map_cons, List.map_nil]); first | done | rfl | (simp only [List.length_drop, List.length_take]; rfl)) ?_; (with_reducible refine (laws_heldPicture.calls kj98 t835 t836 _ _ t853 1 t868 _ ?side1 ?side2 A143.out).mono ?_); (case side1 => repeat (first | exact (Kd.R_reads' HO_842002.out).2.2 | (with_reducible refine Kd.C_alloc ?_ _) | (with_reducible refine Kd.C_drewN ?_ _) | (with_reducible refine Kd.C_drew ?_))); (case side2 => exact (Kd.R_reads' HO_842002.out).2.1); rintro e w151 ⟨rfl, hb⟩; refine ⟨_, rfl, ?_⟩; have n0_ := Aside0.mk (Kd.R_below (by (with_reducible repeat (first | apply Kd.R_alloc | apply Kd.R_drewN | apply Kd.R_drew)); exact HO_829002.out) hb); have n1_ := Aside0.mk (Kd.R_below (by (with_reducible repeat (first | apply Kd.R_alloc | apply Kd.R_drewN | apply Kd.R_drew)); exact HO_835002.out) hb); have n2_ := Aside0.mk (Kd.R_below (by (with_reducible repeat (first | apply Kd.R_alloc | apply Kd.R_drewN | apply Kd.R_drew)); exact HO_842002.out) hb); have n3_ := Aside0.mk (Kd.R_below (by (with_reducible repeat (first | apply Kd.R_alloc | apply Kd.R_drewN | apply Kd.R_drew)); exact HO_867002.out) hb); have n4_ := Aside0.mk (blk_below (g := gb815) (o := .cells #[.int .i64 a0_0, .int .i64 a0_1, .slice A0_2 l0_2.length c0_2] 55 (0, 0)) (by (with_reducible repeat (first | refine blk_drewN ?_ _ | refine blk_drew ?_ | refine blk_alloc ?_ _)); exact BK815.out) hb); have n5_ := Aside0.mk (blk_below (g := gb828) (o := .cells #[.int .i64 t822, .int .i64 t823, .slice Ao25 t824.length co25] 41 (0, 0)) (by (with_reducible repeat (first | refine blk_drewN ?_ _ | refine blk_drew ?_ | refine blk_alloc ?_ _)); exact BK828.out) hb); have n6_ := Aside0.mk (blk_below (g := gb834) (o := .cells #[.int .i64 t829, .int .i64 t830, .slice Ao32 t850.length co32] 26 (0, 0)) (by (with_reducible repeat (first | refine blk_drewN ?_ _ | refine blk_drew ?_ | refine blk_alloc ?_ _)); exact BK834.out) hb); have n7_ := Aside0.mk (blk_below (g := gb841) (o := .cells #[.int .i64 t835, .int .i64 t836, .slice Ao39 t853.length co39] 41 (0, 0)) (by (with_reducible repeat (first | refine blk_drewN ?_ _ | refine blk_drew ?_ | refine blk_alloc ?_ _)); exact BK841.out) hb); have n8_ := Aside0.mk (blk_below (g := gb866) (o := .cells #[.int .i64 t860, .int .i64 t861, .slice Ao119 t862.length co119] 41 (0, 0)) (by (with_reducible repeat (first | refine blk_drewN ?_ _ | refine blk_drew ?_ | refine blk_alloc ?_ _)); exact BK866.out) hb); have n9_ := Aside0.mk (below_step (by repeat (first | (with_reducible first | exact HB.out | apply below_alloc | apply pw_below_drewN | apply below_drew1 | refine below_set ?_ GE815.out | refine below_set ?_ GE828.out | refine below_set ?_ GE834.out | refine below_set ?_ GE841.out | refine below_set ?_ GE866.out) | exact HB.out)) hb); clear HO_829002; clear HO_835002; clear HO_842002; clear HO_867002; clear BK815; clear BK828; clear BK834; clear BK841; clear BK866; clear HB; have HO_829002 := n0_; have HO_835002 := n1_; have HO_842002 := n2_; have HO_867002 := n3_; have BK815 := n4_; have BK828 := n5_; have BK834 := n6_; have BK841 := n7_; have BK866 := n8_; have HB := n9_; clear n0_ n1_ n2_ n3_ n4_ n5_ n6_ n7_ n8_ n9_; (try clear hb); (try clear hb2); (try clear hk); (try clear hi)))
                                go_ret
                                exact ⟨by first | rfl | (simp [errW_none, errW_some] <;> rfl) | (simp [*, errW_none, errW_some] <;> rfl), by repeat (first | (with_reducible first | exact HB.out | apply below_alloc | apply pw_below_drewN | apply below_drew1 | refine below_set ?_ GE815.out | refine below_set ?_ GE828.out | refine below_set ?_ GE834.out | refine below_set ?_ GE841.out | refine below_set ?_ GE866.out) | exact HB.out)⟩
                              · rw [if_neg c145] at H
                                have c145b0 : (t868 == t852) = false := beq_eq_false_iff_ne.mpr c145
                                have c145b1 : (t868 != t852) = true := bne_iff_ne.mpr c145
                                exact absurd ((Option.some.inj H).trans hT.out) (by decide)
                    · rw [if_neg c96] at H
                      have c96b0 : (t854 == t852) = false := beq_eq_false_iff_ne.mpr c96
                      have c96b1 : (t854 != t852) = true := bne_iff_ne.mpr c96
                      exact absurd ((Option.some.inj H).trans hT.out) (by decide)
          · replace c61 := Bool.eq_false_iff.mpr c61
            subst c61
            have H1 : (some false) = some r := by rw [if_neg (show ¬ (false = true) by decide)] at H; exact H
            clear H
            have H := H1
            clear H1
            exact absurd ((Option.some.inj H).trans hT.out) (by decide)

end Go.Proofs.Ytdlehfnlibddcaa.P
