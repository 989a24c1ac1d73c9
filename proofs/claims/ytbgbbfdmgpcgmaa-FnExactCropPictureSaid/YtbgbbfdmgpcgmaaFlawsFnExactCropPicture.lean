-- Written by tools/seatprint.py (over the kit's print, changed in memory). Not trusted: Lean checks it.
import Derived.Test.YtbgbbfdmgpcgmaaP0
import Derived.Test.YtbgbbfdmgpcgmaaFlawsszPicture
import Derived.Test.YtbgbbfdmgpcgmaaFlawstoPicture
import Derived.Test.YtbgbbfdmgpcgmaaFlawseqPicture
import Derived.Test.YtbgbbfdmgpcgmaaFlawsmarkPicture
import Derived.Test.YtbgbbfdmgpcgmaaFlawsheldPicture
import Derived.Test.YtbgbbfdmgpcgmaaFimplCropPicture
import Derived.Test.YtbgbbfdmgpcgmaaFspecCropPicture
namespace Go.Proofs.Ytbgbbfdmgpcgmaa.P
open Go.RowKit Go.Proofs.YtbgbbfdmgpcgmaaW.PrintWords Go.Proofs.YtbgbbfdmgpcgmaaW.PrintLast Go.Proofs.YtbgbbfdmgpcgmaaW.PrintMore
attribute [local go_sem] max2_int min2_int max_two min_two max_three min_three max_four min_four   -- for this text's walks alone
set_option linter.unusedVariables false
set_option linter.unusedSimpArgs false

/-! ### laws_FnExactCropPicture: function 24 -/
mutual
def laws_FnExactCropPicture.j0 : Nat → Int → Int → Int → Int → Bool → Bool → Bool → Int → Int → List Int → Int → Int → List Int → Int → Int → List Int → Int → Int → List Int → Option (Bool)
  | 0, _, _, _, _, _, _, _, _, _, _, _, _, _, _, _, _, _, _, _ => none
  | k + 1, x1, x2, x3, x4, x13, x16, x56, x1052000, x1052001, x1052002, x1065000, x1065001, x1065002, x1071000, x1071001, x1071002, x1078000, x1078001, x1078002 => if x56 = true then (some false) else ((laws_toPicture.f k x1052000 x1052001 x1052002).bind fun bt1079 => ((laws_eqPicture.f k x1071000 x1071001 x1071002 bt1079.1 bt1079.2.1 bt1079.2.2).bind fun t1084 => (if t1084 = true then ((laws_markPicture.f k x1071000 x1071001 x1071002 1).bind fun bt1085 => (if bt1085.1 < 0 then (laws_FnExactCropPicture.j1 k x1 x2 x3 x4 x13 true x1052000 x1052001 x1052002 x1065000 x1065001 x1065002 x1078000 x1078001 x1078002) else ((laws_eqPicture.f k x1078000 x1078001 x1078002 x1065000 x1065001 x1065002).bind fun t1087 => (if t1087 = true then (laws_FnExactCropPicture.j1 k x1 x2 x3 x4 x13 (x16 != x13) x1052000 x1052001 x1052002 x1065000 x1065001 x1065002 x1078000 x1078001 x1078002) else (laws_FnExactCropPicture.j1 k x1 x2 x3 x4 x13 true x1052000 x1052001 x1052002 x1065000 x1065001 x1065002 x1078000 x1078001 x1078002))))) else (some false))))
def laws_FnExactCropPicture.j1 : Nat → Int → Int → Int → Int → Bool → Bool → Int → Int → List Int → Int → Int → List Int → Int → Int → List Int → Option (Bool)
  | 0, _, _, _, _, _, _, _, _, _, _, _, _, _, _, _ => none
  | k + 1, x1, x2, x3, x4, x13, x77, x1052000, x1052001, x1052002, x1065000, x1065001, x1065002, x1078000, x1078001, x1078002 => if x77 = true then (some false) else ((laws_markPicture.f k x1078000 x1078001 x1078002 1).bind fun bt1088 => ((laws_heldPicture.f k x1078000 x1078001 bt1088.2 1).bind fun t1090 => (if t1090 < 0 then (some false) else (if t1090 = bt1088.1 then ((laws_toPicture.f k x1052000 x1052001 x1052002).bind fun bt1091 => ((impl_CropPicture.f bt1091.1 bt1091.2.1 bt1091.2.2 x1 x2 x3 x4).bind fun bt1096 => ((laws_eqPicture.f k bt1096.1 bt1096.2.1 bt1096.2.2.1 x1065000 x1065001 x1065002).bind fun t1103 => (if t1103 = true then (laws_FnExactCropPicture.j2 k bt1088.1 (bt1096.2.2.2 != x13) x1078000 x1078001 bt1088.2) else (laws_FnExactCropPicture.j2 k bt1088.1 true x1078000 x1078001 bt1088.2))))) else (some false)))))
def laws_FnExactCropPicture.j2 : Nat → Int → Bool → Int → Int → List Int → Option (Bool)
  | 0, _, _, _, _, _ => none
  | k + 1, x18, x107, x1078000, x1078001, x1078002 => if x107 = true then (some false) else ((laws_heldPicture.f k x1078000 x1078001 x1078002 1).bind fun t1104 => (if t1104 < 0 then (some false) else (if t1104 = x18 then (some true) else (some false))))
end
def laws_FnExactCropPicture.f (k : Nat) (a0_0 : Int) (a0_1 : Int) (l0_2 : List Int) (a1 : Int) (a2 : Int) (a3 : Int) (a4 : Int) : Option (Bool) := (laws_szPicture.f a0_0 a0_1 l0_2 1048576).bind fun t1052 => (if t1052 < 0 then (some true) else ((laws_toPicture.f k a0_0 a0_1 l0_2).bind fun bt1053 => ((spec_CropPicture.f k bt1053.1 bt1053.2.1 bt1053.2.2 a1 a2 a3 a4).bind fun bt1058 => ((laws_toPicture.f k a0_0 a0_1 l0_2).bind fun bt1065 => ((impl_CropPicture.f bt1065.1 bt1065.2.1 bt1065.2.2 a1 a2 a3 a4).bind fun bt1071 => ((laws_eqPicture.f k bt1071.1 bt1071.2.1 bt1071.2.2.1 bt1058.1 bt1058.2.1 bt1058.2.2.1).bind fun t1078 => (if t1078 = true then (laws_FnExactCropPicture.j0 k a1 a2 a3 a4 bt1058.2.2.2 bt1071.2.2.2 (bt1071.2.2.2 != bt1058.2.2.2) a0_0 a0_1 l0_2 bt1058.1 bt1058.2.1 bt1058.2.2.1 bt1065.1 bt1065.2.1 bt1065.2.2 bt1071.1 bt1071.2.1 bt1071.2.2.1) else (laws_FnExactCropPicture.j0 k a1 a2 a3 a4 bt1058.2.2.2 bt1071.2.2.2 true a0_0 a0_1 l0_2 bt1058.1 bt1058.2.1 bt1058.2.2.1 bt1065.1 bt1065.2.1 bt1065.2.2 bt1071.1 bt1071.2.1 bt1071.2.2.1))))))))
theorem laws_FnExactCropPicture.mono_l : ∀ k, (∀ y0 y1 y2 y3 y4 y5 y6 y7 y8 y9 y10 y11 y12 y13 y14 y15 y16 y17 y18, LeO (laws_FnExactCropPicture.j0 k y0 y1 y2 y3 y4 y5 y6 y7 y8 y9 y10 y11 y12 y13 y14 y15 y16 y17 y18) (laws_FnExactCropPicture.j0 (k + 1) y0 y1 y2 y3 y4 y5 y6 y7 y8 y9 y10 y11 y12 y13 y14 y15 y16 y17 y18)) ∧ (∀ y0 y1 y2 y3 y4 y5 y6 y7 y8 y9 y10 y11 y12 y13 y14, LeO (laws_FnExactCropPicture.j1 k y0 y1 y2 y3 y4 y5 y6 y7 y8 y9 y10 y11 y12 y13 y14) (laws_FnExactCropPicture.j1 (k + 1) y0 y1 y2 y3 y4 y5 y6 y7 y8 y9 y10 y11 y12 y13 y14)) ∧ (∀ y0 y1 y2 y3 y4, LeO (laws_FnExactCropPicture.j2 k y0 y1 y2 y3 y4) (laws_FnExactCropPicture.j2 (k + 1) y0 y1 y2 y3 y4))
  | 0 => ⟨fun _ _ _ _ _ _ _ _ _ _ _ _ _ _ _ _ _ _ _ r h => by simp [laws_FnExactCropPicture.j0] at h, fun _ _ _ _ _ _ _ _ _ _ _ _ _ _ _ r h => by simp [laws_FnExactCropPicture.j1] at h, fun _ _ _ _ _ r h => by simp [laws_FnExactCropPicture.j2] at h⟩
  | k + 1 => by
    obtain ⟨ih0, ih1, ih2⟩ := laws_FnExactCropPicture.mono_l k
    refine ⟨?_, ?_, ?_⟩
    · intro y0 y1 y2 y3 y4 y5 y6 y7 y8 y9 y10 y11 y12 y13 y14 y15 y16 y17 y18
      unfold laws_FnExactCropPicture.j0
      repeat' first
      | (with_reducible exact ih0 _ _ _ _ _ _ _ _ _ _ _ _ _ _ _ _ _ _ _)
      | (with_reducible exact ih1 _ _ _ _ _ _ _ _ _ _ _ _ _ _ _)
      | (with_reducible exact ih2 _ _ _ _ _)
      | (with_reducible exact laws_eqPicture.mono _ _ _ _ _ _ _)
      | (with_reducible exact laws_heldPicture.mono _ _ _ _ _)
      | (with_reducible exact laws_markPicture.mono _ _ _ _ _)
      | (with_reducible exact laws_toPicture.mono _ _ _ _)
      | (with_reducible exact spec_CropPicture.mono _ _ _ _ _ _ _ _)
      | (with_reducible exact LeO.refl _)
      | (with_reducible exact LeO.none _)
      | (with_reducible refine LeO.ite ?_ ?_)
      | (with_reducible refine LeO.bind ?_ (fun _ => ?_))
      | exact ih0 _ _ _ _ _ _ _ _ _ _ _ _ _ _ _ _ _ _ _
      | exact ih1 _ _ _ _ _ _ _ _ _ _ _ _ _ _ _
      | exact ih2 _ _ _ _ _
      | exact laws_eqPicture.mono _ _ _ _ _ _ _
      | exact laws_heldPicture.mono _ _ _ _ _
      | exact laws_markPicture.mono _ _ _ _ _
      | exact laws_toPicture.mono _ _ _ _
      | exact spec_CropPicture.mono _ _ _ _ _ _ _ _
      | exact LeO.none _
      | refine LeO.ite ?_ ?_
      | refine LeO.bind ?_ (fun _ => ?_)
    · intro y0 y1 y2 y3 y4 y5 y6 y7 y8 y9 y10 y11 y12 y13 y14
      unfold laws_FnExactCropPicture.j1
      repeat' first
      | (with_reducible exact ih0 _ _ _ _ _ _ _ _ _ _ _ _ _ _ _ _ _ _ _)
      | (with_reducible exact ih1 _ _ _ _ _ _ _ _ _ _ _ _ _ _ _)
      | (with_reducible exact ih2 _ _ _ _ _)
      | (with_reducible exact laws_eqPicture.mono _ _ _ _ _ _ _)
      | (with_reducible exact laws_heldPicture.mono _ _ _ _ _)
      | (with_reducible exact laws_markPicture.mono _ _ _ _ _)
      | (with_reducible exact laws_toPicture.mono _ _ _ _)
      | (with_reducible exact spec_CropPicture.mono _ _ _ _ _ _ _ _)
      | (with_reducible exact LeO.refl _)
      | (with_reducible exact LeO.none _)
      | (with_reducible refine LeO.ite ?_ ?_)
      | (with_reducible refine LeO.bind ?_ (fun _ => ?_))
      | exact ih0 _ _ _ _ _ _ _ _ _ _ _ _ _ _ _ _ _ _ _
      | exact ih1 _ _ _ _ _ _ _ _ _ _ _ _ _ _ _
      | exact ih2 _ _ _ _ _
      | exact laws_eqPicture.mono _ _ _ _ _ _ _
      | exact laws_heldPicture.mono _ _ _ _ _
      | exact laws_markPicture.mono _ _ _ _ _
      | exact laws_toPicture.mono _ _ _ _
      | exact spec_CropPicture.mono _ _ _ _ _ _ _ _
      | exact LeO.none _
      | refine LeO.ite ?_ ?_
      | refine LeO.bind ?_ (fun _ => ?_)
    · intro y0 y1 y2 y3 y4
      unfold laws_FnExactCropPicture.j2
      repeat' first
      | (with_reducible exact ih0 _ _ _ _ _ _ _ _ _ _ _ _ _ _ _ _ _ _ _)
      | (with_reducible exact ih1 _ _ _ _ _ _ _ _ _ _ _ _ _ _ _)
      | (with_reducible exact ih2 _ _ _ _ _)
      | (with_reducible exact laws_eqPicture.mono _ _ _ _ _ _ _)
      | (with_reducible exact laws_heldPicture.mono _ _ _ _ _)
      | (with_reducible exact laws_markPicture.mono _ _ _ _ _)
      | (with_reducible exact laws_toPicture.mono _ _ _ _)
      | (with_reducible exact spec_CropPicture.mono _ _ _ _ _ _ _ _)
      | (with_reducible exact LeO.refl _)
      | (with_reducible exact LeO.none _)
      | (with_reducible refine LeO.ite ?_ ?_)
      | (with_reducible refine LeO.bind ?_ (fun _ => ?_))
      | exact ih0 _ _ _ _ _ _ _ _ _ _ _ _ _ _ _ _ _ _ _
      | exact ih1 _ _ _ _ _ _ _ _ _ _ _ _ _ _ _
      | exact ih2 _ _ _ _ _
      | exact laws_eqPicture.mono _ _ _ _ _ _ _
      | exact laws_heldPicture.mono _ _ _ _ _
      | exact laws_markPicture.mono _ _ _ _ _
      | exact laws_toPicture.mono _ _ _ _
      | exact spec_CropPicture.mono _ _ _ _ _ _ _ _
      | exact LeO.none _
      | refine LeO.ite ?_ ?_
      | refine LeO.bind ?_ (fun _ => ?_)
theorem laws_FnExactCropPicture.mono : ∀ a0 a1 a2 a3 a4 a5 a6 k, LeO (laws_FnExactCropPicture.f k a0 a1 a2 a3 a4 a5 a6) (laws_FnExactCropPicture.f (k + 1) a0 a1 a2 a3 a4 a5 a6) := by
  intro a0 a1 a2 a3 a4 a5 a6 k
  obtain ⟨ih0, ih1, ih2⟩ := laws_FnExactCropPicture.mono_l k
  unfold laws_FnExactCropPicture.f
  repeat' first
      | (with_reducible exact ih0 _ _ _ _ _ _ _ _ _ _ _ _ _ _ _ _ _ _ _)
      | (with_reducible exact ih1 _ _ _ _ _ _ _ _ _ _ _ _ _ _ _)
      | (with_reducible exact ih2 _ _ _ _ _)
      | (with_reducible exact laws_eqPicture.mono _ _ _ _ _ _ _)
      | (with_reducible exact laws_heldPicture.mono _ _ _ _ _)
      | (with_reducible exact laws_markPicture.mono _ _ _ _ _)
      | (with_reducible exact laws_toPicture.mono _ _ _ _)
      | (with_reducible exact spec_CropPicture.mono _ _ _ _ _ _ _ _)
      | (with_reducible exact LeO.refl _)
      | (with_reducible exact LeO.none _)
      | (with_reducible refine LeO.ite ?_ ?_)
      | (with_reducible refine LeO.bind ?_ (fun _ => ?_))
      | exact ih0 _ _ _ _ _ _ _ _ _ _ _ _ _ _ _ _ _ _ _
      | exact ih1 _ _ _ _ _ _ _ _ _ _ _ _ _ _ _
      | exact ih2 _ _ _ _ _
      | exact laws_eqPicture.mono _ _ _ _ _ _ _
      | exact laws_heldPicture.mono _ _ _ _ _
      | exact laws_markPicture.mono _ _ _ _ _
      | exact laws_toPicture.mono _ _ _ _
      | exact spec_CropPicture.mono _ _ _ _ _ _ _ _
      | exact LeO.none _
      | refine LeO.ite ?_ ?_
      | refine LeO.bind ?_ (fun _ => ?_)
set_option maxHeartbeats 8000000 in
set_option maxRecDepth 100000 in
theorem laws_FnExactCropPicture.calls (k : Nat) (a0_0 : Int) (a0_1 : Int) (A0_2 : Option Addr) (c0_2 : Nat) (l0_2 : List Int) (a1 : Int) (a2 : Int) (a3 : Int) (a4 : Int) (r : Bool) (w : World) (hr0_2 : Kd.C (Kd.int .i64) w A0_2 l0_2.length l0_2) (hc0_2 : l0_2.length ≤ c0_2) (hT : Aside0 (r = true)) (h : laws_FnExactCropPicture.f k a0_0 a0_1 l0_2 a1 a2 a3 a4 = some r) :
    Calls Try.prog 24 #[.agg #[.int .i64 a0_0, .int .i64 a0_1, .slice A0_2 l0_2.length c0_2], .int .i64 a1, .int .i64 a2, .int .i64 a3, .int .i64 a4] w fun e w' => e = .returned (.bool r) ∧ Below w.heap.size w w' := by
  have hu34 := Try.underlying34
  have hu37 := Try.underlying37
  have HR0_2 := Aside0.mk hr0_2
  have HC0_2 := Aside0.mk hc0_2
  clear hr0_2 hc0_2
  have HB := Aside0.mk (Below.refl w.heap.size w)
  have H : ((laws_szPicture.f a0_0 a0_1 l0_2 1048576).bind fun t1052 => (if t1052 < 0 then (some true) else ((laws_toPicture.f k a0_0 a0_1 l0_2).bind fun bt1053 => ((spec_CropPicture.f k bt1053.1 bt1053.2.1 bt1053.2.2 a1 a2 a3 a4).bind fun bt1058 => ((laws_toPicture.f k a0_0 a0_1 l0_2).bind fun bt1065 => ((impl_CropPicture.f bt1065.1 bt1065.2.1 bt1065.2.2 a1 a2 a3 a4).bind fun bt1071 => ((laws_eqPicture.f k bt1071.1 bt1071.2.1 bt1071.2.2.1 bt1058.1 bt1058.2.1 bt1058.2.2.1).bind fun t1078 => (if t1078 = true then (laws_FnExactCropPicture.j0 k a1 a2 a3 a4 bt1058.2.2.2 bt1071.2.2.2 (bt1071.2.2.2 != bt1058.2.2.2) a0_0 a0_1 l0_2 bt1058.1 bt1058.2.1 bt1058.2.2.1 bt1065.1 bt1065.2.1 bt1065.2.2 bt1071.1 bt1071.2.1 bt1071.2.2.1) else (laws_FnExactCropPicture.j0 k a1 a2 a3 a4 bt1058.2.2.2 bt1071.2.2.2 true a0_0 a0_1 l0_2 bt1058.1 bt1058.2.1 bt1058.2.2.1 bt1065.1 bt1065.2.1 bt1065.2.2 bt1071.1 bt1071.2.1 bt1071.2.2.1))))))))) = some r := h
  clear h
  replace H := Option.bind_eq_some_iff.mp H
  obtain ⟨t1052, A60, H⟩ := H
  replace H : (if t1052 < 0 then (some true) else ((laws_toPicture.f k a0_0 a0_1 l0_2).bind fun bt1053 => ((spec_CropPicture.f k bt1053.1 bt1053.2.1 bt1053.2.2 a1 a2 a3 a4).bind fun bt1058 => ((laws_toPicture.f k a0_0 a0_1 l0_2).bind fun bt1065 => ((impl_CropPicture.f bt1065.1 bt1065.2.1 bt1065.2.2 a1 a2 a3 a4).bind fun bt1071 => ((laws_eqPicture.f k bt1071.1 bt1071.2.1 bt1071.2.2.1 bt1058.1 bt1058.2.1 bt1058.2.2.1).bind fun t1078 => (if t1078 = true then (laws_FnExactCropPicture.j0 k a1 a2 a3 a4 bt1058.2.2.2 bt1071.2.2.2 (bt1071.2.2.2 != bt1058.2.2.2) a0_0 a0_1 l0_2 bt1058.1 bt1058.2.1 bt1058.2.2.1 bt1065.1 bt1065.2.1 bt1065.2.2 bt1071.1 bt1071.2.1 bt1071.2.2.1) else (laws_FnExactCropPicture.j0 k a1 a2 a3 a4 bt1058.2.2.2 bt1071.2.2.2 true a0_0 a0_1 l0_2 bt1058.1 bt1058.2.1 bt1058.2.2.1 bt1065.1 bt1065.2.1 bt1065.2.2 bt1071.1 bt1071.2.1 bt1071.2.2.1)))))))) = some r := H
  have A6 := Aside0.mk A60
  clear A60
  by_cases c7 : t1052 < 0
  · rw [if_pos c7] at H
    have c7b0 : decide (t1052 < 0) = true := decide_eq_true c7
    clear c7
    obtain rfl := Option.some.inj H
    go_enter Try.func24, Try.ntmps24
    go_wp2_with (first | ((with_reducible refine gate_dst (N := 5) rfl ?_); refine box_event ?hg (N := 5) ?hd (cs := #[.int .i64 a0_0, .int .i64 a0_1, .slice A0_2 l0_2.length c0_2]) (t := 34) ?hr ?_; (case hd => rfl); (case hg => rfl); (case hr => first | (go_simp; done) | (go_simp; rfl)); intro gb1051 hg w8 hbox hb; have n0_ := Aside0.mk (below_step (by repeat (first | (with_reducible first | exact HB.out | apply below_alloc | apply pw_below_drewN | apply below_drew1) | exact HB.out)) hb); have n1_ := Aside0.mk (hbox); have n2_ := Aside0.mk ((by rw [hg]; exact (below_size (by repeat (first | (with_reducible first | exact HB.out | apply below_alloc | apply pw_below_drewN | apply below_drew1) | exact HB.out))) : w.heap.size ≤ gb1051)); have n3_ := Aside0.mk ((by rw [hg]; exact (below_size (by repeat (first | (with_reducible first | exact HB.out | apply below_alloc | apply pw_below_drewN | apply below_drew1) | exact HB.out))) : w.heap.size ≤ gb1051)); clear HB; have HB := n0_; have BK1051 := n1_; have GW1051 := n2_; have GE1051 := n3_; clear n0_ n1_ n2_ n3_; clear hb hbox hg; have hcz9_0 : w8.cell? ⟨gb1051, 0, none⟩ = some (.int .i64 a0_0) := (blk_cell BK1051.out 0).trans rfl; have hcz9_1 : w8.cell? ⟨gb1051, 1, none⟩ = some (.int .i64 a0_1) := (blk_cell BK1051.out 1).trans rfl; have hcz9_2 : w8.cell? ⟨gb1051, 2, none⟩ = some (.slice A0_2 l0_2.length c0_2) := (blk_cell BK1051.out 2).trans rfl; have hfz9_0 := blk_frozen BK1051.out 0; have hfz9_1 := blk_frozen BK1051.out 1; have hfz9_2 := blk_frozen BK1051.out 2) | ((with_reducible refine gate_callee (f := 46) rfl ?_); refine goesL_ (some 24) rfl rfl Try.func46 (by kernel_rfl) rfl #[.agg #[.int .i64 a0_0, .int .i64 a0_1, .slice A0_2 l0_2.length c0_2], .int .i64 1048576] rfl (by (try simp only [List.map_toArray, List.map_cons, List.map_nil]); first | done | rfl | (simp only [List.length_drop, List.length_take]; rfl)) ?_; (with_reducible refine (laws_szPicture.calls a0_0 a0_1 _ _ l0_2 1048576 t1052 _ ?side1 ?side2 A6.out).mono ?_); (case side1 => repeat (first | exact (Kd.C_below HR0_2.out HB.out) | (with_reducible refine Kd.C_alloc ?_ _) | (with_reducible refine Kd.C_drewN ?_ _) | (with_reducible refine Kd.C_drew ?_))); (case side2 => exact HC0_2.out); rintro e w10 ⟨rfl, hb⟩; refine ⟨_, rfl, ?_⟩; have n0_ := Aside0.mk (blk_below (g := gb1051) (o := .cells #[.int .i64 a0_0, .int .i64 a0_1, .slice A0_2 l0_2.length c0_2] 34 (0, 0)) (by (with_reducible repeat (first | refine blk_drewN ?_ _ | refine blk_drew ?_ | refine blk_alloc ?_ _)); exact BK1051.out) hb); have n1_ := Aside0.mk (below_step (by repeat (first | (with_reducible first | exact HB.out | apply below_alloc | apply pw_below_drewN | apply below_drew1 | refine below_set ?_ GE1051.out) | exact HB.out)) hb); clear BK1051; clear HB; have BK1051 := n0_; have HB := n1_; clear n0_ n1_; (try clear hb); (try clear hb2); (try clear hk); (try clear hi)))
    go_ret
    exact ⟨by first | rfl | (simp [errW_none, errW_some] <;> rfl) | (simp [*, errW_none, errW_some] <;> rfl), by repeat (first | (with_reducible first | exact HB.out | apply below_alloc | apply pw_below_drewN | apply below_drew1 | refine below_set ?_ GE1051.out) | exact HB.out)⟩
  · rw [if_neg c7] at H
    have c7b0 : decide (t1052 < 0) = false := decide_eq_false c7
    clear c7
    replace H := Option.bind_eq_some_iff.mp H
    obtain ⟨⟨t1053, t1054, t1055⟩, A110, H⟩ := H
    replace H : ((spec_CropPicture.f k t1053 t1054 t1055 a1 a2 a3 a4).bind fun bt1058 => ((laws_toPicture.f k a0_0 a0_1 l0_2).bind fun bt1065 => ((impl_CropPicture.f bt1065.1 bt1065.2.1 bt1065.2.2 a1 a2 a3 a4).bind fun bt1071 => ((laws_eqPicture.f k bt1071.1 bt1071.2.1 bt1071.2.2.1 bt1058.1 bt1058.2.1 bt1058.2.2.1).bind fun t1078 => (if t1078 = true then (laws_FnExactCropPicture.j0 k a1 a2 a3 a4 bt1058.2.2.2 bt1071.2.2.2 (bt1071.2.2.2 != bt1058.2.2.2) a0_0 a0_1 l0_2 bt1058.1 bt1058.2.1 bt1058.2.2.1 bt1065.1 bt1065.2.1 bt1065.2.2 bt1071.1 bt1071.2.1 bt1071.2.2.1) else (laws_FnExactCropPicture.j0 k a1 a2 a3 a4 bt1058.2.2.2 bt1071.2.2.2 true a0_0 a0_1 l0_2 bt1058.1 bt1058.2.1 bt1058.2.2.1 bt1065.1 bt1065.2.1 bt1065.2.2 bt1071.1 bt1071.2.1 bt1071.2.2.1)))))) = some r := H
    have A11 := Aside0.mk A110
    clear A110
    replace H := Option.bind_eq_some_iff.mp H
    obtain ⟨⟨t1058, t1059, t1060, t1063⟩, A120, H⟩ := H
    replace H : ((laws_toPicture.f k a0_0 a0_1 l0_2).bind fun bt1065 => ((impl_CropPicture.f bt1065.1 bt1065.2.1 bt1065.2.2 a1 a2 a3 a4).bind fun bt1071 => ((laws_eqPicture.f k bt1071.1 bt1071.2.1 bt1071.2.2.1 t1058 t1059 t1060).bind fun t1078 => (if t1078 = true then (laws_FnExactCropPicture.j0 k a1 a2 a3 a4 t1063 bt1071.2.2.2 (bt1071.2.2.2 != t1063) a0_0 a0_1 l0_2 t1058 t1059 t1060 bt1065.1 bt1065.2.1 bt1065.2.2 bt1071.1 bt1071.2.1 bt1071.2.2.1) else (laws_FnExactCropPicture.j0 k a1 a2 a3 a4 t1063 bt1071.2.2.2 true a0_0 a0_1 l0_2 t1058 t1059 t1060 bt1065.1 bt1065.2.1 bt1065.2.2 bt1071.1 bt1071.2.1 bt1071.2.2.1))))) = some r := H
    have A12 := Aside0.mk A120
    clear A120
    replace H := Option.bind_eq_some_iff.mp H
    obtain ⟨⟨t1065, t1066, t1067⟩, A130, H⟩ := H
    replace H : ((impl_CropPicture.f t1065 t1066 t1067 a1 a2 a3 a4).bind fun bt1071 => ((laws_eqPicture.f k bt1071.1 bt1071.2.1 bt1071.2.2.1 t1058 t1059 t1060).bind fun t1078 => (if t1078 = true then (laws_FnExactCropPicture.j0 k a1 a2 a3 a4 t1063 bt1071.2.2.2 (bt1071.2.2.2 != t1063) a0_0 a0_1 l0_2 t1058 t1059 t1060 t1065 t1066 t1067 bt1071.1 bt1071.2.1 bt1071.2.2.1) else (laws_FnExactCropPicture.j0 k a1 a2 a3 a4 t1063 bt1071.2.2.2 true a0_0 a0_1 l0_2 t1058 t1059 t1060 t1065 t1066 t1067 bt1071.1 bt1071.2.1 bt1071.2.2.1)))) = some r := H
    have A13 := Aside0.mk A130
    clear A130
    replace H := Option.bind_eq_some_iff.mp H
    obtain ⟨⟨t1071, t1072, t1073, t1076⟩, A140, H⟩ := H
    replace H : ((laws_eqPicture.f k t1071 t1072 t1073 t1058 t1059 t1060).bind fun t1078 => (if t1078 = true then (laws_FnExactCropPicture.j0 k a1 a2 a3 a4 t1063 t1076 (t1076 != t1063) a0_0 a0_1 l0_2 t1058 t1059 t1060 t1065 t1066 t1067 t1071 t1072 t1073) else (laws_FnExactCropPicture.j0 k a1 a2 a3 a4 t1063 t1076 true a0_0 a0_1 l0_2 t1058 t1059 t1060 t1065 t1066 t1067 t1071 t1072 t1073))) = some r := H
    have A14 := Aside0.mk A140
    clear A140
    have HC15 := Aside0.mk H
    clear H
    go_enter Try.func24, Try.ntmps24
    go_upto_region 8 with (first | ((with_reducible refine gate_dst (N := 5) rfl ?_); refine box_event ?hg (N := 5) ?hd (cs := #[.int .i64 a0_0, .int .i64 a0_1, .slice A0_2 l0_2.length c0_2]) (t := 34) ?hr ?_; (case hd => rfl); (case hg => rfl); (case hr => first | (go_simp; done) | (go_simp; rfl)); intro gb1051 hg w16 hbox hb; have n0_ := Aside0.mk (below_step (by repeat (first | (with_reducible first | exact HB.out | apply below_alloc | apply pw_below_drewN | apply below_drew1) | exact HB.out)) hb); have n1_ := Aside0.mk (hbox); have n2_ := Aside0.mk ((by rw [hg]; exact (below_size (by repeat (first | (with_reducible first | exact HB.out | apply below_alloc | apply pw_below_drewN | apply below_drew1) | exact HB.out))) : w.heap.size ≤ gb1051)); have n3_ := Aside0.mk ((by rw [hg]; exact (below_size (by repeat (first | (with_reducible first | exact HB.out | apply below_alloc | apply pw_below_drewN | apply below_drew1) | exact HB.out))) : w.heap.size ≤ gb1051)); clear HB; have HB := n0_; have BK1051 := n1_; have GW1051 := n2_; have GE1051 := n3_; clear n0_ n1_ n2_ n3_; clear hb hbox hg; have hcz17_0 : w16.cell? ⟨gb1051, 0, none⟩ = some (.int .i64 a0_0) := (blk_cell BK1051.out 0).trans rfl; have hcz17_1 : w16.cell? ⟨gb1051, 1, none⟩ = some (.int .i64 a0_1) := (blk_cell BK1051.out 1).trans rfl; have hcz17_2 : w16.cell? ⟨gb1051, 2, none⟩ = some (.slice A0_2 l0_2.length c0_2) := (blk_cell BK1051.out 2).trans rfl; have hfz17_0 := blk_frozen BK1051.out 0; have hfz17_1 := blk_frozen BK1051.out 1; have hfz17_2 := blk_frozen BK1051.out 2) | ((with_reducible refine gate_callee (f := 46) rfl ?_); refine goesL_ (some 24) rfl rfl Try.func46 (by kernel_rfl) rfl #[.agg #[.int .i64 a0_0, .int .i64 a0_1, .slice A0_2 l0_2.length c0_2], .int .i64 1048576] rfl (by (try simp only [List.map_toArray, List.map_cons, List.map_nil]); first | done | rfl | (simp only [List.length_drop, List.length_take]; rfl)) ?_; (with_reducible refine (laws_szPicture.calls a0_0 a0_1 _ _ l0_2 1048576 t1052 _ ?side1 ?side2 A6.out).mono ?_); (case side1 => repeat (first | exact (Kd.C_below HR0_2.out HB.out) | (with_reducible refine Kd.C_alloc ?_ _) | (with_reducible refine Kd.C_drewN ?_ _) | (with_reducible refine Kd.C_drew ?_))); (case side2 => exact HC0_2.out); rintro e w18 ⟨rfl, hb⟩; refine ⟨_, rfl, ?_⟩; have n0_ := Aside0.mk (blk_below (g := gb1051) (o := .cells #[.int .i64 a0_0, .int .i64 a0_1, .slice A0_2 l0_2.length c0_2] 34 (0, 0)) (by (with_reducible repeat (first | refine blk_drewN ?_ _ | refine blk_drew ?_ | refine blk_alloc ?_ _)); exact BK1051.out) hb); have n1_ := Aside0.mk (below_step (by repeat (first | (with_reducible first | exact HB.out | apply below_alloc | apply pw_below_drewN | apply below_drew1 | refine below_set ?_ GE1051.out) | exact HB.out)) hb); clear BK1051; clear HB; have BK1051 := n0_; have HB := n1_; clear n0_ n1_; (try clear hb); (try clear hb2); (try clear hk); (try clear hi); have hcz19_0 : w18.cell? ⟨gb1051, 0, none⟩ = some (.int .i64 a0_0) := (blk_cell BK1051.out 0).trans rfl; have hcz19_1 : w18.cell? ⟨gb1051, 1, none⟩ = some (.int .i64 a0_1) := (blk_cell BK1051.out 1).trans rfl; have hcz19_2 : w18.cell? ⟨gb1051, 2, none⟩ = some (.slice A0_2 l0_2.length c0_2) := (blk_cell BK1051.out 2).trans rfl; have hfz19_0 := blk_frozen BK1051.out 0; have hfz19_1 := blk_frozen BK1051.out 1; have hfz19_2 := blk_frozen BK1051.out 2) | ((with_reducible refine gate_callee (f := 48) rfl ?_); refine goesL_ (some 29) rfl rfl Try.func48 (by kernel_rfl) rfl #[.agg #[.int .i64 a0_0, .int .i64 a0_1, .slice A0_2 l0_2.length c0_2]] rfl (by (try simp only [List.map_toArray, List.map_cons, List.map_nil]); first | done | rfl | (simp only [List.length_drop, List.length_take]; rfl)) ?_; (with_reducible refine (laws_toPicture.calls k a0_0 a0_1 _ _ l0_2 t1053 t1054 t1055 _ ?side1 ?side2 A11.out).mono ?_); (case side1 => repeat (first | exact (Kd.C_below HR0_2.out HB.out) | (with_reducible refine Kd.C_alloc ?_ _) | (with_reducible refine Kd.C_drewN ?_ _) | (with_reducible refine Kd.C_drew ?_))); (case side2 => exact HC0_2.out); rintro e w20 ⟨v1056, rfl, ho0, hb⟩; refine ⟨_, rfl, ?_⟩; have n0_ := Aside0.mk (Kd.R_lower ho0 (below_size (by repeat (first | (with_reducible first | exact HB.out | apply below_alloc | apply pw_below_drewN | apply below_drew1 | refine below_set ?_ GE1051.out) | exact HB.out)))); have n1_ := Aside0.mk (blk_below (g := gb1051) (o := .cells #[.int .i64 a0_0, .int .i64 a0_1, .slice A0_2 l0_2.length c0_2] 34 (0, 0)) (by (with_reducible repeat (first | refine blk_drewN ?_ _ | refine blk_drew ?_ | refine blk_alloc ?_ _)); exact BK1051.out) hb); have n2_ := Aside0.mk (below_step (by repeat (first | (with_reducible first | exact HB.out | apply below_alloc | apply pw_below_drewN | apply below_drew1 | refine below_set ?_ GE1051.out) | exact HB.out)) hb); clear BK1051; clear HB; have HO1057 := n0_; have BK1051 := n1_; have HB := n2_; clear n0_ n1_ n2_; (try clear hb); (try clear hb2); (try clear hk); (try clear hi); (try clear ho0); obtain ⟨Ao21, co21, eo21⟩ := Kd.R_slice HO1057.out; subst eo21) | ((with_reducible refine gate_callee (f := 89) rfl ?_); refine goesL_ (some 34) rfl rfl Try.func89 (by kernel_rfl) rfl #[.agg #[.int .i64 t1053, .int .i64 t1054, .slice Ao21 t1055.length co21], .int .i64 a1, .int .i64 a2, .int .i64 a3, .int .i64 a4] rfl (by (try simp only [List.map_toArray, List.map_cons, List.map_nil]); first | done | rfl | (simp only [List.length_drop, List.length_take]; rfl)) ?_; (with_reducible refine (spec_CropPicture.calls k t1053 t1054 _ _ t1055 a1 a2 a3 a4 t1058 t1059 t1060 t1063 _ ?side1 ?side2 A12.out).mono ?_); (case side1 => repeat (first | exact (Kd.R_reads' HO1057.out).2.2 | (with_reducible refine Kd.C_alloc ?_ _) | (with_reducible refine Kd.C_drewN ?_ _) | (with_reducible refine Kd.C_drew ?_))); (case side2 => exact (Kd.R_reads' HO1057.out).2.1); rintro e w22 ⟨v1061, rfl, ho0, hb⟩; refine ⟨_, rfl, ?_⟩; have n0_ := Aside0.mk (Kd.R_elder' (by (with_reducible repeat (first | apply Kd.R_alloc | apply Kd.R_drewN | apply Kd.R_drew)); exact HO1057.out) (Kd.R_base ho0) hb); have n1_ := Aside0.mk (Kd.R_lower (Kd.R_new' ho0 (Kd.R_lt (by (with_reducible repeat (first | apply Kd.R_alloc | apply Kd.R_drewN | apply Kd.R_drew)); exact HO1057.out))) (below_size (by repeat (first | (with_reducible first | exact HB.out | apply below_alloc | apply pw_below_drewN | apply below_drew1 | refine below_set ?_ GE1051.out) | exact HB.out)))); have n2_ := Aside0.mk (blk_below (g := gb1051) (o := .cells #[.int .i64 a0_0, .int .i64 a0_1, .slice A0_2 l0_2.length c0_2] 34 (0, 0)) (by (with_reducible repeat (first | refine blk_drewN ?_ _ | refine blk_drew ?_ | refine blk_alloc ?_ _)); exact BK1051.out) hb); have n3_ := Aside0.mk (below_step (by repeat (first | (with_reducible first | exact HB.out | apply below_alloc | apply pw_below_drewN | apply below_drew1 | refine below_set ?_ GE1051.out) | exact HB.out)) hb); clear HO1057; clear BK1051; clear HB; have HO1057 := n0_; have HO1062 := n1_; have BK1051 := n2_; have HB := n3_; clear n0_ n1_ n2_ n3_; (try clear hb); (try clear hb2); (try clear hk); (try clear hi); (try clear ho0)) | ((with_reducible refine gate_dst (N := 12) rfl ?_); refine box_event ?hg (N := 12) ?hd (cs := #[.int .i64 0, .int .i64 0, .slice none 0 0]) (t := 37) ?hr ?_; (case hd => rfl); (case hg => rfl); (case hr => first | (go_simp; done) | (go_simp; rfl)); intro gb1064 hg w23 hbox hb; have n0_ := Aside0.mk (Kd.R_below (by (with_reducible repeat (first | apply Kd.R_alloc | apply Kd.R_drewN | apply Kd.R_drew)); exact HO1057.out) hb); have n1_ := Aside0.mk (Kd.R_below (by (with_reducible repeat (first | apply Kd.R_alloc | apply Kd.R_drewN | apply Kd.R_drew)); exact HO1062.out) hb); have n2_ := Aside0.mk (blk_below (g := gb1051) (o := .cells #[.int .i64 a0_0, .int .i64 a0_1, .slice A0_2 l0_2.length c0_2] 34 (0, 0)) (by (with_reducible repeat (first | refine blk_drewN ?_ _ | refine blk_drew ?_ | refine blk_alloc ?_ _)); exact BK1051.out) hb); have n3_ := Aside0.mk (below_step (by repeat (first | (with_reducible first | exact HB.out | apply below_alloc | apply pw_below_drewN | apply below_drew1 | refine below_set ?_ GE1051.out) | exact HB.out)) hb); have n4_ := Aside0.mk (hbox); have n5_ := Aside0.mk ((by rw [hg]; exact (below_size (by repeat (first | (with_reducible first | exact HB.out | apply below_alloc | apply pw_below_drewN | apply below_drew1 | refine below_set ?_ GE1051.out) | exact HB.out))) : w.heap.size ≤ gb1064)); have n6_ := Aside0.mk ((by rw [hg]; exact (below_size (by repeat (first | (with_reducible first | exact HB.out | apply below_alloc | apply pw_below_drewN | apply below_drew1 | refine below_set ?_ GE1051.out) | exact HB.out))) : w.heap.size ≤ gb1064)); have n7_ := Aside0.mk ((by rw [hg]; exact Nat.ne_of_lt (blk_lt (g := gb1051) (o := .cells #[.int .i64 a0_0, .int .i64 a0_1, .slice A0_2 l0_2.length c0_2] 34 (0, 0)) (by (with_reducible repeat (first | refine blk_drewN ?_ _ | refine blk_drew ?_ | refine blk_alloc ?_ _)); exact BK1051.out)) : gb1051 ≠ gb1064)); have n8_ := Aside0.mk ((by rw [hg]; exact Nat.ne_of_gt (blk_lt (g := gb1051) (o := .cells #[.int .i64 a0_0, .int .i64 a0_1, .slice A0_2 l0_2.length c0_2] 34 (0, 0)) (by (with_reducible repeat (first | refine blk_drewN ?_ _ | refine blk_drew ?_ | refine blk_alloc ?_ _)); exact BK1051.out)) : gb1064 ≠ gb1051)); clear HO1057; clear HO1062; clear BK1051; clear HB; have HO1057 := n0_; have HO1062 := n1_; have BK1051 := n2_; have HB := n3_; have BK1064 := n4_; have GW1064 := n5_; have GE1064 := n6_; have NB1051_1064 := n7_; have NB1064_1051 := n8_; clear n0_ n1_ n2_ n3_ n4_ n5_ n6_ n7_ n8_; clear hb hbox hg; have hnb24 := NB1064_1051.out; have hnc24 := NB1051_1064.out; have hcz25_0 : w23.cell? ⟨gb1064, 0, none⟩ = some (.int .i64 0) := (blk_cell BK1064.out 0).trans rfl; have hcz25_1 : w23.cell? ⟨gb1064, 1, none⟩ = some (.int .i64 0) := (blk_cell BK1064.out 1).trans rfl; have hcz25_2 : w23.cell? ⟨gb1064, 2, none⟩ = some (.slice none 0 0) := (blk_cell BK1064.out 2).trans rfl; have hfz25_0 := blk_frozen BK1064.out 0; have hfz25_1 := blk_frozen BK1064.out 1; have hfz25_2 := blk_frozen BK1064.out 2; obtain ⟨Ao26, co26, eo26⟩ := Kd.R_slice HO1062.out; subst eo26; have hcz27_0 : w23.cell? ⟨gb1051, 0, none⟩ = some (.int .i64 a0_0) := (blk_cell BK1051.out 0).trans rfl; have hcz27_1 : w23.cell? ⟨gb1051, 1, none⟩ = some (.int .i64 a0_1) := (blk_cell BK1051.out 1).trans rfl; have hcz27_2 : w23.cell? ⟨gb1051, 2, none⟩ = some (.slice A0_2 l0_2.length c0_2) := (blk_cell BK1051.out 2).trans rfl; have hfz27_0 := blk_frozen BK1051.out 0; have hfz27_1 := blk_frozen BK1051.out 1; have hfz27_2 := blk_frozen BK1051.out 2) | ((with_reducible refine gate_callee (f := 48) rfl ?_); refine goesL_ (some 38) rfl rfl Try.func48 (by kernel_rfl) rfl #[.agg #[.int .i64 a0_0, .int .i64 a0_1, .slice A0_2 l0_2.length c0_2]] rfl (by (try simp only [List.map_toArray, List.map_cons, List.map_nil]); first | done | rfl | (simp only [List.length_drop, List.length_take]; rfl)) ?_; (with_reducible refine (laws_toPicture.calls k a0_0 a0_1 _ _ l0_2 t1065 t1066 t1067 _ ?side1 ?side2 A13.out).mono ?_); (case side1 => exact Kd.C_below HR0_2.out (by repeat (first | (with_reducible first | exact HB.out | apply below_alloc | apply pw_below_drewN | apply below_drew1 | refine below_set ?_ GE1051.out | refine below_set ?_ GE1064.out) | exact HB.out))); (case side2 => exact HC0_2.out); rintro e w28 ⟨v1068, rfl, ho0, hb⟩; refine ⟨_, rfl, ?_⟩; have n0_ := Aside0.mk (Kd.R_elder' (by (with_reducible repeat (first | apply Kd.R_alloc | apply Kd.R_drewN | apply Kd.R_drew)); exact (Kd.R_mono (Kd.R_far (p := ⟨gb1064, 2, none⟩) (Kd.R_far (p := ⟨gb1064, 1, none⟩) (Kd.R_far (p := ⟨gb1064, 0, none⟩) (Kd.R_types HO1057.out BK1064.out (by decide)) (fun _ hk => hk.2) (.int .i64 t1058)) (fun _ hk => hk.2) (.int .i64 t1059)) (fun _ hk => hk.2) (.slice Ao26 t1060.length co26)) (fun _ h_ => h_.1))) (Kd.R_base ho0) hb); have n1_ := Aside0.mk (Kd.R_elder' (by (with_reducible repeat (first | apply Kd.R_alloc | apply Kd.R_drewN | apply Kd.R_drew)); exact (Kd.R_mono (Kd.R_far (p := ⟨gb1064, 2, none⟩) (Kd.R_far (p := ⟨gb1064, 1, none⟩) (Kd.R_far (p := ⟨gb1064, 0, none⟩) (Kd.R_types HO1062.out BK1064.out (by decide)) (fun _ hk => hk.2) (.int .i64 t1058)) (fun _ hk => hk.2) (.int .i64 t1059)) (fun _ hk => hk.2) (.slice Ao26 t1060.length co26)) (fun _ h_ => h_.1))) (Kd.R_base ho0) hb); have n2_ := Aside0.mk (Kd.R_lower (Kd.R_new' (Kd.R_new' ho0 (Kd.R_lt (by (with_reducible repeat (first | apply Kd.R_alloc | apply Kd.R_drewN | apply Kd.R_drew)); exact (Kd.R_mono (Kd.R_far (p := ⟨gb1064, 2, none⟩) (Kd.R_far (p := ⟨gb1064, 1, none⟩) (Kd.R_far (p := ⟨gb1064, 0, none⟩) (Kd.R_types HO1057.out BK1064.out (by decide)) (fun _ hk => hk.2) (.int .i64 t1058)) (fun _ hk => hk.2) (.int .i64 t1059)) (fun _ hk => hk.2) (.slice Ao26 t1060.length co26)) (fun _ h_ => h_.1))))) (Kd.R_lt (by (with_reducible repeat (first | apply Kd.R_alloc | apply Kd.R_drewN | apply Kd.R_drew)); exact (Kd.R_mono (Kd.R_far (p := ⟨gb1064, 2, none⟩) (Kd.R_far (p := ⟨gb1064, 1, none⟩) (Kd.R_far (p := ⟨gb1064, 0, none⟩) (Kd.R_types HO1062.out BK1064.out (by decide)) (fun _ hk => hk.2) (.int .i64 t1058)) (fun _ hk => hk.2) (.int .i64 t1059)) (fun _ hk => hk.2) (.slice Ao26 t1060.length co26)) (fun _ h_ => h_.1))))) (below_size (by repeat (first | (with_reducible first | exact HB.out | apply below_alloc | apply pw_below_drewN | apply below_drew1 | refine below_set ?_ GE1051.out | refine below_set ?_ GE1064.out) | exact HB.out)))); have n3_ := Aside0.mk (blk_below (g := gb1051) (o := .cells #[.int .i64 a0_0, .int .i64 a0_1, .slice A0_2 l0_2.length c0_2] 34 (0, 0)) (by (with_reducible repeat (first | refine blk_drewN ?_ _ | refine blk_drew ?_ | refine blk_alloc ?_ _)); refine blk_far ?_ NB1051_1064.out _; (with_reducible repeat (first | refine blk_drewN ?_ _ | refine blk_drew ?_ | refine blk_alloc ?_ _)); refine blk_far ?_ NB1051_1064.out _; (with_reducible repeat (first | refine blk_drewN ?_ _ | refine blk_drew ?_ | refine blk_alloc ?_ _)); refine blk_far ?_ NB1051_1064.out _; (with_reducible repeat (first | refine blk_drewN ?_ _ | refine blk_drew ?_ | refine blk_alloc ?_ _)); exact BK1051.out) hb); have n4_ := Aside0.mk (blk_below (g := gb1064) (o := .cells #[.int .i64 t1058, .int .i64 t1059, .slice Ao26 t1060.length co26] 37 (0, 0)) (by (with_reducible repeat (first | refine blk_drewN ?_ _ | refine blk_drew ?_ | refine blk_alloc ?_ _)); refine blk_put (cs := #[.int .i64 t1058, .int .i64 t1059, .slice none 0 0]) ?_ 2 _ rfl; (with_reducible repeat (first | refine blk_drewN ?_ _ | refine blk_drew ?_ | refine blk_alloc ?_ _)); refine blk_put (cs := #[.int .i64 t1058, .int .i64 0, .slice none 0 0]) ?_ 1 _ rfl; (with_reducible repeat (first | refine blk_drewN ?_ _ | refine blk_drew ?_ | refine blk_alloc ?_ _)); refine blk_put (cs := #[.int .i64 0, .int .i64 0, .slice none 0 0]) ?_ 0 _ rfl; (with_reducible repeat (first | refine blk_drewN ?_ _ | refine blk_drew ?_ | refine blk_alloc ?_ _)); exact BK1064.out) hb); have n5_ := Aside0.mk (below_step (by repeat (first | (with_reducible first | exact HB.out | apply below_alloc | apply pw_below_drewN | apply below_drew1 | refine below_set ?_ GE1051.out | refine below_set ?_ GE1064.out) | exact HB.out)) hb); clear HO1057; clear HO1062; clear BK1051; clear BK1064; clear HB; have HO1057 := n0_; have HO1062 := n1_; have HO1069 := n2_; have BK1051 := n3_; have BK1064 := n4_; have HB := n5_; clear n0_ n1_ n2_ n3_ n4_ n5_; (try clear hb); (try clear hb2); (try clear hk); (try clear hi); (try clear ho0)) | ((with_reducible refine gate_dst (N := 14) rfl ?_); refine box_event ?hg (N := 14) ?hd (cs := #[.int .i64 0, .int .i64 0, .slice none 0 0]) (t := 37) ?hr ?_; (case hd => rfl); (case hg => rfl); (case hr => first | (go_simp; done) | (go_simp; rfl)); intro gb1070 hg w29 hbox hb; have n0_ := Aside0.mk (Kd.R_below (by (with_reducible repeat (first | apply Kd.R_alloc | apply Kd.R_drewN | apply Kd.R_drew)); exact HO1057.out) hb); have n1_ := Aside0.mk (Kd.R_below (by (with_reducible repeat (first | apply Kd.R_alloc | apply Kd.R_drewN | apply Kd.R_drew)); exact HO1062.out) hb); have n2_ := Aside0.mk (Kd.R_below (by (with_reducible repeat (first | apply Kd.R_alloc | apply Kd.R_drewN | apply Kd.R_drew)); exact HO1069.out) hb); have n3_ := Aside0.mk (blk_below (g := gb1051) (o := .cells #[.int .i64 a0_0, .int .i64 a0_1, .slice A0_2 l0_2.length c0_2] 34 (0, 0)) (by (with_reducible repeat (first | refine blk_drewN ?_ _ | refine blk_drew ?_ | refine blk_alloc ?_ _)); exact BK1051.out) hb); have n4_ := Aside0.mk (blk_below (g := gb1064) (o := .cells #[.int .i64 t1058, .int .i64 t1059, .slice Ao26 t1060.length co26] 37 (0, 0)) (by (with_reducible repeat (first | refine blk_drewN ?_ _ | refine blk_drew ?_ | refine blk_alloc ?_ _)); exact BK1064.out) hb); have n5_ := Aside0.mk (below_step (by repeat (first | (with_reducible first | exact HB.out | apply below_alloc | apply pw_below_drewN | apply below_drew1 | refine below_set ?_ GE1051.out | refine below_set ?_ GE1064.out) | exact HB.out)) hb); have n6_ := Aside0.mk (hbox); have n7_ := Aside0.mk ((by rw [hg]; exact (below_size (by repeat (first | (with_reducible first | exact HB.out | apply below_alloc | apply pw_below_drewN | apply below_drew1 | refine below_set ?_ GE1051.out | refine below_set ?_ GE1064.out) | exact HB.out))) : w.heap.size ≤ gb1070)); have n8_ := Aside0.mk ((by rw [hg]; exact (below_size (by repeat (first | (with_reducible first | exact HB.out | apply below_alloc | apply pw_below_drewN | apply below_drew1 | refine below_set ?_ GE1051.out | refine below_set ?_ GE1064.out) | exact HB.out))) : w.heap.size ≤ gb1070)); have n9_ := Aside0.mk ((by rw [hg]; exact Nat.ne_of_lt (blk_lt (g := gb1051) (o := .cells #[.int .i64 a0_0, .int .i64 a0_1, .slice A0_2 l0_2.length c0_2] 34 (0, 0)) (by (with_reducible repeat (first | refine blk_drewN ?_ _ | refine blk_drew ?_ | refine blk_alloc ?_ _)); exact BK1051.out)) : gb1051 ≠ gb1070)); have n10_ := Aside0.mk ((by rw [hg]; exact Nat.ne_of_gt (blk_lt (g := gb1051) (o := .cells #[.int .i64 a0_0, .int .i64 a0_1, .slice A0_2 l0_2.length c0_2] 34 (0, 0)) (by (with_reducible repeat (first | refine blk_drewN ?_ _ | refine blk_drew ?_ | refine blk_alloc ?_ _)); exact BK1051.out)) : gb1070 ≠ gb1051)); have n11_ := Aside0.mk ((by rw [hg]; exact Nat.ne_of_lt (blk_lt (g := gb1064) (o := .cells #[.int .i64 t1058, .int .i64 t1059, .slice Ao26 t1060.length co26] 37 (0, 0)) (by (with_reducible repeat (first | refine blk_drewN ?_ _ | refine blk_drew ?_ | refine blk_alloc ?_ _)); exact BK1064.out)) : gb1064 ≠ gb1070)); have n12_ := Aside0.mk ((by rw [hg]; exact Nat.ne_of_gt (blk_lt (g := gb1064) (o := .cells #[.int .i64 t1058, .int .i64 t1059, .slice Ao26 t1060.length co26] 37 (0, 0)) (by (with_reducible repeat (first | refine blk_drewN ?_ _ | refine blk_drew ?_ | refine blk_alloc ?_ _)); exact BK1064.out)) : gb1070 ≠ gb1064)); clear HO1057; clear HO1062; clear HO1069; clear BK1051; clear BK1064; clear HB; have HO1057 := n0_; have HO1062 := n1_; have HO1069 := n2_; have BK1051 := n3_; have BK1064 := n4_; have HB := n5_; have BK1070 := n6_; have GW1070 := n7_; have GE1070 := n8_; have NB1051_1070 := n9_; have NB1070_1051 := n10_; have NB1064_1070 := n11_; have NB1070_1064 := n12_; clear n0_ n1_ n2_ n3_ n4_ n5_ n6_ n7_ n8_ n9_ n10_ n11_ n12_; clear hb hbox hg; have hnb30 := NB1070_1051.out; have hnc30 := NB1051_1070.out; have hnb31 := NB1070_1064.out; have hnc31 := NB1064_1070.out; have hcz32_0 : w29.cell? ⟨gb1070, 0, none⟩ = some (.int .i64 0) := (blk_cell BK1070.out 0).trans rfl; have hcz32_1 : w29.cell? ⟨gb1070, 1, none⟩ = some (.int .i64 0) := (blk_cell BK1070.out 1).trans rfl; have hcz32_2 : w29.cell? ⟨gb1070, 2, none⟩ = some (.slice none 0 0) := (blk_cell BK1070.out 2).trans rfl; have hfz32_0 := blk_frozen BK1070.out 0; have hfz32_1 := blk_frozen BK1070.out 1; have hfz32_2 := blk_frozen BK1070.out 2; obtain ⟨Ao33, co33, eo33⟩ := Kd.R_slice HO1069.out; subst eo33) | ((with_reducible refine gate_callee (f := 84) rfl ?_); refine goesL_ (some 45) rfl rfl Try.func84 (by kernel_rfl) rfl #[.agg #[.int .i64 t1065, .int .i64 t1066, .slice Ao33 t1067.length co33], .int .i64 a1, .int .i64 a2, .int .i64 a3, .int .i64 a4] rfl (by (try simp only [List.map_toArray, List.map_cons, List.map_nil]); first | done | rfl | (simp only [List.length_drop, List.length_take]; rfl)) ?_; (with_reducible refine (impl_CropPicture.calls t1065 t1066 _ _ t1067 a1 a2 a3 a4 t1071 t1072 t1073 t1076 _ ?side1 ?side2 A14.out).mono ?_); (case side1 => refine (Kd.R_reads' (e := 3) (base := w.heap.size) (ok := fun k_ => ((True ∧ some k_ ≠ (.slice Ao21 t1055.length co21 : Value).ownBlock) ∧ some k_ ≠ (.slice Ao26 t1060.length co26 : Value).ownBlock)) (n := t1067.length) (c := co33) ?_).2.2; exact (by (with_reducible repeat (first | apply Kd.R_alloc | apply Kd.R_drewN | apply Kd.R_drew)); exact (Kd.R_mono (Kd.R_far (p := ⟨gb1070, 2, none⟩) (Kd.R_far (p := ⟨gb1070, 1, none⟩) (Kd.R_far (p := ⟨gb1070, 0, none⟩) (Kd.R_types HO1069.out BK1070.out (by decide)) (fun _ hk => hk.2) (.int .i64 t1065)) (fun _ hk => hk.2) (.int .i64 t1066)) (fun _ hk => hk.2) (.slice Ao33 t1067.length co33)) (fun _ h_ => h_.1)))); (case side2 => exact (Kd.R_reads' HO1069.out).2.1); rintro e w34 ⟨v1074, rfl, ho0, hb⟩; refine ⟨_, rfl, ?_⟩; have n0_ := Aside0.mk (Kd.R_elder' (by (with_reducible repeat (first | apply Kd.R_alloc | apply Kd.R_drewN | apply Kd.R_drew)); exact (Kd.R_mono (Kd.R_far (p := ⟨gb1070, 2, none⟩) (Kd.R_far (p := ⟨gb1070, 1, none⟩) (Kd.R_far (p := ⟨gb1070, 0, none⟩) (Kd.R_types HO1057.out BK1070.out (by decide)) (fun _ hk => hk.2) (.int .i64 t1065)) (fun _ hk => hk.2) (.int .i64 t1066)) (fun _ hk => hk.2) (.slice Ao33 t1067.length co33)) (fun _ h_ => h_.1))) (Kd.R_base ho0) hb); have n1_ := Aside0.mk (Kd.R_elder' (by (with_reducible repeat (first | apply Kd.R_alloc | apply Kd.R_drewN | apply Kd.R_drew)); exact (Kd.R_mono (Kd.R_far (p := ⟨gb1070, 2, none⟩) (Kd.R_far (p := ⟨gb1070, 1, none⟩) (Kd.R_far (p := ⟨gb1070, 0, none⟩) (Kd.R_types HO1062.out BK1070.out (by decide)) (fun _ hk => hk.2) (.int .i64 t1065)) (fun _ hk => hk.2) (.int .i64 t1066)) (fun _ hk => hk.2) (.slice Ao33 t1067.length co33)) (fun _ h_ => h_.1))) (Kd.R_base ho0) hb); have n2_ := Aside0.mk (Kd.R_elder' (by (with_reducible repeat (first | apply Kd.R_alloc | apply Kd.R_drewN | apply Kd.R_drew)); exact (Kd.R_mono (Kd.R_far (p := ⟨gb1070, 2, none⟩) (Kd.R_far (p := ⟨gb1070, 1, none⟩) (Kd.R_far (p := ⟨gb1070, 0, none⟩) (Kd.R_types HO1069.out BK1070.out (by decide)) (fun _ hk => hk.2) (.int .i64 t1065)) (fun _ hk => hk.2) (.int .i64 t1066)) (fun _ hk => hk.2) (.slice Ao33 t1067.length co33)) (fun _ h_ => h_.1))) (Kd.R_base ho0) hb); have n3_ := Aside0.mk (Kd.R_lower (Kd.R_new' (Kd.R_new' (Kd.R_new' ho0 (Kd.R_lt (by (with_reducible repeat (first | apply Kd.R_alloc | apply Kd.R_drewN | apply Kd.R_drew)); exact (Kd.R_mono (Kd.R_far (p := ⟨gb1070, 2, none⟩) (Kd.R_far (p := ⟨gb1070, 1, none⟩) (Kd.R_far (p := ⟨gb1070, 0, none⟩) (Kd.R_types HO1057.out BK1070.out (by decide)) (fun _ hk => hk.2) (.int .i64 t1065)) (fun _ hk => hk.2) (.int .i64 t1066)) (fun _ hk => hk.2) (.slice Ao33 t1067.length co33)) (fun _ h_ => h_.1))))) (Kd.R_lt (by (with_reducible repeat (first | apply Kd.R_alloc | apply Kd.R_drewN | apply Kd.R_drew)); exact (Kd.R_mono (Kd.R_far (p := ⟨gb1070, 2, none⟩) (Kd.R_far (p := ⟨gb1070, 1, none⟩) (Kd.R_far (p := ⟨gb1070, 0, none⟩) (Kd.R_types HO1062.out BK1070.out (by decide)) (fun _ hk => hk.2) (.int .i64 t1065)) (fun _ hk => hk.2) (.int .i64 t1066)) (fun _ hk => hk.2) (.slice Ao33 t1067.length co33)) (fun _ h_ => h_.1))))) (Kd.R_lt (by (with_reducible repeat (first | apply Kd.R_alloc | apply Kd.R_drewN | apply Kd.R_drew)); exact (Kd.R_mono (Kd.R_far (p := ⟨gb1070, 2, none⟩) (Kd.R_far (p := ⟨gb1070, 1, none⟩) (Kd.R_far (p := ⟨gb1070, 0, none⟩) (Kd.R_types HO1069.out BK1070.out (by decide)) (fun _ hk => hk.2) (.int .i64 t1065)) (fun _ hk => hk.2) (.int .i64 t1066)) (fun _ hk => hk.2) (.slice Ao33 t1067.length co33)) (fun _ h_ => h_.1))))) (below_size (by repeat (first | (with_reducible first | exact HB.out | apply below_alloc | apply pw_below_drewN | apply below_drew1 | refine below_set ?_ GE1051.out | refine below_set ?_ GE1064.out | refine below_set ?_ GE1070.out) | exact HB.out)))); have n4_ := Aside0.mk (blk_below (g := gb1051) (o := .cells #[.int .i64 a0_0, .int .i64 a0_1, .slice A0_2 l0_2.length c0_2] 34 (0, 0)) (by (with_reducible repeat (first | refine blk_drewN ?_ _ | refine blk_drew ?_ | refine blk_alloc ?_ _)); refine blk_far ?_ NB1051_1070.out _; (with_reducible repeat (first | refine blk_drewN ?_ _ | refine blk_drew ?_ | refine blk_alloc ?_ _)); refine blk_far ?_ NB1051_1070.out _; (with_reducible repeat (first | refine blk_drewN ?_ _ | refine blk_drew ?_ | refine blk_alloc ?_ _)); refine blk_far ?_ NB1051_1070.out _; (with_reducible repeat (first | refine blk_drewN ?_ _ | refine blk_drew ?_ | refine blk_alloc ?_ _)); exact BK1051.out) hb); have n5_ := Aside0.mk (blk_below (g := gb1064) (o := .cells #[.int .i64 t1058, .int .i64 t1059, .slice Ao26 t1060.length co26] 37 (0, 0)) (by (with_reducible repeat (first | refine blk_drewN ?_ _ | refine blk_drew ?_ | refine blk_alloc ?_ _)); refine blk_far ?_ NB1064_1070.out _; (with_reducible repeat (first | refine blk_drewN ?_ _ | refine blk_drew ?_ | refine blk_alloc ?_ _)); refine blk_far ?_ NB1064_1070.out _; (with_reducible repeat (first | refine blk_drewN ?_ _ | refine blk_drew ?_ | refine blk_alloc ?_ _)); refine blk_far ?_ NB1064_1070.out _; (with_reducible repeat (first | refine blk_drewN ?_ _ | refine blk_drew ?_ | refine blk_alloc ?_ _)); exact BK1064.out) hb); have n6_ := Aside0.mk (blk_below (g := gb1070) (o := .cells #[.int .i64 t1065, .int .i64 t1066, .slice Ao33 t1067.length co33] 37 (0, 0)) (by (with_reducible repeat (first | refine blk_drewN ?_ _ | refine blk_drew ?_ | refine blk_alloc ?_ _)); refine blk_put (cs := #[.int .i64 t1065, .int .i64 t1066, .slice none 0 0]) ?_ 2 _ rfl; (with_reducible repeat (first | refine blk_drewN ?_ _ | refine blk_drew ?_ | refine blk_alloc ?_ _)); refine blk_put (cs := #[.int .i64 t1065, .int .i64 0, .slice none 0 0]) ?_ 1 _ rfl; (with_reducible repeat (first | refine blk_drewN ?_ _ | refine blk_drew ?_ | refine blk_alloc ?_ _)); refine blk_put (cs := #[.int .i64 0, .int .i64 0, .slice none 0 0]) ?_ 0 _ rfl; (with_reducible repeat (first | refine blk_drewN ?_ _ | refine blk_drew ?_ | refine blk_alloc ?_ _)); exact BK1070.out) hb); have n7_ := Aside0.mk (below_step (by repeat (first | (with_reducible first | exact HB.out | apply below_alloc | apply pw_below_drewN | apply below_drew1 | refine below_set ?_ GE1051.out | refine below_set ?_ GE1064.out | refine below_set ?_ GE1070.out) | exact HB.out)) hb); clear HO1057; clear HO1062; clear HO1069; clear BK1051; clear BK1064; clear BK1070; clear HB; have HO1057 := n0_; have HO1062 := n1_; have HO1069 := n2_; have HO1075 := n3_; have BK1051 := n4_; have BK1064 := n5_; have BK1070 := n6_; have HB := n7_; clear n0_ n1_ n2_ n3_ n4_ n5_ n6_ n7_; (try clear hb); (try clear hb2); (try clear hk); (try clear hi); (try clear ho0)) | ((with_reducible refine gate_dst (N := 15) rfl ?_); refine box_event ?hg (N := 15) ?hd (cs := #[.int .i64 0, .int .i64 0, .slice none 0 0]) (t := 37) ?hr ?_; (case hd => rfl); (case hg => rfl); (case hr => first | (go_simp; done) | (go_simp; rfl)); intro gb1077 hg w35 hbox hb; have n0_ := Aside0.mk (Kd.R_below (by (with_reducible repeat (first | apply Kd.R_alloc | apply Kd.R_drewN | apply Kd.R_drew)); exact HO1057.out) hb); have n1_ := Aside0.mk (Kd.R_below (by (with_reducible repeat (first | apply Kd.R_alloc | apply Kd.R_drewN | apply Kd.R_drew)); exact HO1062.out) hb); have n2_ := Aside0.mk (Kd.R_below (by (with_reducible repeat (first | apply Kd.R_alloc | apply Kd.R_drewN | apply Kd.R_drew)); exact HO1069.out) hb); have n3_ := Aside0.mk (Kd.R_below (by (with_reducible repeat (first | apply Kd.R_alloc | apply Kd.R_drewN | apply Kd.R_drew)); exact HO1075.out) hb); have n4_ := Aside0.mk (blk_below (g := gb1051) (o := .cells #[.int .i64 a0_0, .int .i64 a0_1, .slice A0_2 l0_2.length c0_2] 34 (0, 0)) (by (with_reducible repeat (first | refine blk_drewN ?_ _ | refine blk_drew ?_ | refine blk_alloc ?_ _)); exact BK1051.out) hb); have n5_ := Aside0.mk (blk_below (g := gb1064) (o := .cells #[.int .i64 t1058, .int .i64 t1059, .slice Ao26 t1060.length co26] 37 (0, 0)) (by (with_reducible repeat (first | refine blk_drewN ?_ _ | refine blk_drew ?_ | refine blk_alloc ?_ _)); exact BK1064.out) hb); have n6_ := Aside0.mk (blk_below (g := gb1070) (o := .cells #[.int .i64 t1065, .int .i64 t1066, .slice Ao33 t1067.length co33] 37 (0, 0)) (by (with_reducible repeat (first | refine blk_drewN ?_ _ | refine blk_drew ?_ | refine blk_alloc ?_ _)); exact BK1070.out) hb); have n7_ := Aside0.mk (below_step (by repeat (first | (with_reducible first | exact HB.out | apply below_alloc | apply pw_below_drewN | apply below_drew1 | refine below_set ?_ GE1051.out | refine below_set ?_ GE1064.out | refine below_set ?_ GE1070.out) | exact HB.out)) hb); have n8_ := Aside0.mk (hbox); have n9_ := Aside0.mk ((by rw [hg]; exact (below_size (by repeat (first | (with_reducible first | exact HB.out | apply below_alloc | apply pw_below_drewN | apply below_drew1 | refine below_set ?_ GE1051.out | refine below_set ?_ GE1064.out | refine below_set ?_ GE1070.out) | exact HB.out))) : w.heap.size ≤ gb1077)); have n10_ := Aside0.mk ((by rw [hg]; exact (below_size (by repeat (first | (with_reducible first | exact HB.out | apply below_alloc | apply pw_below_drewN | apply below_drew1 | refine below_set ?_ GE1051.out | refine below_set ?_ GE1064.out | refine below_set ?_ GE1070.out) | exact HB.out))) : w.heap.size ≤ gb1077)); have n11_ := Aside0.mk ((by rw [hg]; exact Nat.ne_of_lt (blk_lt (g := gb1051) (o := .cells #[.int .i64 a0_0, .int .i64 a0_1, .slice A0_2 l0_2.length c0_2] 34 (0, 0)) (by (with_reducible repeat (first | refine blk_drewN ?_ _ | refine blk_drew ?_ | refine blk_alloc ?_ _)); exact BK1051.out)) : gb1051 ≠ gb1077)); have n12_ := Aside0.mk ((by rw [hg]; exact Nat.ne_of_gt (blk_lt (g := gb1051) (o := .cells #[.int .i64 a0_0, .int .i64 a0_1, .slice A0_2 l0_2.length c0_2] 34 (0, 0)) (by (with_reducible repeat (first | refine blk_drewN ?_ _ | refine blk_drew ?_ | refine blk_alloc ?_ _)); exact BK1051.out)) : gb1077 ≠ gb1051)); have n13_ := Aside0.mk ((by rw [hg]; exact Nat.ne_of_lt (blk_lt (g := gb1064) (o := .cells #[.int .i64 t1058, .int .i64 t1059, .slice Ao26 t1060.length co26] 37 (0, 0)) (by (with_reducible repeat (first | refine blk_drewN ?_ _ | refine blk_drew ?_ | refine blk_alloc ?_ _)); exact BK1064.out)) : gb1064 ≠ gb1077)); have n14_ := Aside0.mk ((by rw [hg]; exact Nat.ne_of_gt (blk_lt (g := gb1064) (o := .cells #[.int .i64 t1058, .int .i64 t1059, .slice Ao26 t1060.length co26] 37 (0, 0)) (by (with_reducible repeat (first | refine blk_drewN ?_ _ | refine blk_drew ?_ | refine blk_alloc ?_ _)); exact BK1064.out)) : gb1077 ≠ gb1064)); have n15_ := Aside0.mk ((by rw [hg]; exact Nat.ne_of_lt (blk_lt (g := gb1070) (o := .cells #[.int .i64 t1065, .int .i64 t1066, .slice Ao33 t1067.length co33] 37 (0, 0)) (by (with_reducible repeat (first | refine blk_drewN ?_ _ | refine blk_drew ?_ | refine blk_alloc ?_ _)); exact BK1070.out)) : gb1070 ≠ gb1077)); have n16_ := Aside0.mk ((by rw [hg]; exact Nat.ne_of_gt (blk_lt (g := gb1070) (o := .cells #[.int .i64 t1065, .int .i64 t1066, .slice Ao33 t1067.length co33] 37 (0, 0)) (by (with_reducible repeat (first | refine blk_drewN ?_ _ | refine blk_drew ?_ | refine blk_alloc ?_ _)); exact BK1070.out)) : gb1077 ≠ gb1070)); clear HO1057; clear HO1062; clear HO1069; clear HO1075; clear BK1051; clear BK1064; clear BK1070; clear HB; have HO1057 := n0_; have HO1062 := n1_; have HO1069 := n2_; have HO1075 := n3_; have BK1051 := n4_; have BK1064 := n5_; have BK1070 := n6_; have HB := n7_; have BK1077 := n8_; have GW1077 := n9_; have GE1077 := n10_; have NB1051_1077 := n11_; have NB1077_1051 := n12_; have NB1064_1077 := n13_; have NB1077_1064 := n14_; have NB1070_1077 := n15_; have NB1077_1070 := n16_; clear n0_ n1_ n2_ n3_ n4_ n5_ n6_ n7_ n8_ n9_ n10_ n11_ n12_ n13_ n14_ n15_ n16_; clear hb hbox hg; have hnb36 := NB1077_1051.out; have hnc36 := NB1051_1077.out; have hnb37 := NB1077_1064.out; have hnc37 := NB1064_1077.out; have hnb38 := NB1077_1070.out; have hnc38 := NB1070_1077.out; have hcz39_0 : w35.cell? ⟨gb1077, 0, none⟩ = some (.int .i64 0) := (blk_cell BK1077.out 0).trans rfl; have hcz39_1 : w35.cell? ⟨gb1077, 1, none⟩ = some (.int .i64 0) := (blk_cell BK1077.out 1).trans rfl; have hcz39_2 : w35.cell? ⟨gb1077, 2, none⟩ = some (.slice none 0 0) := (blk_cell BK1077.out 2).trans rfl; have hfz39_0 := blk_frozen BK1077.out 0; have hfz39_1 := blk_frozen BK1077.out 1; have hfz39_2 := blk_frozen BK1077.out 2; obtain ⟨Ao40, co40, eo40⟩ := Kd.R_slice HO1075.out; subst eo40))
    (try simp only [Act.put, List.setIfInBounds_toArray, List.set_cons_zero, List.set_cons_succ])
    go_cut [56] (fun v56 wc => ∃ (kq : Nat) (x56_14 : Bool), v56 = .bool x56_14 ∧ Aside0 (laws_FnExactCropPicture.j0 kq a1 a2 a3 a4 t1063 t1076 x56_14 a0_0 a0_1 l0_2 t1058 t1059 t1060 t1065 t1066 t1067 t1071 t1072 t1073 = some r) ∧ Aside0 (kq ≤ k) ∧ Aside0 (Kd.R (Kd.int .i64) 3 wc w.heap.size (fun k_ => some k_ ≠ ((.slice Ao33 t1067.length co33) : Value).ownBlock ∧ some k_ ≠ ((.slice Ao40 t1073.length co40) : Value).ownBlock) (.slice Ao26 t1060.length co26) t1060) ∧ Aside0 (Kd.R (Kd.int .i64) 3 wc w.heap.size (fun k_ => some k_ ≠ ((.slice Ao26 t1060.length co26) : Value).ownBlock ∧ some k_ ≠ ((.slice Ao40 t1073.length co40) : Value).ownBlock) (.slice Ao33 t1067.length co33) t1067) ∧ Aside0 (Kd.R (Kd.int .i64) 3 wc w.heap.size (fun k_ => some k_ ≠ ((.slice Ao26 t1060.length co26) : Value).ownBlock ∧ some k_ ≠ ((.slice Ao33 t1067.length co33) : Value).ownBlock) (.slice Ao40 t1073.length co40) t1073) ∧ Aside0 (wc.heap[gb1051]? = some (.cells #[.int .i64 a0_0, .int .i64 a0_1, (.slice A0_2 l0_2.length c0_2)] 34 (0, 0))) ∧ Aside0 (wc.heap[gb1064]? = some (.cells #[.int .i64 t1058, .int .i64 t1059, (.slice Ao26 t1060.length co26)] 37 (0, 0))) ∧ Aside0 (wc.heap[gb1070]? = some (.cells #[.int .i64 t1065, .int .i64 t1066, (.slice Ao33 t1067.length co33)] 37 (0, 0))) ∧ Aside0 (wc.heap[gb1077]? = some (.cells #[.int .i64 t1071, .int .i64 t1072, (.slice Ao40 t1073.length co40)] 37 (0, 0))) ∧ Aside0 (Below w.heap.size w wc))
    case first =>
      have H := HC15.out
      clear HC15
      replace H := Option.bind_eq_some_iff.mp H
      obtain ⟨t1078, A410, H⟩ := H
      replace H : (if t1078 = true then (laws_FnExactCropPicture.j0 k a1 a2 a3 a4 t1063 t1076 (t1076 != t1063) a0_0 a0_1 l0_2 t1058 t1059 t1060 t1065 t1066 t1067 t1071 t1072 t1073) else (laws_FnExactCropPicture.j0 k a1 a2 a3 a4 t1063 t1076 true a0_0 a0_1 l0_2 t1058 t1059 t1060 t1065 t1066 t1067 t1071 t1072 t1073)) = some r := H
      have A41 := Aside0.mk A410
      clear A410
      by_cases c42 : t1078 = true
      · subst c42
        have H1 : (laws_FnExactCropPicture.j0 k a1 a2 a3 a4 t1063 t1076 (t1076 != t1063) a0_0 a0_1 l0_2 t1058 t1059 t1060 t1065 t1066 t1067 t1071 t1072 t1073) = some r := by rw [if_pos rfl] at H; exact H
        clear H
        have H := H1
        clear H1
        have H' := Aside0.mk H
        clear H
        have hnb43 := NB1077_1051.out
        have hnc43 := NB1051_1077.out
        have hnb44 := NB1077_1064.out
        have hnc44 := NB1064_1077.out
        have hnb45 := NB1077_1070.out
        have hnc45 := NB1070_1077.out
        have hcz46_0 : w35.cell? ⟨gb1077, 0, none⟩ = some (.int .i64 0) := (blk_cell BK1077.out 0).trans rfl
        have hcz46_1 : w35.cell? ⟨gb1077, 1, none⟩ = some (.int .i64 0) := (blk_cell BK1077.out 1).trans rfl
        have hcz46_2 : w35.cell? ⟨gb1077, 2, none⟩ = some (.slice none 0 0) := (blk_cell BK1077.out 2).trans rfl
        have hfz46_0 := blk_frozen BK1077.out 0
        have hfz46_1 := blk_frozen BK1077.out 1
        have hfz46_2 := blk_frozen BK1077.out 2
        have hnb47 := NB1064_1051.out
        have hnc47 := NB1051_1064.out
        have hnb48 := NB1064_1070.out
        have hnc48 := NB1070_1064.out
        have hcz49_0 : w35.cell? ⟨gb1064, 0, none⟩ = some (.int .i64 t1058) := (blk_cell BK1064.out 0).trans rfl
        have hcz49_1 : w35.cell? ⟨gb1064, 1, none⟩ = some (.int .i64 t1059) := (blk_cell BK1064.out 1).trans rfl
        have hcz49_2 : w35.cell? ⟨gb1064, 2, none⟩ = some (.slice Ao26 t1060.length co26) := (blk_cell BK1064.out 2).trans rfl
        have hfz49_0 := blk_frozen BK1064.out 0
        have hfz49_1 := blk_frozen BK1064.out 1
        have hfz49_2 := blk_frozen BK1064.out 2
        go_wp2_with (first | ((with_reducible refine gate_callee (f := 50) rfl ?_); refine goesL_ (some 50) rfl rfl Try.func50 (by kernel_rfl) rfl #[.agg #[.int .i64 t1071, .int .i64 t1072, .slice Ao40 t1073.length co40], .agg #[.int .i64 t1058, .int .i64 t1059, .slice Ao26 t1060.length co26]] rfl (by (try simp only [List.map_toArray, List.map_cons, List.map_nil]); first | done | rfl | (simp only [List.length_drop, List.length_take]; rfl)) ?_; (with_reducible refine (laws_eqPicture.calls k t1071 t1072 _ _ t1073 t1058 t1059 _ _ t1060 true _ ?side1 ?side2 ?side3 ?side4 A41.out).mono ?_); (case side1 => refine (Kd.R_reads' (e := 3) (base := w.heap.size) (ok := fun k_ => (((True ∧ some k_ ≠ (.slice Ao21 t1055.length co21 : Value).ownBlock) ∧ some k_ ≠ (.slice Ao26 t1060.length co26 : Value).ownBlock) ∧ some k_ ≠ (.slice Ao33 t1067.length co33 : Value).ownBlock)) (n := t1073.length) (c := co40) ?_).2.2; exact (by (with_reducible repeat (first | apply Kd.R_alloc | apply Kd.R_drewN | apply Kd.R_drew)); exact (Kd.R_mono (Kd.R_far (p := ⟨gb1077, 2, none⟩) (Kd.R_far (p := ⟨gb1077, 1, none⟩) (Kd.R_far (p := ⟨gb1077, 0, none⟩) (Kd.R_types HO1075.out BK1077.out (by decide)) (fun _ hk => hk.2) (.int .i64 t1071)) (fun _ hk => hk.2) (.int .i64 t1072)) (fun _ hk => hk.2) (.slice Ao40 t1073.length co40)) (fun _ h_ => h_.1)))); (case side2 => exact (Kd.R_reads' HO1075.out).2.1); (case side3 => refine (Kd.R_reads' (e := 3) (base := w.heap.size) (ok := fun k_ => (((True ∧ some k_ ≠ (.slice Ao21 t1055.length co21 : Value).ownBlock) ∧ some k_ ≠ (.slice Ao33 t1067.length co33 : Value).ownBlock) ∧ some k_ ≠ (.slice Ao40 t1073.length co40 : Value).ownBlock)) (n := t1060.length) (c := co26) ?_).2.2; exact (by (with_reducible repeat (first | apply Kd.R_alloc | apply Kd.R_drewN | apply Kd.R_drew)); exact (Kd.R_mono (Kd.R_far (p := ⟨gb1077, 2, none⟩) (Kd.R_far (p := ⟨gb1077, 1, none⟩) (Kd.R_far (p := ⟨gb1077, 0, none⟩) (Kd.R_types HO1062.out BK1077.out (by decide)) (fun _ hk => hk.2) (.int .i64 t1071)) (fun _ hk => hk.2) (.int .i64 t1072)) (fun _ hk => hk.2) (.slice Ao40 t1073.length co40)) (fun _ h_ => h_.1)))); (case side4 => exact (Kd.R_reads' HO1062.out).2.1); rintro e w50 ⟨rfl, hb⟩; refine ⟨_, rfl, ?_⟩; have n0_ := Aside0.mk (Kd.R_below (by (with_reducible repeat (first | apply Kd.R_alloc | apply Kd.R_drewN | apply Kd.R_drew)); exact (Kd.R_mono (Kd.R_far (p := ⟨gb1077, 2, none⟩) (Kd.R_far (p := ⟨gb1077, 1, none⟩) (Kd.R_far (p := ⟨gb1077, 0, none⟩) (Kd.R_types HO1057.out BK1077.out (by decide)) (fun _ hk => hk.2) (.int .i64 t1071)) (fun _ hk => hk.2) (.int .i64 t1072)) (fun _ hk => hk.2) (.slice Ao40 t1073.length co40)) (fun _ h_ => h_.1))) hb); have n1_ := Aside0.mk (Kd.R_below (by (with_reducible repeat (first | apply Kd.R_alloc | apply Kd.R_drewN | apply Kd.R_drew)); exact (Kd.R_mono (Kd.R_far (p := ⟨gb1077, 2, none⟩) (Kd.R_far (p := ⟨gb1077, 1, none⟩) (Kd.R_far (p := ⟨gb1077, 0, none⟩) (Kd.R_types HO1062.out BK1077.out (by decide)) (fun _ hk => hk.2) (.int .i64 t1071)) (fun _ hk => hk.2) (.int .i64 t1072)) (fun _ hk => hk.2) (.slice Ao40 t1073.length co40)) (fun _ h_ => h_.1))) hb); have n2_ := Aside0.mk (Kd.R_below (by (with_reducible repeat (first | apply Kd.R_alloc | apply Kd.R_drewN | apply Kd.R_drew)); exact (Kd.R_mono (Kd.R_far (p := ⟨gb1077, 2, none⟩) (Kd.R_far (p := ⟨gb1077, 1, none⟩) (Kd.R_far (p := ⟨gb1077, 0, none⟩) (Kd.R_types HO1069.out BK1077.out (by decide)) (fun _ hk => hk.2) (.int .i64 t1071)) (fun _ hk => hk.2) (.int .i64 t1072)) (fun _ hk => hk.2) (.slice Ao40 t1073.length co40)) (fun _ h_ => h_.1))) hb); have n3_ := Aside0.mk (Kd.R_below (by (with_reducible repeat (first | apply Kd.R_alloc | apply Kd.R_drewN | apply Kd.R_drew)); exact (Kd.R_mono (Kd.R_far (p := ⟨gb1077, 2, none⟩) (Kd.R_far (p := ⟨gb1077, 1, none⟩) (Kd.R_far (p := ⟨gb1077, 0, none⟩) (Kd.R_types HO1075.out BK1077.out (by decide)) (fun _ hk => hk.2) (.int .i64 t1071)) (fun _ hk => hk.2) (.int .i64 t1072)) (fun _ hk => hk.2) (.slice Ao40 t1073.length co40)) (fun _ h_ => h_.1))) hb); have n4_ := Aside0.mk (blk_below (g := gb1051) (o := .cells #[.int .i64 a0_0, .int .i64 a0_1, .slice A0_2 l0_2.length c0_2] 34 (0, 0)) (by (with_reducible repeat (first | refine blk_drewN ?_ _ | refine blk_drew ?_ | refine blk_alloc ?_ _)); refine blk_far ?_ NB1051_1077.out _; (with_reducible repeat (first | refine blk_drewN ?_ _ | refine blk_drew ?_ | refine blk_alloc ?_ _)); refine blk_far ?_ NB1051_1077.out _; (with_reducible repeat (first | refine blk_drewN ?_ _ | refine blk_drew ?_ | refine blk_alloc ?_ _)); refine blk_far ?_ NB1051_1077.out _; (with_reducible repeat (first | refine blk_drewN ?_ _ | refine blk_drew ?_ | refine blk_alloc ?_ _)); exact BK1051.out) hb); have n5_ := Aside0.mk (blk_below (g := gb1064) (o := .cells #[.int .i64 t1058, .int .i64 t1059, .slice Ao26 t1060.length co26] 37 (0, 0)) (by (with_reducible repeat (first | refine blk_drewN ?_ _ | refine blk_drew ?_ | refine blk_alloc ?_ _)); refine blk_far ?_ NB1064_1077.out _; (with_reducible repeat (first | refine blk_drewN ?_ _ | refine blk_drew ?_ | refine blk_alloc ?_ _)); refine blk_far ?_ NB1064_1077.out _; (with_reducible repeat (first | refine blk_drewN ?_ _ | refine blk_drew ?_ | refine blk_alloc ?_ _)); refine blk_far ?_ NB1064_1077.out _; (with_reducible repeat (first | refine blk_drewN ?_ _ | refine blk_drew ?_ | refine blk_alloc ?_ _)); exact BK1064.out) hb); have n6_ := Aside0.mk (blk_below (g := gb1070) (o := .cells #[.int .i64 t1065, .int .i64 t1066, .slice Ao33 t1067.length co33] 37 (0, 0)) (by (with_reducible repeat (first | refine blk_drewN ?_ _ | refine blk_drew ?_ | refine blk_alloc ?_ _)); refine blk_far ?_ NB1070_1077.out _; (with_reducible repeat (first | refine blk_drewN ?_ _ | refine blk_drew ?_ | refine blk_alloc ?_ _)); refine blk_far ?_ NB1070_1077.out _; (with_reducible repeat (first | refine blk_drewN ?_ _ | refine blk_drew ?_ | refine blk_alloc ?_ _)); refine blk_far ?_ NB1070_1077.out _; (with_reducible repeat (first | refine blk_drewN ?_ _ | refine blk_drew ?_ | refine blk_alloc ?_ _)); exact BK1070.out) hb); have n7_ := Aside0.mk (blk_below (g := gb1077) (o := .cells #[.int .i64 t1071, .int .i64 t1072, .slice Ao40 t1073.length co40] 37 (0, 0)) (by (with_reducible repeat (first | refine blk_drewN ?_ _ | refine blk_drew ?_ | refine blk_alloc ?_ _)); refine blk_put (cs := #[.int .i64 t1071, .int .i64 t1072, .slice none 0 0]) ?_ 2 _ rfl; (with_reducible repeat (first | refine blk_drewN ?_ _ | refine blk_drew ?_ | refine blk_alloc ?_ _)); refine blk_put (cs := #[.int .i64 t1071, .int .i64 0, .slice none 0 0]) ?_ 1 _ rfl; (with_reducible repeat (first | refine blk_drewN ?_ _ | refine blk_drew ?_ | refine blk_alloc ?_ _)); refine blk_put (cs := #[.int .i64 0, .int .i64 0, .slice none 0 0]) ?_ 0 _ rfl; (with_reducible repeat (first | refine blk_drewN ?_ _ | refine blk_drew ?_ | refine blk_alloc ?_ _)); exact BK1077.out) hb); have n8_ := Aside0.mk (below_step (by repeat (first | (with_reducible first | exact HB.out | apply below_alloc | apply pw_below_drewN | apply below_drew1 | refine below_set ?_ GE1051.out | refine below_set ?_ GE1064.out | refine below_set ?_ GE1070.out | refine below_set ?_ GE1077.out) | exact HB.out)) hb); clear HO1057; clear HO1062; clear HO1069; clear HO1075; clear BK1051; clear BK1064; clear BK1070; clear BK1077; clear HB; have HO1057 := n0_; have HO1062 := n1_; have HO1069 := n2_; have HO1075 := n3_; have BK1051 := n4_; have BK1064 := n5_; have BK1070 := n6_; have BK1077 := n7_; have HB := n8_; clear n0_ n1_ n2_ n3_ n4_ n5_ n6_ n7_ n8_; (try clear hb); (try clear hb2); (try clear hk); (try clear hi)))
        go_meet
        case rel => exact ⟨_, ((t1076 != t1063)), (by first | rfl | (simp; done) | (simp [*]; done)), H', ⟨by first | omega | exact Nat.le_refl _⟩, ⟨by (with_reducible repeat (first | apply Kd.R_alloc | apply Kd.R_drewN | apply Kd.R_drew)); exact Kd.R_mono HO1062.out (fun _ hk => ⟨hk.1.2, hk.2⟩)⟩, ⟨by (with_reducible repeat (first | apply Kd.R_alloc | apply Kd.R_drewN | apply Kd.R_drew)); exact Kd.R_mono HO1069.out (fun _ hk => ⟨hk.1.2, hk.2⟩)⟩, ⟨by (with_reducible repeat (first | apply Kd.R_alloc | apply Kd.R_drewN | apply Kd.R_drew)); exact Kd.R_mono HO1075.out (fun _ hk => ⟨hk.1.2, hk.2⟩)⟩, ⟨by (with_reducible repeat (first | refine blk_drewN ?_ _ | refine blk_drew ?_ | refine blk_alloc ?_ _)); exact BK1051.out⟩, ⟨by (with_reducible repeat (first | refine blk_drewN ?_ _ | refine blk_drew ?_ | refine blk_alloc ?_ _)); exact BK1064.out⟩, ⟨by (with_reducible repeat (first | refine blk_drewN ?_ _ | refine blk_drew ?_ | refine blk_alloc ?_ _)); exact BK1070.out⟩, ⟨by (with_reducible repeat (first | refine blk_drewN ?_ _ | refine blk_drew ?_ | refine blk_alloc ?_ _)); exact BK1077.out⟩, ⟨by repeat (first | (with_reducible first | exact HB.out | apply below_alloc | apply pw_below_drewN | apply below_drew1 | refine below_set ?_ GE1051.out | refine below_set ?_ GE1064.out | refine below_set ?_ GE1070.out | refine below_set ?_ GE1077.out) | exact HB.out)⟩⟩
      · replace c42 := Bool.eq_false_iff.mpr c42
        subst c42
        have H1 : (laws_FnExactCropPicture.j0 k a1 a2 a3 a4 t1063 t1076 true a0_0 a0_1 l0_2 t1058 t1059 t1060 t1065 t1066 t1067 t1071 t1072 t1073) = some r := by rw [if_neg (show ¬ (false = true) by decide)] at H; exact H
        clear H
        have H := H1
        clear H1
        have H' := Aside0.mk H
        clear H
        have hnb51 := NB1077_1051.out
        have hnc51 := NB1051_1077.out
        have hnb52 := NB1077_1064.out
        have hnc52 := NB1064_1077.out
        have hnb53 := NB1077_1070.out
        have hnc53 := NB1070_1077.out
        have hcz54_0 : w35.cell? ⟨gb1077, 0, none⟩ = some (.int .i64 0) := (blk_cell BK1077.out 0).trans rfl
        have hcz54_1 : w35.cell? ⟨gb1077, 1, none⟩ = some (.int .i64 0) := (blk_cell BK1077.out 1).trans rfl
        have hcz54_2 : w35.cell? ⟨gb1077, 2, none⟩ = some (.slice none 0 0) := (blk_cell BK1077.out 2).trans rfl
        have hfz54_0 := blk_frozen BK1077.out 0
        have hfz54_1 := blk_frozen BK1077.out 1
        have hfz54_2 := blk_frozen BK1077.out 2
        have hnb55 := NB1064_1051.out
        have hnc55 := NB1051_1064.out
        have hnb56 := NB1064_1070.out
        have hnc56 := NB1070_1064.out
        have hcz57_0 : w35.cell? ⟨gb1064, 0, none⟩ = some (.int .i64 t1058) := (blk_cell BK1064.out 0).trans rfl
        have hcz57_1 : w35.cell? ⟨gb1064, 1, none⟩ = some (.int .i64 t1059) := (blk_cell BK1064.out 1).trans rfl
        have hcz57_2 : w35.cell? ⟨gb1064, 2, none⟩ = some (.slice Ao26 t1060.length co26) := (blk_cell BK1064.out 2).trans rfl
        have hfz57_0 := blk_frozen BK1064.out 0
        have hfz57_1 := blk_frozen BK1064.out 1
        have hfz57_2 := blk_frozen BK1064.out 2
        go_wp2_with (first | ((with_reducible refine gate_callee (f := 50) rfl ?_); refine goesL_ (some 50) rfl rfl Try.func50 (by kernel_rfl) rfl #[.agg #[.int .i64 t1071, .int .i64 t1072, .slice Ao40 t1073.length co40], .agg #[.int .i64 t1058, .int .i64 t1059, .slice Ao26 t1060.length co26]] rfl (by (try simp only [List.map_toArray, List.map_cons, List.map_nil]); first | done | rfl | (simp only [List.length_drop, List.length_take]; rfl)) ?_; (with_reducible refine (laws_eqPicture.calls k t1071 t1072 _ _ t1073 t1058 t1059 _ _ t1060 false _ ?side1 ?side2 ?side3 ?side4 A41.out).mono ?_); (case side1 => refine (Kd.R_reads' (e := 3) (base := w.heap.size) (ok := fun k_ => (((True ∧ some k_ ≠ (.slice Ao21 t1055.length co21 : Value).ownBlock) ∧ some k_ ≠ (.slice Ao26 t1060.length co26 : Value).ownBlock) ∧ some k_ ≠ (.slice Ao33 t1067.length co33 : Value).ownBlock)) (n := t1073.length) (c := co40) ?_).2.2; exact (by (with_reducible repeat (first | apply Kd.R_alloc | apply Kd.R_drewN | apply Kd.R_drew)); exact (Kd.R_mono (Kd.R_far (p := ⟨gb1077, 2, none⟩) (Kd.R_far (p := ⟨gb1077, 1, none⟩) (Kd.R_far (p := ⟨gb1077, 0, none⟩) (Kd.R_types HO1075.out BK1077.out (by decide)) (fun _ hk => hk.2) (.int .i64 t1071)) (fun _ hk => hk.2) (.int .i64 t1072)) (fun _ hk => hk.2) (.slice Ao40 t1073.length co40)) (fun _ h_ => h_.1)))); (case side2 => exact (Kd.R_reads' HO1075.out).2.1); (case side3 => refine (Kd.R_reads' (e := 3) (base := w.heap.size) (ok := fun k_ => (((True ∧ some k_ ≠ (.slice Ao21 t1055.length co21 : Value).ownBlock) ∧ some k_ ≠ (.slice Ao33 t1067.length co33 : Value).ownBlock) ∧ some k_ ≠ (.slice Ao40 t1073.length co40 : Value).ownBlock)) (n := t1060.length) (c := co26) ?_).2.2; exact (by (with_reducible repeat (first | apply Kd.R_alloc | apply Kd.R_drewN | apply Kd.R_drew)); exact (Kd.R_mono (Kd.R_far (p := ⟨gb1077, 2, none⟩) (Kd.R_far (p := ⟨gb1077, 1, none⟩) (Kd.R_far (p := ⟨gb1077, 0, none⟩) (Kd.R_types HO1062.out BK1077.out (by decide)) (fun _ hk => hk.2) (.int .i64 t1071)) (fun _ hk => hk.2) (.int .i64 t1072)) (fun _ hk => hk.2) (.slice Ao40 t1073.length co40)) (fun _ h_ => h_.1)))); (case side4 => exact (Kd.R_reads' HO1062.out).2.1); rintro e w58 ⟨rfl, hb⟩; refine ⟨_, rfl, ?_⟩; have n0_ := Aside0.mk (Kd.R_below (by (with_reducible repeat (first | apply Kd.R_alloc | apply Kd.R_drewN | apply Kd.R_drew)); exact (Kd.R_mono (Kd.R_far (p := ⟨gb1077, 2, none⟩) (Kd.R_far (p := ⟨gb1077, 1, none⟩) (Kd.R_far (p := ⟨gb1077, 0, none⟩) (Kd.R_types HO1057.out BK1077.out (by decide)) (fun _ hk => hk.2) (.int .i64 t1071)) (fun _ hk => hk.2) (.int .i64 t1072)) (fun _ hk => hk.2) (.slice Ao40 t1073.length co40)) (fun _ h_ => h_.1))) hb); have n1_ := Aside0.mk (Kd.R_below (by (with_reducible repeat (first | apply Kd.R_alloc | apply Kd.R_drewN | apply Kd.R_drew)); exact (Kd.R_mono (Kd.R_far (p := ⟨gb1077, 2, none⟩) (Kd.R_far (p := ⟨gb1077, 1, none⟩) (Kd.R_far (p := ⟨gb1077, 0, none⟩) (Kd.R_types HO1062.out BK1077.out (by decide)) (fun _ hk => hk.2) (.int .i64 t1071)) (fun _ hk => hk.2) (.int .i64 t1072)) (fun _ hk => hk.2) (.slice Ao40 t1073.length co40)) (fun _ h_ => h_.1))) hb); have n2_ := Aside0.mk (Kd.R_below (by (with_reducible repeat (first | apply Kd.R_alloc | apply Kd.R_drewN | apply Kd.R_drew)); exact (Kd.R_mono (Kd.R_far (p := ⟨gb1077, 2, none⟩) (Kd.R_far (p := ⟨gb1077, 1, none⟩) (Kd.R_far (p := ⟨gb1077, 0, none⟩) (Kd.R_types HO1069.out BK1077.out (by decide)) (fun _ hk => hk.2) (.int .i64 t1071)) (fun _ hk => hk.2) (.int .i64 t1072)) (fun _ hk => hk.2) (.slice Ao40 t1073.length co40)) (fun _ h_ => h_.1))) hb); have n3_ := Aside0.mk (Kd.R_below (by (with_reducible repeat (first | apply Kd.R_alloc | apply Kd.R_drewN | apply Kd.R_drew)); exact (Kd.R_mono (Kd.R_far (p := ⟨gb1077, 2, none⟩) (Kd.R_far (p := ⟨gb1077, 1, none⟩) (Kd.R_far (p := ⟨gb1077, 0, none⟩) (Kd.R_types HO1075.out BK1077.out (by decide)) (fun _ hk => hk.2) (.int .i64 t1071)) (fun _ hk => hk.2) (.int .i64 t1072)) (fun _ hk => hk.2) (.slice Ao40 t1073.length co40)) (fun _ h_ => h_.1))) hb); have n4_ := Aside0.mk (blk_below (g := gb1051) (o := .cells #[.int .i64 a0_0, .int .i64 a0_1, .slice A0_2 l0_2.length c0_2] 34 (0, 0)) (by (with_reducible repeat (first | refine blk_drewN ?_ _ | refine blk_drew ?_ | refine blk_alloc ?_ _)); refine blk_far ?_ NB1051_1077.out _; (with_reducible repeat (first | refine blk_drewN ?_ _ | refine blk_drew ?_ | refine blk_alloc ?_ _)); refine blk_far ?_ NB1051_1077.out _; (with_reducible repeat (first | refine blk_drewN ?_ _ | refine blk_drew ?_ | refine blk_alloc ?_ _)); refine blk_far ?_ NB1051_1077.out _; (with_reducible repeat (first | refine blk_drewN ?_ _ | refine blk_drew ?_ | refine blk_alloc ?_ _)); exact BK1051.out) hb); have n5_ := Aside0.mk (blk_below (g := gb1064) (o := .cells #[.int .i64 t1058, .int .i64 t1059, .slice Ao26 t1060.length co26] 37 (0, 0)) (by (with_reducible repeat (first | refine blk_drewN ?_ _ | refine blk_drew ?_ | refine blk_alloc ?_ _)); refine blk_far ?_ NB1064_1077.out _; (with_reducible repeat (first | refine blk_drewN ?_ _ | refine blk_drew ?_ | refine blk_alloc ?_ _)); refine blk_far ?_ NB1064_1077.out _; (with_reducible repeat (first | refine blk_drewN ?_ _ | refine blk_drew ?_ | refine blk_alloc ?_ _)); refine blk_far ?_ NB1064_1077.out _; (with_reducible repeat (first | refine blk_drewN ?_ _ | refine blk_drew ?_ | refine blk_alloc ?_ _)); exact BK1064.out) hb); have n6_ := Aside0.mk (blk_below (g := gb1070) (o := .cells #[.int .i64 t1065, .int .i64 t1066, .slice Ao33 t1067.length co33] 37 (0, 0)) (by (with_reducible repeat (first | refine blk_drewN ?_ _ | refine blk_drew ?_ | refine blk_alloc ?_ _)); refine blk_far ?_ NB1070_1077.out _; (with_reducible repeat (first | refine blk_drewN ?_ _ | refine blk_drew ?_ | refine blk_alloc ?_ _)); refine blk_far ?_ NB1070_1077.out _; (with_reducible repeat (first | refine blk_drewN ?_ _ | refine blk_drew ?_ | refine blk_alloc ?_ _)); refine blk_far ?_ NB1070_1077.out _; (with_reducible repeat (first | refine blk_drewN ?_ _ | refine blk_drew ?_ | refine blk_alloc ?_ _)); exact BK1070.out) hb); have n7_ := Aside0.mk (blk_below (g := gb1077) (o := .cells #[.int .i64 t1071, .int .i64 t1072, .slice Ao40 t1073.length co40] 37 (0, 0)) (by (with_reducible repeat (first | refine blk_drewN ?_ _ | refine blk_drew ?_ | refine blk_alloc ?_ _)); refine blk_put (cs := #[.int .i64 t1071, .int .i64 t1072, .slice none 0 0]) ?_ 2 _ rfl; (with_reducible repeat (first | refine blk_drewN ?_ _ | refine blk_drew ?_ | refine blk_alloc ?_ _)); refine blk_put (cs := #[.int .i64 t1071, .int .i64 0, .slice none 0 0]) ?_ 1 _ rfl; (with_reducible repeat (first | refine blk_drewN ?_ _ | refine blk_drew ?_ | refine blk_alloc ?_ _)); refine blk_put (cs := #[.int .i64 0, .int .i64 0, .slice none 0 0]) ?_ 0 _ rfl; (with_reducible repeat (first | refine blk_drewN ?_ _ | refine blk_drew ?_ | refine blk_alloc ?_ _)); exact BK1077.out) hb); have n8_ := Aside0.mk (below_step (by repeat (first | (with_reducible first | exact HB.out | apply below_alloc | apply pw_below_drewN | apply below_drew1 | refine below_set ?_ GE1051.out | refine below_set ?_ GE1064.out | refine below_set ?_ GE1070.out | refine below_set ?_ GE1077.out) | exact HB.out)) hb); clear HO1057; clear HO1062; clear HO1069; clear HO1075; clear BK1051; clear BK1064; clear BK1070; clear BK1077; clear HB; have HO1057 := n0_; have HO1062 := n1_; have HO1069 := n2_; have HO1075 := n3_; have BK1051 := n4_; have BK1064 := n5_; have BK1070 := n6_; have BK1077 := n7_; have HB := n8_; clear n0_ n1_ n2_ n3_ n4_ n5_ n6_ n7_ n8_; (try clear hb); (try clear hb2); (try clear hk); (try clear hi)))
        go_meet
        case rel => exact ⟨_, (true), (by first | rfl | (simp; done) | (simp [*]; done)), H', ⟨by first | omega | exact Nat.le_refl _⟩, ⟨by (with_reducible repeat (first | apply Kd.R_alloc | apply Kd.R_drewN | apply Kd.R_drew)); exact Kd.R_mono HO1062.out (fun _ hk => ⟨hk.1.2, hk.2⟩)⟩, ⟨by (with_reducible repeat (first | apply Kd.R_alloc | apply Kd.R_drewN | apply Kd.R_drew)); exact Kd.R_mono HO1069.out (fun _ hk => ⟨hk.1.2, hk.2⟩)⟩, ⟨by (with_reducible repeat (first | apply Kd.R_alloc | apply Kd.R_drewN | apply Kd.R_drew)); exact Kd.R_mono HO1075.out (fun _ hk => ⟨hk.1.2, hk.2⟩)⟩, ⟨by (with_reducible repeat (first | refine blk_drewN ?_ _ | refine blk_drew ?_ | refine blk_alloc ?_ _)); exact BK1051.out⟩, ⟨by (with_reducible repeat (first | refine blk_drewN ?_ _ | refine blk_drew ?_ | refine blk_alloc ?_ _)); exact BK1064.out⟩, ⟨by (with_reducible repeat (first | refine blk_drewN ?_ _ | refine blk_drew ?_ | refine blk_alloc ?_ _)); exact BK1070.out⟩, ⟨by (with_reducible repeat (first | refine blk_drewN ?_ _ | refine blk_drew ?_ | refine blk_alloc ?_ _)); exact BK1077.out⟩, ⟨by repeat (first | (with_reducible first | exact HB.out | apply below_alloc | apply pw_below_drewN | apply below_drew1 | refine below_set ?_ GE1051.out | refine below_set ?_ GE1064.out | refine below_set ?_ GE1070.out | refine below_set ?_ GE1077.out) | exact HB.out)⟩⟩
    case rest =>
      clear HC15
      try clear c2
      try clear p2
      try clear c3
      try clear c4
      try clear c5
      try clear c7
      try clear c7b0
      try clear c8
      try clear c24
      try clear c30
      try clear c31
      try clear c36
      try clear c37
      try clear c38
      try clear c42
      try clear c43
      try clear c44
      try clear c45
      try clear c46
      try clear c47
      try clear c48
      try clear c50
      try clear c51
      try clear c52
      try clear c53
      try clear c55
      try clear c56
      try clear hcz17_0
      try clear hcz17_1
      try clear hcz17_2
      try clear hcz19_0
      try clear hcz19_1
      try clear hcz19_2
      try clear hcz25_0
      try clear hcz25_1
      try clear hcz25_2
      try clear hcz27_0
      try clear hcz27_1
      try clear hcz27_2
      try clear hcz32_0
      try clear hcz32_1
      try clear hcz32_2
      try clear hcz39_0
      try clear hcz39_1
      try clear hcz39_2
      try clear hcz46_0
      try clear hcz46_1
      try clear hcz46_2
      try clear hcz49_0
      try clear hcz49_1
      try clear hcz49_2
      try clear hcz54_0
      try clear hcz54_1
      try clear hcz54_2
      try clear hcz57_0
      try clear hcz57_1
      try clear hcz57_2
      try clear hcz9_0
      try clear hcz9_1
      try clear hcz9_2
      try clear hfz17_0
      try clear hfz17_1
      try clear hfz17_2
      try clear hfz19_0
      try clear hfz19_1
      try clear hfz19_2
      try clear hfz25_0
      try clear hfz25_1
      try clear hfz25_2
      try clear hfz27_0
      try clear hfz27_1
      try clear hfz27_2
      try clear hfz32_0
      try clear hfz32_1
      try clear hfz32_2
      try clear hfz39_0
      try clear hfz39_1
      try clear hfz39_2
      try clear hfz46_0
      try clear hfz46_1
      try clear hfz46_2
      try clear hfz49_0
      try clear hfz49_1
      try clear hfz49_2
      try clear hfz54_0
      try clear hfz54_1
      try clear hfz54_2
      try clear hfz57_0
      try clear hfz57_1
      try clear hfz57_2
      try clear hfz9_0
      try clear hfz9_1
      try clear hfz9_2
      obtain ⟨kq, x56_14, rfl, HA, HJ14, HO_1065002, HO_1071002, HO_1078002, BK1051, BK1064, BK1070, BK1077, HB⟩ := hcut
      cases kq with
      | zero => exact absurd HA.out (by simp [laws_FnExactCropPicture.j0])
      | succ kj14 =>
        have H := HA.out
        clear HA
        simp only [laws_FnExactCropPicture.j0] at H
        by_cases c59 : x56_14 = true
        · subst c59
          have H1 : (some false) = some r := by rw [if_pos rfl] at H; exact H
          clear H
          have H := H1
          clear H1
          exact absurd ((Option.some.inj H).trans hT.out) (by decide)
        · replace c59 := Bool.eq_false_iff.mpr c59
          subst c59
          have H1 : ((laws_toPicture.f kj14 a0_0 a0_1 l0_2).bind fun bt1079 => ((laws_eqPicture.f kj14 t1065 t1066 t1067 bt1079.1 bt1079.2.1 bt1079.2.2).bind fun t1084 => (if t1084 = true then ((laws_markPicture.f kj14 t1065 t1066 t1067 1).bind fun bt1085 => (if bt1085.1 < 0 then (laws_FnExactCropPicture.j1 kj14 a1 a2 a3 a4 t1063 true a0_0 a0_1 l0_2 t1058 t1059 t1060 t1071 t1072 t1073) else ((laws_eqPicture.f kj14 t1071 t1072 t1073 t1058 t1059 t1060).bind fun t1087 => (if t1087 = true then (laws_FnExactCropPicture.j1 kj14 a1 a2 a3 a4 t1063 (t1076 != t1063) a0_0 a0_1 l0_2 t1058 t1059 t1060 t1071 t1072 t1073) else (laws_FnExactCropPicture.j1 kj14 a1 a2 a3 a4 t1063 true a0_0 a0_1 l0_2 t1058 t1059 t1060 t1071 t1072 t1073))))) else (some false)))) = some r := by rw [if_neg (show ¬ (false = true) by decide)] at H; exact H
          clear H
          have H := H1
          clear H1
          replace H := Option.bind_eq_some_iff.mp H
          obtain ⟨⟨t1079, t1080, t1081⟩, A600, H⟩ := H
          replace H : ((laws_eqPicture.f kj14 t1065 t1066 t1067 t1079 t1080 t1081).bind fun t1084 => (if t1084 = true then ((laws_markPicture.f kj14 t1065 t1066 t1067 1).bind fun bt1085 => (if bt1085.1 < 0 then (laws_FnExactCropPicture.j1 kj14 a1 a2 a3 a4 t1063 true a0_0 a0_1 l0_2 t1058 t1059 t1060 t1071 t1072 t1073) else ((laws_eqPicture.f kj14 t1071 t1072 t1073 t1058 t1059 t1060).bind fun t1087 => (if t1087 = true then (laws_FnExactCropPicture.j1 kj14 a1 a2 a3 a4 t1063 (t1076 != t1063) a0_0 a0_1 l0_2 t1058 t1059 t1060 t1071 t1072 t1073) else (laws_FnExactCropPicture.j1 kj14 a1 a2 a3 a4 t1063 true a0_0 a0_1 l0_2 t1058 t1059 t1060 t1071 t1072 t1073))))) else (some false))) = some r := H
          have A60 := Aside0.mk A600
          clear A600
          replace H := Option.bind_eq_some_iff.mp H
          obtain ⟨t1084, A610, H⟩ := H
          replace H : (if t1084 = true then ((laws_markPicture.f kj14 t1065 t1066 t1067 1).bind fun bt1085 => (if bt1085.1 < 0 then (laws_FnExactCropPicture.j1 kj14 a1 a2 a3 a4 t1063 true a0_0 a0_1 l0_2 t1058 t1059 t1060 t1071 t1072 t1073) else ((laws_eqPicture.f kj14 t1071 t1072 t1073 t1058 t1059 t1060).bind fun t1087 => (if t1087 = true then (laws_FnExactCropPicture.j1 kj14 a1 a2 a3 a4 t1063 (t1076 != t1063) a0_0 a0_1 l0_2 t1058 t1059 t1060 t1071 t1072 t1073) else (laws_FnExactCropPicture.j1 kj14 a1 a2 a3 a4 t1063 true a0_0 a0_1 l0_2 t1058 t1059 t1060 t1071 t1072 t1073))))) else (some false)) = some r := H
          have A61 := Aside0.mk A610
          clear A610
          by_cases c62 : t1084 = true
          · subst c62
            have H1 : ((laws_markPicture.f kj14 t1065 t1066 t1067 1).bind fun bt1085 => (if bt1085.1 < 0 then (laws_FnExactCropPicture.j1 kj14 a1 a2 a3 a4 t1063 true a0_0 a0_1 l0_2 t1058 t1059 t1060 t1071 t1072 t1073) else ((laws_eqPicture.f kj14 t1071 t1072 t1073 t1058 t1059 t1060).bind fun t1087 => (if t1087 = true then (laws_FnExactCropPicture.j1 kj14 a1 a2 a3 a4 t1063 (t1076 != t1063) a0_0 a0_1 l0_2 t1058 t1059 t1060 t1071 t1072 t1073) else (laws_FnExactCropPicture.j1 kj14 a1 a2 a3 a4 t1063 true a0_0 a0_1 l0_2 t1058 t1059 t1060 t1071 t1072 t1073))))) = some r := by rw [if_pos rfl] at H; exact H
            clear H
            have H := H1
            clear H1
            replace H := Option.bind_eq_some_iff.mp H
            obtain ⟨⟨t1085, t1086⟩, A630, H⟩ := H
            replace H : (if t1085 < 0 then (laws_FnExactCropPicture.j1 kj14 a1 a2 a3 a4 t1063 true a0_0 a0_1 l0_2 t1058 t1059 t1060 t1071 t1072 t1073) else ((laws_eqPicture.f kj14 t1071 t1072 t1073 t1058 t1059 t1060).bind fun t1087 => (if t1087 = true then (laws_FnExactCropPicture.j1 kj14 a1 a2 a3 a4 t1063 (t1076 != t1063) a0_0 a0_1 l0_2 t1058 t1059 t1060 t1071 t1072 t1073) else (laws_FnExactCropPicture.j1 kj14 a1 a2 a3 a4 t1063 true a0_0 a0_1 l0_2 t1058 t1059 t1060 t1071 t1072 t1073)))) = some r := H
            have A63 := Aside0.mk A630
            clear A630
            have HC64 := Aside0.mk H
            clear H
            try go_wp2
            have n0_ := Aside0.mk (Kd.R_drew HO_1065002.out)
            have n1_ := Aside0.mk (Kd.R_drew HO_1071002.out)
            have n2_ := Aside0.mk (Kd.R_drew HO_1078002.out)
            have n3_ := Aside0.mk (blk_drew BK1051.out)
            have n4_ := Aside0.mk (blk_drew BK1064.out)
            have n5_ := Aside0.mk (blk_drew BK1070.out)
            have n6_ := Aside0.mk (blk_drew BK1077.out)
            have n7_ := Aside0.mk (below_drew1 HB.out)
            clear HO_1065002
            clear HO_1071002
            clear HO_1078002
            clear BK1051
            clear BK1064
            clear BK1070
            clear BK1077
            clear HB
            have HO_1065002 := n0_
            have HO_1071002 := n1_
            have HO_1078002 := n2_
            have BK1051 := n3_
            have BK1064 := n4_
            have BK1070 := n5_
            have BK1077 := n6_
            have HB := n7_
            clear n0_ n1_ n2_ n3_ n4_ n5_ n6_ n7_
            refine start_ (n := 5) (S := fun w' => w'.cell? ⟨gb1070, 0, none⟩ = some (.int .i64 t1065) ∧ w'.cell? ⟨gb1070, 1, none⟩ = some (.int .i64 t1066) ∧ w'.cell? ⟨gb1070, 2, none⟩ = some (.slice Ao33 t1067.length co33) ∧ w'.cell? ⟨gb1051, 0, none⟩ = some (.int .i64 a0_0) ∧ w'.cell? ⟨gb1051, 1, none⟩ = some (.int .i64 a0_1) ∧ w'.cell? ⟨gb1051, 2, none⟩ = some (.slice A0_2 l0_2.length c0_2)) (ds := []) #[false, false, false, false, false] (by kernel_rfl) rfl rfl ⟨(blk_cell BK1070.out 0).trans rfl, (blk_cell BK1070.out 1).trans rfl, (blk_cell BK1070.out 2).trans rfl, (blk_cell BK1051.out 0).trans rfl, (blk_cell BK1051.out 1).trans rfl, (blk_cell BK1051.out 2).trans rfl⟩ (fun hHeld => ?_)
            generalize wc.drew = w65 at HO_1065002 HO_1071002 HO_1078002 BK1051 BK1064 BK1070 BK1077 HB hHeld ⊢
            refine take_ (i := 0) (N := some 57) (v := ?_) (a' := ?_) #[true, false, false, false, false] rfl rfl (by kernel_rfl) (fun _ _ _ h => h) (Or.inl ⟨by rfl, ?_⟩) hHeld ?_ ?_
            rotate_left
            · rintro w' ⟨s0, s1, s2, s3, s4, s5⟩
              go_simp
              with_reducible rfl
            rotate_left
            · simp only [Act.put, List.setIfInBounds_toArray, List.set_cons_zero, List.set_cons_succ, i64_w, i32_w]
              rfl
            refine take_ (i := 1) (N := some 58) (v := ?_) (a' := ?_) #[true, true, false, false, false] rfl rfl (by kernel_rfl) (fun _ _ _ h => h) (Or.inl ⟨by rfl, ?_⟩) hHeld ?_ ?_
            rotate_left
            · rintro w' ⟨s0, s1, s2, s3, s4, s5⟩
              go_simp
              with_reducible rfl
            rotate_left
            · simp only [Act.put, List.setIfInBounds_toArray, List.set_cons_zero, List.set_cons_succ, i64_w, i32_w]
              rfl
            refine one_ (i := 2) (N := some 59) #[true, true, true, false, false] rfl rfl (by kernel_rfl) (by decide) (fun K hK => ?_)
            refine goes_ Try.func48 (by kernel_rfl) rfl #[.agg #[.int .i64 a0_0, .int .i64 a0_1, .slice A0_2 l0_2.length c0_2]] (by rfl) rfl rfl (by (try simp only [List.map_toArray, List.map_cons, List.map_nil]); first | done | rfl | (simp only [List.length_drop, List.length_take]; rfl)) ?_
            with_reducible refine (laws_toPicture.calls kj14 a0_0 a0_1 _ _ l0_2 t1079 t1080 t1081 _ ?side1 ?side2 A60.out).mono ?_
            (case side1 => repeat (first | exact (Kd.C_below HR0_2.out HB.out) | (with_reducible refine Kd.C_alloc ?_ _) | (with_reducible refine Kd.C_drewN ?_ _) | (with_reducible refine Kd.C_drew ?_)))
            (case side2 => exact HC0_2.out)
            rintro e w66 ⟨v1082, rfl, ho0, hb⟩
            refine ⟨_, rfl, ?_⟩
            have n0_ := Aside0.mk (Kd.R_elder' (by (with_reducible repeat (first | apply Kd.R_alloc | apply Kd.R_drewN | apply Kd.R_drew)); exact HO_1065002.out) (Kd.R_base ho0) hb)
            have n1_ := Aside0.mk (Kd.R_elder' (by (with_reducible repeat (first | apply Kd.R_alloc | apply Kd.R_drewN | apply Kd.R_drew)); exact HO_1071002.out) (Kd.R_base ho0) hb)
            have n2_ := Aside0.mk (Kd.R_elder' (by (with_reducible repeat (first | apply Kd.R_alloc | apply Kd.R_drewN | apply Kd.R_drew)); exact HO_1078002.out) (Kd.R_base ho0) hb)
            have n3_ := Aside0.mk (Kd.R_lower (Kd.R_new' (Kd.R_new' (Kd.R_new' ho0 (Kd.R_lt (by (with_reducible repeat (first | apply Kd.R_alloc | apply Kd.R_drewN | apply Kd.R_drew)); exact HO_1065002.out))) (Kd.R_lt (by (with_reducible repeat (first | apply Kd.R_alloc | apply Kd.R_drewN | apply Kd.R_drew)); exact HO_1071002.out))) (Kd.R_lt (by (with_reducible repeat (first | apply Kd.R_alloc | apply Kd.R_drewN | apply Kd.R_drew)); exact HO_1078002.out))) (below_size (by repeat (first | (with_reducible first | exact HB.out | apply below_alloc | apply pw_below_drewN | apply below_drew1 | refine below_set ?_ GE1051.out | refine below_set ?_ GE1064.out | refine below_set ?_ GE1070.out | refine below_set ?_ GE1077.out) | exact HB.out))))
            have n4_ := Aside0.mk (blk_below (g := gb1051) (o := .cells #[.int .i64 a0_0, .int .i64 a0_1, .slice A0_2 l0_2.length c0_2] 34 (0, 0)) (by (with_reducible repeat (first | refine blk_drewN ?_ _ | refine blk_drew ?_ | refine blk_alloc ?_ _)); exact BK1051.out) hb)
            have n5_ := Aside0.mk (blk_below (g := gb1064) (o := .cells #[.int .i64 t1058, .int .i64 t1059, .slice Ao26 t1060.length co26] 37 (0, 0)) (by (with_reducible repeat (first | refine blk_drewN ?_ _ | refine blk_drew ?_ | refine blk_alloc ?_ _)); exact BK1064.out) hb)
            have n6_ := Aside0.mk (blk_below (g := gb1070) (o := .cells #[.int .i64 t1065, .int .i64 t1066, .slice Ao33 t1067.length co33] 37 (0, 0)) (by (with_reducible repeat (first | refine blk_drewN ?_ _ | refine blk_drew ?_ | refine blk_alloc ?_ _)); exact BK1070.out) hb)
            have n7_ := Aside0.mk (blk_below (g := gb1077) (o := .cells #[.int .i64 t1071, .int .i64 t1072, .slice Ao40 t1073.length co40] 37 (0, 0)) (by (with_reducible repeat (first | refine blk_drewN ?_ _ | refine blk_drew ?_ | refine blk_alloc ?_ _)); exact BK1077.out) hb)
            have n8_ := Aside0.mk (below_step (by repeat (first | (with_reducible first | exact HB.out | apply below_alloc | apply pw_below_drewN | apply below_drew1 | refine below_set ?_ GE1051.out | refine below_set ?_ GE1064.out | refine below_set ?_ GE1070.out | refine below_set ?_ GE1077.out) | exact HB.out)) hb)
            clear HO_1065002
            clear HO_1071002
            clear HO_1078002
            clear BK1051
            clear BK1064
            clear BK1070
            clear BK1077
            clear HB
            have HO_1065002 := n0_
            have HO_1071002 := n1_
            have HO_1078002 := n2_
            have HO1083 := n3_
            have BK1051 := n4_
            have BK1064 := n5_
            have BK1070 := n6_
            have BK1077 := n7_
            have HB := n8_
            clear n0_ n1_ n2_ n3_ n4_ n5_ n6_ n7_ n8_
            (try clear hb)
            (try clear hb2)
            (try clear hk)
            (try clear hi)
            (try clear ho0)
            obtain ⟨Ao67, co67, eo67⟩ := Kd.R_slice HO1083.out
            (first | subst eo67 | (injection eo67 with f1_ f2_ f3_; have f4_ := f1_.symm; have f5_ := f3_.symm; clear f1_ f2_ f3_; subst f4_; subst f5_))
            refine hK.out _ _ ⟨(blk_cell BK1070.out 0).trans rfl, (blk_cell BK1070.out 1).trans rfl, (blk_cell BK1070.out 2).trans rfl, (blk_cell BK1051.out 0).trans rfl, (blk_cell BK1051.out 1).trans rfl, (blk_cell BK1051.out 2).trans rfl⟩ (fun hHeld => ?_)
            clear hK K
            refine norm_ (a' := ?_) ?_ ?_
            rotate_left
            · show Act.put _ (some 59) _ = _
              simp only [Act.put, List.setIfInBounds_toArray, List.set_cons_zero, List.set_cons_succ, i64_w, i32_w]
              rfl
            refine one_ (i := 3) (N := some 60) #[true, true, true, true, false] rfl rfl (by kernel_rfl) (by decide) (fun K hK => ?_)
            refine goes_ Try.func50 (by kernel_rfl) rfl #[.agg #[.int .i64 t1065, .int .i64 t1066, .slice Ao33 t1067.length co33], .agg #[.int .i64 t1079, .int .i64 t1080, .slice Ao67 t1081.length co67]] (by rfl) rfl rfl (by (try simp only [List.map_toArray, List.map_cons, List.map_nil]); first | done | rfl | (simp only [List.length_drop, List.length_take]; rfl)) ?_
            with_reducible refine (laws_eqPicture.calls kj14 t1065 t1066 _ _ t1067 t1079 t1080 _ _ t1081 true _ ?side1 ?side2 ?side3 ?side4 A61.out).mono ?_
            (case side1 => repeat (first | exact (Kd.R_reads' HO_1071002.out).2.2 | (with_reducible refine Kd.C_alloc ?_ _) | (with_reducible refine Kd.C_drewN ?_ _) | (with_reducible refine Kd.C_drew ?_)))
            (case side2 => exact (Kd.R_reads' HO_1071002.out).2.1)
            (case side3 => repeat (first | exact (Kd.R_reads' HO1083.out).2.2 | (with_reducible refine Kd.C_alloc ?_ _) | (with_reducible refine Kd.C_drewN ?_ _) | (with_reducible refine Kd.C_drew ?_)))
            (case side4 => exact (Kd.R_reads' HO1083.out).2.1)
            rintro e w68 ⟨rfl, hb⟩
            refine ⟨_, rfl, ?_⟩
            have n0_ := Aside0.mk (Kd.R_below (by (with_reducible repeat (first | apply Kd.R_alloc | apply Kd.R_drewN | apply Kd.R_drew)); exact HO_1065002.out) hb)
            have n1_ := Aside0.mk (Kd.R_below (by (with_reducible repeat (first | apply Kd.R_alloc | apply Kd.R_drewN | apply Kd.R_drew)); exact HO_1071002.out) hb)
            have n2_ := Aside0.mk (Kd.R_below (by (with_reducible repeat (first | apply Kd.R_alloc | apply Kd.R_drewN | apply Kd.R_drew)); exact HO_1078002.out) hb)
            have n3_ := Aside0.mk (Kd.R_below (by (with_reducible repeat (first | apply Kd.R_alloc | apply Kd.R_drewN | apply Kd.R_drew)); exact HO1083.out) hb)
            have n4_ := Aside0.mk (blk_below (g := gb1051) (o := .cells #[.int .i64 a0_0, .int .i64 a0_1, .slice A0_2 l0_2.length c0_2] 34 (0, 0)) (by (with_reducible repeat (first | refine blk_drewN ?_ _ | refine blk_drew ?_ | refine blk_alloc ?_ _)); exact BK1051.out) hb)
            have n5_ := Aside0.mk (blk_below (g := gb1064) (o := .cells #[.int .i64 t1058, .int .i64 t1059, .slice Ao26 t1060.length co26] 37 (0, 0)) (by (with_reducible repeat (first | refine blk_drewN ?_ _ | refine blk_drew ?_ | refine blk_alloc ?_ _)); exact BK1064.out) hb)
            have n6_ := Aside0.mk (blk_below (g := gb1070) (o := .cells #[.int .i64 t1065, .int .i64 t1066, .slice Ao33 t1067.length co33] 37 (0, 0)) (by (with_reducible repeat (first | refine blk_drewN ?_ _ | refine blk_drew ?_ | refine blk_alloc ?_ _)); exact BK1070.out) hb)
            have n7_ := Aside0.mk (blk_below (g := gb1077) (o := .cells #[.int .i64 t1071, .int .i64 t1072, .slice Ao40 t1073.length co40] 37 (0, 0)) (by (with_reducible repeat (first | refine blk_drewN ?_ _ | refine blk_drew ?_ | refine blk_alloc ?_ _)); exact BK1077.out) hb)
            have n8_ := Aside0.mk (below_step (by repeat (first | (with_reducible first | exact HB.out | apply below_alloc | apply pw_below_drewN | apply below_drew1 | refine below_set ?_ GE1051.out | refine below_set ?_ GE1064.out | refine below_set ?_ GE1070.out | refine below_set ?_ GE1077.out) | exact HB.out)) hb)
            clear HO_1065002
            clear HO_1071002
            clear HO_1078002
            clear HO1083
            clear BK1051
            clear BK1064
            clear BK1070
            clear BK1077
            clear HB
            have HO_1065002 := n0_
            have HO_1071002 := n1_
            have HO_1078002 := n2_
            have HO1083 := n3_
            have BK1051 := n4_
            have BK1064 := n5_
            have BK1070 := n6_
            have BK1077 := n7_
            have HB := n8_
            clear n0_ n1_ n2_ n3_ n4_ n5_ n6_ n7_ n8_
            (try clear hb)
            (try clear hb2)
            (try clear hk)
            (try clear hi)
            refine hK.out _ _ ⟨(blk_cell BK1070.out 0).trans rfl, (blk_cell BK1070.out 1).trans rfl, (blk_cell BK1070.out 2).trans rfl, (blk_cell BK1051.out 0).trans rfl, (blk_cell BK1051.out 1).trans rfl, (blk_cell BK1051.out 2).trans rfl⟩ (fun hHeld => ?_)
            clear hK K
            refine norm_ (a' := ?_) ?_ ?_
            rotate_left
            · show Act.put _ (some 60) _ = _
              simp only [Act.put, List.setIfInBounds_toArray, List.set_cons_zero, List.set_cons_succ, i64_w, i32_w]
              rfl
            refine pure_ (i := 4) (N := some 61) (v := ?_) (a' := ?_) #[true, true, true, true, true] rfl rfl (by kernel_rfl) (fun _ _ _ h => h) (Or.inl ⟨by rfl, ?_⟩) ?_ ?_
            rotate_left
            · intro w'
              go_simp
              with_reducible rfl
            rotate_left
            · simp only [Act.put, List.setIfInBounds_toArray, List.set_cons_zero, List.set_cons_succ, i64_w, i32_w]
              rfl
            refine done_ (by kernel_rfl) ?_
            have hnb69 := NB1070_1051.out
            have hnc69 := NB1051_1070.out
            have hnb70 := NB1070_1064.out
            have hnc70 := NB1064_1070.out
            have hnb71 := NB1070_1077.out
            have hnc71 := NB1077_1070.out
            have hcz72_0 : w68.cell? ⟨gb1070, 0, none⟩ = some (.int .i64 t1065) := (blk_cell BK1070.out 0).trans rfl
            have hcz72_1 : w68.cell? ⟨gb1070, 1, none⟩ = some (.int .i64 t1066) := (blk_cell BK1070.out 1).trans rfl
            have hcz72_2 : w68.cell? ⟨gb1070, 2, none⟩ = some (.slice Ao33 t1067.length co33) := (blk_cell BK1070.out 2).trans rfl
            have hfz72_0 := blk_frozen BK1070.out 0
            have hfz72_1 := blk_frozen BK1070.out 1
            have hfz72_2 := blk_frozen BK1070.out 2
            go_upto_region 14 with (first | ((with_reducible refine gate_callee (f := 58) rfl ?_); refine goesL_ (some 64) rfl rfl Try.func58 (by kernel_rfl) rfl #[.agg #[.int .i64 t1065, .int .i64 t1066, .slice Ao33 t1067.length co33], .int .i64 1] rfl (by (try simp only [List.map_toArray, List.map_cons, List.map_nil]); first | done | rfl | (simp only [List.length_drop, List.length_take]; rfl)) ?_; (with_reducible refine (laws_markPicture.calls kj14 t1065 t1066 (fun k_ => some k_ = (.slice Ao33 t1067.length co33 : Value).ownBlock) (.slice Ao33 t1067.length co33) t1067 1 t1085 t1086 w _ ?side1 ?side2 A63.out).mono ?_); (case side1 => repeat (first | (with_reducible first | exact HB.out | apply below_alloc | apply pw_below_drewN | apply below_drew1 | refine below_set ?_ GE1051.out | refine below_set ?_ GE1064.out | refine below_set ?_ GE1070.out | refine below_set ?_ GE1077.out) | exact HB.out)); (case side2 => exact Kd.R_tight rfl HO_1071002.out); rintro e w73 ⟨rfl, hy0, hb, hkp⟩; refine ⟨_, rfl, ?_⟩; have n0_ := Aside0.mk (Kd.R_mono (ok' := fun k_ => some k_ ≠ (.slice Ao33 t1067.length co33 : Value).ownBlock ∧ some k_ ≠ (.slice Ao40 t1073.length co40 : Value).ownBlock ∧ some k_ ≠ (.slice Ao67 t1081.length co67 : Value).ownBlock) (Kd.R_keptB (HO_1065002.out) hkp (fun k_ hk_ hs_ => (hk_.1.1) hs_)) (fun k_ hk_ => ⟨hk_.1.1.1, hk_.1.1.2, hk_.1.2⟩)); have n1_ := Aside0.mk (Kd.R_reok rfl hy0 (fun k_ e_ => HO_1071002.out.1 k_ e_)); have n2_ := Aside0.mk (Kd.R_mono (ok' := fun k_ => some k_ ≠ (.slice Ao26 t1060.length co26 : Value).ownBlock ∧ some k_ ≠ (.slice Ao33 t1067.length co33 : Value).ownBlock ∧ some k_ ≠ (.slice Ao67 t1081.length co67 : Value).ownBlock) (Kd.R_keptB (HO_1078002.out) hkp (fun k_ hk_ hs_ => (hk_.1.2) hs_)) (fun k_ hk_ => ⟨hk_.1.1.1, hk_.1.1.2, hk_.1.2⟩)); have n3_ := Aside0.mk (blk_kept (by (with_reducible repeat (first | refine blk_drewN ?_ _ | refine blk_drew ?_ | refine blk_alloc ?_ _)); exact BK1051.out) hkp (fun hs_ => (fun e_ => (Kd.R_ne HO_1071002.out BK1051.out (by decide)) e_) hs_)); have n4_ := Aside0.mk (blk_kept (by (with_reducible repeat (first | refine blk_drewN ?_ _ | refine blk_drew ?_ | refine blk_alloc ?_ _)); exact BK1064.out) hkp (fun hs_ => (fun e_ => (Kd.R_ne HO_1071002.out BK1064.out (by decide)) e_) hs_)); have n5_ := Aside0.mk (blk_kept (by (with_reducible repeat (first | refine blk_drewN ?_ _ | refine blk_drew ?_ | refine blk_alloc ?_ _)); exact BK1070.out) hkp (fun hs_ => (fun e_ => (Kd.R_ne HO_1071002.out BK1070.out (by decide)) e_) hs_)); have n6_ := Aside0.mk (blk_kept (by (with_reducible repeat (first | refine blk_drewN ?_ _ | refine blk_drew ?_ | refine blk_alloc ?_ _)); exact BK1077.out) hkp (fun hs_ => (fun e_ => (Kd.R_ne HO_1071002.out BK1077.out (by decide)) e_) hs_)); have n7_ := Aside0.mk (Kd.R_mono (ok' := fun k_ => some k_ ≠ (.slice Ao26 t1060.length co26 : Value).ownBlock ∧ some k_ ≠ (.slice Ao33 t1067.length co33 : Value).ownBlock ∧ some k_ ≠ (.slice Ao40 t1073.length co40 : Value).ownBlock) (Kd.R_keptB (HO1083.out) hkp (fun k_ hk_ hs_ => (hk_.1.2) hs_)) (fun k_ hk_ => ⟨hk_.1.1.1.2, hk_.1.1.2, hk_.1.2⟩)); have n8_ := Aside0.mk (hb); clear HO_1065002; clear HO_1071002; clear HO_1078002; clear BK1051; clear BK1064; clear BK1070; clear BK1077; clear HO1083; clear HB; have HO_1065002 := n0_; have HO_1071002 := n1_; have HO_1078002 := n2_; have BK1051 := n3_; have BK1064 := n4_; have BK1070 := n5_; have BK1077 := n6_; have HO1083 := n7_; have HB := n8_; clear n0_ n1_ n2_ n3_ n4_ n5_ n6_ n7_ n8_; (try clear hb); (try clear hkp); (try clear hy0)))
            (try simp only [Act.put, List.setIfInBounds_toArray, List.set_cons_zero, List.set_cons_succ])
            go_cut [77] (fun v77 wc => ∃ (kq : Nat) (x77_63 : Bool), v77 = .bool x77_63 ∧ Aside0 (laws_FnExactCropPicture.j1 kq a1 a2 a3 a4 t1063 x77_63 a0_0 a0_1 l0_2 t1058 t1059 t1060 t1071 t1072 t1073 = some r) ∧ Aside0 (kq ≤ kj14) ∧ Aside0 (Kd.R (Kd.int .i64) 3 wc w.heap.size (fun k_ => some k_ ≠ ((.slice Ao33 t1067.length co33) : Value).ownBlock ∧ some k_ ≠ ((.slice Ao40 t1073.length co40) : Value).ownBlock) (.slice Ao26 t1060.length co26) t1060) ∧ Aside0 (Kd.R (Kd.int .i64) 3 wc w.heap.size (fun k_ => some k_ ≠ ((.slice Ao26 t1060.length co26) : Value).ownBlock ∧ some k_ ≠ ((.slice Ao40 t1073.length co40) : Value).ownBlock) (.slice Ao33 t1067.length co33) t1086) ∧ Aside0 (Kd.R (Kd.int .i64) 3 wc w.heap.size (fun k_ => some k_ ≠ ((.slice Ao26 t1060.length co26) : Value).ownBlock ∧ some k_ ≠ ((.slice Ao33 t1067.length co33) : Value).ownBlock) (.slice Ao40 t1073.length co40) t1073) ∧ Aside0 (wc.heap[gb1051]? = some (.cells #[.int .i64 a0_0, .int .i64 a0_1, (.slice A0_2 l0_2.length c0_2)] 34 (0, 0))) ∧ Aside0 (wc.heap[gb1064]? = some (.cells #[.int .i64 t1058, .int .i64 t1059, (.slice Ao26 t1060.length co26)] 37 (0, 0))) ∧ Aside0 (wc.heap[gb1070]? = some (.cells #[.int .i64 t1065, .int .i64 t1066, (.slice Ao33 t1067.length co33)] 37 (0, 0))) ∧ Aside0 (wc.heap[gb1077]? = some (.cells #[.int .i64 t1071, .int .i64 t1072, (.slice Ao40 t1073.length co40)] 37 (0, 0))) ∧ Aside0 (Below w.heap.size w wc))
            case first =>
              have H := HC64.out
              clear HC64
              by_cases c74 : t1085 < 0
              · rw [if_pos c74] at H
                have c74b0 : decide (t1085 < 0) = true := decide_eq_true c74
                clear c74
                (first | rw [c74b0] | (simp only [i64_w, i32_w]; rw [c74b0]) | skip)
                have H' := Aside0.mk H
                clear H
                go_wp2
                go_meet
                case rel => exact ⟨_, (true), (by first | rfl | (simp; done) | (simp [*]; done)), H', ⟨by have := HJ14.out; first | omega | exact Nat.le_refl _⟩, ⟨by (with_reducible repeat (first | apply Kd.R_alloc | apply Kd.R_drewN | apply Kd.R_drew)); exact Kd.R_mono HO_1065002.out (fun _ hk => ⟨hk.1, hk.2.1⟩)⟩, ⟨by (with_reducible repeat (first | apply Kd.R_alloc | apply Kd.R_drewN | apply Kd.R_drew)); exact Kd.R_mono HO_1071002.out (fun _ hk => ⟨hk.1.1, hk.1.2⟩)⟩, ⟨by (with_reducible repeat (first | apply Kd.R_alloc | apply Kd.R_drewN | apply Kd.R_drew)); exact Kd.R_mono HO_1078002.out (fun _ hk => ⟨hk.1, hk.2.1⟩)⟩, ⟨by (with_reducible repeat (first | refine blk_drewN ?_ _ | refine blk_drew ?_ | refine blk_alloc ?_ _)); exact BK1051.out⟩, ⟨by (with_reducible repeat (first | refine blk_drewN ?_ _ | refine blk_drew ?_ | refine blk_alloc ?_ _)); exact BK1064.out⟩, ⟨by (with_reducible repeat (first | refine blk_drewN ?_ _ | refine blk_drew ?_ | refine blk_alloc ?_ _)); exact BK1070.out⟩, ⟨by (with_reducible repeat (first | refine blk_drewN ?_ _ | refine blk_drew ?_ | refine blk_alloc ?_ _)); exact BK1077.out⟩, ⟨by repeat (first | (with_reducible first | exact HB.out | apply below_alloc | apply pw_below_drewN | apply below_drew1 | refine below_set ?_ GE1051.out | refine below_set ?_ GE1064.out | refine below_set ?_ GE1070.out | refine below_set ?_ GE1077.out) | exact HB.out)⟩⟩
              · rw [if_neg c74] at H
                have c74b0 : decide (t1085 < 0) = false := decide_eq_false c74
                clear c74
                (first | rw [c74b0] | (simp only [i64_w, i32_w]; rw [c74b0]) | skip)
                replace H := Option.bind_eq_some_iff.mp H
                obtain ⟨t1087, A750, H⟩ := H
                replace H : (if t1087 = true then (laws_FnExactCropPicture.j1 kj14 a1 a2 a3 a4 t1063 (t1076 != t1063) a0_0 a0_1 l0_2 t1058 t1059 t1060 t1071 t1072 t1073) else (laws_FnExactCropPicture.j1 kj14 a1 a2 a3 a4 t1063 true a0_0 a0_1 l0_2 t1058 t1059 t1060 t1071 t1072 t1073)) = some r := H
                have A75 := Aside0.mk A750
                clear A750
                by_cases c76 : t1087 = true
                · subst c76
                  have H1 : (laws_FnExactCropPicture.j1 kj14 a1 a2 a3 a4 t1063 (t1076 != t1063) a0_0 a0_1 l0_2 t1058 t1059 t1060 t1071 t1072 t1073) = some r := by rw [if_pos rfl] at H; exact H
                  clear H
                  have H := H1
                  clear H1
                  have H' := Aside0.mk H
                  clear H
                  have hnb77 := NB1077_1051.out
                  have hnc77 := NB1051_1077.out
                  have hnb78 := NB1077_1064.out
                  have hnc78 := NB1064_1077.out
                  have hnb79 := NB1077_1070.out
                  have hnc79 := NB1070_1077.out
                  have hcz80_0 : w73.cell? ⟨gb1077, 0, none⟩ = some (.int .i64 t1071) := (blk_cell BK1077.out 0).trans rfl
                  have hcz80_1 : w73.cell? ⟨gb1077, 1, none⟩ = some (.int .i64 t1072) := (blk_cell BK1077.out 1).trans rfl
                  have hcz80_2 : w73.cell? ⟨gb1077, 2, none⟩ = some (.slice Ao40 t1073.length co40) := (blk_cell BK1077.out 2).trans rfl
                  have hfz80_0 := blk_frozen BK1077.out 0
                  have hfz80_1 := blk_frozen BK1077.out 1
                  have hfz80_2 := blk_frozen BK1077.out 2
                  have hnb81 := NB1064_1051.out
                  have hnc81 := NB1051_1064.out
                  have hnb82 := NB1064_1070.out
                  have hnc82 := NB1070_1064.out
                  have hcz83_0 : w73.cell? ⟨gb1064, 0, none⟩ = some (.int .i64 t1058) := (blk_cell BK1064.out 0).trans rfl
                  have hcz83_1 : w73.cell? ⟨gb1064, 1, none⟩ = some (.int .i64 t1059) := (blk_cell BK1064.out 1).trans rfl
                  have hcz83_2 : w73.cell? ⟨gb1064, 2, none⟩ = some (.slice Ao26 t1060.length co26) := (blk_cell BK1064.out 2).trans rfl
                  have hfz83_0 := blk_frozen BK1064.out 0
                  have hfz83_1 := blk_frozen BK1064.out 1
                  have hfz83_2 := blk_frozen BK1064.out 2
                  go_wp2_with (first | (go_at_call 50; (with_reducible refine (laws_eqPicture.calls kj14 t1071 t1072 _ _ t1073 t1058 t1059 _ _ t1060 true _ ?side1 ?side2 ?side3 ?side4 A75.out).mono ?_); (case side1 => repeat (first | exact (Kd.R_reads' HO_1078002.out).2.2 | (with_reducible refine Kd.C_alloc ?_ _) | (with_reducible refine Kd.C_drewN ?_ _) | (with_reducible refine Kd.C_drew ?_))); (case side2 => exact (Kd.R_reads' HO_1078002.out).2.1); (case side3 => repeat (first | exact (Kd.R_reads' HO_1065002.out).2.2 | (with_reducible refine Kd.C_alloc ?_ _) | (with_reducible refine Kd.C_drewN ?_ _) | (with_reducible refine Kd.C_drew ?_))); (case side4 => exact (Kd.R_reads' HO_1065002.out).2.1); rintro e w84 ⟨rfl, hb⟩; have n0_ := Aside0.mk (Kd.R_below (by (with_reducible repeat (first | apply Kd.R_alloc | apply Kd.R_drewN | apply Kd.R_drew)); exact HO_1065002.out) hb); have n1_ := Aside0.mk (Kd.R_below (by (with_reducible repeat (first | apply Kd.R_alloc | apply Kd.R_drewN | apply Kd.R_drew)); exact HO_1071002.out) hb); have n2_ := Aside0.mk (Kd.R_below (by (with_reducible repeat (first | apply Kd.R_alloc | apply Kd.R_drewN | apply Kd.R_drew)); exact HO_1078002.out) hb); have n3_ := Aside0.mk (Kd.R_below (by (with_reducible repeat (first | apply Kd.R_alloc | apply Kd.R_drewN | apply Kd.R_drew)); exact HO1083.out) hb); have n4_ := Aside0.mk (blk_below (g := gb1051) (o := .cells #[.int .i64 a0_0, .int .i64 a0_1, .slice A0_2 l0_2.length c0_2] 34 (0, 0)) (by (with_reducible repeat (first | refine blk_drewN ?_ _ | refine blk_drew ?_ | refine blk_alloc ?_ _)); exact BK1051.out) hb); have n5_ := Aside0.mk (blk_below (g := gb1064) (o := .cells #[.int .i64 t1058, .int .i64 t1059, .slice Ao26 t1060.length co26] 37 (0, 0)) (by (with_reducible repeat (first | refine blk_drewN ?_ _ | refine blk_drew ?_ | refine blk_alloc ?_ _)); exact BK1064.out) hb); have n6_ := Aside0.mk (blk_below (g := gb1070) (o := .cells #[.int .i64 t1065, .int .i64 t1066, .slice Ao33 t1067.length co33] 37 (0, 0)) (by (with_reducible repeat (first | refine blk_drewN ?_ _ | refine blk_drew ?_ | refine blk_alloc ?_ _)); exact BK1070.out) hb); have n7_ := Aside0.mk (blk_below (g := gb1077) (o := .cells #[.int .i64 t1071, .int .i64 t1072, .slice Ao40 t1073.length co40] 37 (0, 0)) (by (with_reducible repeat (first | refine blk_drewN ?_ _ | refine blk_drew ?_ | refine blk_alloc ?_ _)); exact BK1077.out) hb); have n8_ := Aside0.mk (below_step (by repeat (first | (with_reducible first | exact HB.out | apply below_alloc | apply pw_below_drewN | apply below_drew1 | refine below_set ?_ GE1051.out | refine below_set ?_ GE1064.out | refine below_set ?_ GE1070.out | refine below_set ?_ GE1077.out) | exact HB.out)) hb); clear HO_1065002; clear HO_1071002; clear HO_1078002; clear HO1083; clear BK1051; clear BK1064; clear BK1070; clear BK1077; clear HB; have HO_1065002 := n0_; have HO_1071002 := n1_; have HO_1078002 := n2_; have HO1083 := n3_; have BK1051 := n4_; have BK1064 := n5_; have BK1070 := n6_; have BK1077 := n7_; have HB := n8_; clear n0_ n1_ n2_ n3_ n4_ n5_ n6_ n7_ n8_; (try clear hb); (try clear hb2); (try clear hk); (try clear hi)))
                  go_meet
                  case rel => exact ⟨_, ((t1076 != t1063)), (by first | rfl | (simp; done) | (simp [*]; done)), H', ⟨by have := HJ14.out; first | omega | exact Nat.le_refl _⟩, ⟨by (with_reducible repeat (first | apply Kd.R_alloc | apply Kd.R_drewN | apply Kd.R_drew)); exact Kd.R_mono HO_1065002.out (fun _ hk => ⟨hk.1, hk.2.1⟩)⟩, ⟨by (with_reducible repeat (first | apply Kd.R_alloc | apply Kd.R_drewN | apply Kd.R_drew)); exact Kd.R_mono HO_1071002.out (fun _ hk => ⟨hk.1.1, hk.1.2⟩)⟩, ⟨by (with_reducible repeat (first | apply Kd.R_alloc | apply Kd.R_drewN | apply Kd.R_drew)); exact Kd.R_mono HO_1078002.out (fun _ hk => ⟨hk.1, hk.2.1⟩)⟩, ⟨by (with_reducible repeat (first | refine blk_drewN ?_ _ | refine blk_drew ?_ | refine blk_alloc ?_ _)); exact BK1051.out⟩, ⟨by (with_reducible repeat (first | refine blk_drewN ?_ _ | refine blk_drew ?_ | refine blk_alloc ?_ _)); exact BK1064.out⟩, ⟨by (with_reducible repeat (first | refine blk_drewN ?_ _ | refine blk_drew ?_ | refine blk_alloc ?_ _)); exact BK1070.out⟩, ⟨by (with_reducible repeat (first | refine blk_drewN ?_ _ | refine blk_drew ?_ | refine blk_alloc ?_ _)); exact BK1077.out⟩, ⟨by repeat (first | (with_reducible first | exact HB.out | apply below_alloc | apply pw_below_drewN | apply below_drew1 | refine below_set ?_ GE1051.out | refine below_set ?_ GE1064.out | refine below_set ?_ GE1070.out | refine below_set ?_ GE1077.out) | exact HB.out)⟩⟩
                · replace c76 := Bool.eq_false_iff.mpr c76
                  subst c76
                  have H1 : (laws_FnExactCropPicture.j1 kj14 a1 a2 a3 a4 t1063 true a0_0 a0_1 l0_2 t1058 t1059 t1060 t1071 t1072 t1073) = some r := by rw [if_neg (show ¬ (false = true) by decide)] at H; exact H
                  clear H
                  have H := H1
                  clear H1
                  have H' := Aside0.mk H
                  clear H
                  have hnb85 := NB1077_1051.out
                  have hnc85 := NB1051_1077.out
                  have hnb86 := NB1077_1064.out
                  have hnc86 := NB1064_1077.out
                  have hnb87 := NB1077_1070.out
                  have hnc87 := NB1070_1077.out
                  have hcz88_0 : w73.cell? ⟨gb1077, 0, none⟩ = some (.int .i64 t1071) := (blk_cell BK1077.out 0).trans rfl
                  have hcz88_1 : w73.cell? ⟨gb1077, 1, none⟩ = some (.int .i64 t1072) := (blk_cell BK1077.out 1).trans rfl
                  have hcz88_2 : w73.cell? ⟨gb1077, 2, none⟩ = some (.slice Ao40 t1073.length co40) := (blk_cell BK1077.out 2).trans rfl
                  have hfz88_0 := blk_frozen BK1077.out 0
                  have hfz88_1 := blk_frozen BK1077.out 1
                  have hfz88_2 := blk_frozen BK1077.out 2
                  have hnb89 := NB1064_1051.out
                  have hnc89 := NB1051_1064.out
                  have hnb90 := NB1064_1070.out
                  have hnc90 := NB1070_1064.out
                  have hcz91_0 : w73.cell? ⟨gb1064, 0, none⟩ = some (.int .i64 t1058) := (blk_cell BK1064.out 0).trans rfl
                  have hcz91_1 : w73.cell? ⟨gb1064, 1, none⟩ = some (.int .i64 t1059) := (blk_cell BK1064.out 1).trans rfl
                  have hcz91_2 : w73.cell? ⟨gb1064, 2, none⟩ = some (.slice Ao26 t1060.length co26) := (blk_cell BK1064.out 2).trans rfl
                  have hfz91_0 := blk_frozen BK1064.out 0
                  have hfz91_1 := blk_frozen BK1064.out 1
                  have hfz91_2 := blk_frozen BK1064.out 2
                  go_wp2_with (first | (go_at_call 50; (with_reducible refine (laws_eqPicture.calls kj14 t1071 t1072 _ _ t1073 t1058 t1059 _ _ t1060 false _ ?side1 ?side2 ?side3 ?side4 A75.out).mono ?_); (case side1 => repeat (first | exact (Kd.R_reads' HO_1078002.out).2.2 | (with_reducible refine Kd.C_alloc ?_ _) | (with_reducible refine Kd.C_drewN ?_ _) | (with_reducible refine Kd.C_drew ?_))); (case side2 => exact (Kd.R_reads' HO_1078002.out).2.1); (case side3 => repeat (first | exact (Kd.R_reads' HO_1065002.out).2.2 | (with_reducible refine Kd.C_alloc ?_ _) | (with_reducible refine Kd.C_drewN ?_ _) | (with_reducible refine Kd.C_drew ?_))); (case side4 => exact (Kd.R_reads' HO_1065002.out).2.1); rintro e w92 ⟨rfl, hb⟩; have n0_ := Aside0.mk (Kd.R_below (by (with_reducible repeat (first | apply Kd.R_alloc | apply Kd.R_drewN | apply Kd.R_drew)); exact HO_1065002.out) hb); have n1_ := Aside0.mk (Kd.R_below (by (with_reducible repeat (first | apply Kd.R_alloc | apply Kd.R_drewN | apply Kd.R_drew)); exact HO_1071002.out) hb); have n2_ := Aside0.mk (Kd.R_below (by (with_reducible repeat (first | apply Kd.R_alloc | apply Kd.R_drewN | apply Kd.R_drew)); exact HO_1078002.out) hb); have n3_ := Aside0.mk (Kd.R_below (by (with_reducible repeat (first | apply Kd.R_alloc | apply Kd.R_drewN | apply Kd.R_drew)); exact HO1083.out) hb); have n4_ := Aside0.mk (blk_below (g := gb1051) (o := .cells #[.int .i64 a0_0, .int .i64 a0_1, .slice A0_2 l0_2.length c0_2] 34 (0, 0)) (by (with_reducible repeat (first | refine blk_drewN ?_ _ | refine blk_drew ?_ | refine blk_alloc ?_ _)); exact BK1051.out) hb); have n5_ := Aside0.mk (blk_below (g := gb1064) (o := .cells #[.int .i64 t1058, .int .i64 t1059, .slice Ao26 t1060.length co26] 37 (0, 0)) (by (with_reducible repeat (first | refine blk_drewN ?_ _ | refine blk_drew ?_ | refine blk_alloc ?_ _)); exact BK1064.out) hb); have n6_ := Aside0.mk (blk_below (g := gb1070) (o := .cells #[.int .i64 t1065, .int .i64 t1066, .slice Ao33 t1067.length co33] 37 (0, 0)) (by (with_reducible repeat (first | refine blk_drewN ?_ _ | refine blk_drew ?_ | refine blk_alloc ?_ _)); exact BK1070.out) hb); have n7_ := Aside0.mk (blk_below (g := gb1077) (o := .cells #[.int .i64 t1071, .int .i64 t1072, .slice Ao40 t1073.length co40] 37 (0, 0)) (by (with_reducible repeat (first | refine blk_drewN ?_ _ | refine blk_drew ?_ | refine blk_alloc ?_ _)); exact BK1077.out) hb); have n8_ := Aside0.mk (below_step (by repeat (first | (with_reducible first | exact HB.out | apply below_alloc | apply pw_below_drewN | apply below_drew1 | refine below_set ?_ GE1051.out | refine below_set ?_ GE1064.out | refine below_set ?_ GE1070.out | refine below_set ?_ GE1077.out) | exact HB.out)) hb); clear HO_1065002; clear HO_1071002; clear HO_1078002; clear HO1083; clear BK1051; clear BK1064; clear BK1070; clear BK1077; clear HB; have HO_1065002 := n0_; have HO_1071002 := n1_; have HO_1078002 := n2_; have HO1083 := n3_; have BK1051 := n4_; have BK1064 := n5_; have BK1070 := n6_; have BK1077 := n7_; have HB := n8_; clear n0_ n1_ n2_ n3_ n4_ n5_ n6_ n7_ n8_; (try clear hb); (try clear hb2); (try clear hk); (try clear hi)))
                  go_meet
                  case rel => exact ⟨_, (true), (by first | rfl | (simp; done) | (simp [*]; done)), H', ⟨by have := HJ14.out; first | omega | exact Nat.le_refl _⟩, ⟨by (with_reducible repeat (first | apply Kd.R_alloc | apply Kd.R_drewN | apply Kd.R_drew)); exact Kd.R_mono HO_1065002.out (fun _ hk => ⟨hk.1, hk.2.1⟩)⟩, ⟨by (with_reducible repeat (first | apply Kd.R_alloc | apply Kd.R_drewN | apply Kd.R_drew)); exact Kd.R_mono HO_1071002.out (fun _ hk => ⟨hk.1.1, hk.1.2⟩)⟩, ⟨by (with_reducible repeat (first | apply Kd.R_alloc | apply Kd.R_drewN | apply Kd.R_drew)); exact Kd.R_mono HO_1078002.out (fun _ hk => ⟨hk.1, hk.2.1⟩)⟩, ⟨by (with_reducible repeat (first | refine blk_drewN ?_ _ | refine blk_drew ?_ | refine blk_alloc ?_ _)); exact BK1051.out⟩, ⟨by (with_reducible repeat (first | refine blk_drewN ?_ _ | refine blk_drew ?_ | refine blk_alloc ?_ _)); exact BK1064.out⟩, ⟨by (with_reducible repeat (first | refine blk_drewN ?_ _ | refine blk_drew ?_ | refine blk_alloc ?_ _)); exact BK1070.out⟩, ⟨by (with_reducible repeat (first | refine blk_drewN ?_ _ | refine blk_drew ?_ | refine blk_alloc ?_ _)); exact BK1077.out⟩, ⟨by repeat (first | (with_reducible first | exact HB.out | apply below_alloc | apply pw_below_drewN | apply below_drew1 | refine below_set ?_ GE1051.out | refine below_set ?_ GE1064.out | refine below_set ?_ GE1070.out | refine below_set ?_ GE1077.out) | exact HB.out)⟩⟩
            case rest =>
              clear HC64
              try clear c2
              try clear p2
              try clear c3
              try clear c4
              try clear c5
              try clear c6
              try clear c7
              try clear c7b0
              try clear c8
              try clear c9
              try clear c24
              try clear c30
              try clear c31
              try clear c36
              try clear c37
              try clear c38
              try clear c42
              try clear c43
              try clear c44
              try clear c45
              try clear c46
              try clear c47
              try clear c48
              try clear c50
              try clear c51
              try clear c52
              try clear c53
              try clear c55
              try clear c56
              try clear c58
              try clear c59
              try clear c62
              try clear c69
              try clear c70
              try clear c71
              try clear c74
              try clear c74b0
              try clear c76
              try clear c77
              try clear c78
              try clear c79
              try clear c81
              try clear c82
              try clear c84
              try clear c85
              try clear c86
              try clear c87
              try clear c89
              try clear c90
              try clear hcz17_0
              try clear hcz17_1
              try clear hcz17_2
              try clear hcz19_0
              try clear hcz19_1
              try clear hcz19_2
              try clear hcz25_0
              try clear hcz25_1
              try clear hcz25_2
              try clear hcz27_0
              try clear hcz27_1
              try clear hcz27_2
              try clear hcz32_0
              try clear hcz32_1
              try clear hcz32_2
              try clear hcz39_0
              try clear hcz39_1
              try clear hcz39_2
              try clear hcz46_0
              try clear hcz46_1
              try clear hcz46_2
              try clear hcz49_0
              try clear hcz49_1
              try clear hcz49_2
              try clear hcz54_0
              try clear hcz54_1
              try clear hcz54_2
              try clear hcz57_0
              try clear hcz57_1
              try clear hcz57_2
              try clear hcz72_0
              try clear hcz72_1
              try clear hcz72_2
              try clear hcz80_0
              try clear hcz80_1
              try clear hcz80_2
              try clear hcz83_0
              try clear hcz83_1
              try clear hcz83_2
              try clear hcz88_0
              try clear hcz88_1
              try clear hcz88_2
              try clear hcz91_0
              try clear hcz91_1
              try clear hcz91_2
              try clear hcz9_0
              try clear hcz9_1
              try clear hcz9_2
              try clear hfz17_0
              try clear hfz17_1
              try clear hfz17_2
              try clear hfz19_0
              try clear hfz19_1
              try clear hfz19_2
              try clear hfz25_0
              try clear hfz25_1
              try clear hfz25_2
              try clear hfz27_0
              try clear hfz27_1
              try clear hfz27_2
              try clear hfz32_0
              try clear hfz32_1
              try clear hfz32_2
              try clear hfz39_0
              try clear hfz39_1
              try clear hfz39_2
              try clear hfz46_0
              try clear hfz46_1
              try clear hfz46_2
              try clear hfz49_0
              try clear hfz49_1
              try clear hfz49_2
              try clear hfz54_0
              try clear hfz54_1
              try clear hfz54_2
              try clear hfz57_0
              try clear hfz57_1
              try clear hfz57_2
              try clear hfz72_0
              try clear hfz72_1
              try clear hfz72_2
              try clear hfz80_0
              try clear hfz80_1
              try clear hfz80_2
              try clear hfz83_0
              try clear hfz83_1
              try clear hfz83_2
              try clear hfz88_0
              try clear hfz88_1
              try clear hfz88_2
              try clear hfz91_0
              try clear hfz91_1
              try clear hfz91_2
              try clear hfz9_0
              try clear hfz9_1
              try clear hfz9_2
              try clear p2
              obtain ⟨kq, x77_63, rfl, HA, HJ63, HO_1065002, HO_1071002, HO_1078002, BK1051, BK1064, BK1070, BK1077, HB⟩ := hcut
              have hl1071002_63 := (Kd.R_reads' HO_1071002.out).1
              rw [hl1071002_63] at HO_1071002
              (try simp only [hl1071002_63])
              (try simp only [hl1071002_63] at BK1051)
              (try simp only [hl1071002_63] at BK1064)
              (try simp only [hl1071002_63] at BK1070)
              (try simp only [hl1071002_63] at BK1077)
              (try simp only [hl1071002_63] at HO_1065002)
              (try simp only [hl1071002_63] at HO_1078002)
              cases kq with
              | zero => exact absurd HA.out (by simp [laws_FnExactCropPicture.j1])
              | succ kj63 =>
                have H := HA.out
                clear HA
                simp only [laws_FnExactCropPicture.j1] at H
                by_cases c93 : x77_63 = true
                · subst c93
                  have H1 : (some false) = some r := by rw [if_pos rfl] at H; exact H
                  clear H
                  have H := H1
                  clear H1
                  exact absurd ((Option.some.inj H).trans hT.out) (by decide)
                · replace c93 := Bool.eq_false_iff.mpr c93
                  subst c93
                  have H1 : ((laws_markPicture.f kj63 t1071 t1072 t1073 1).bind fun bt1088 => ((laws_heldPicture.f kj63 t1071 t1072 bt1088.2 1).bind fun t1090 => (if t1090 < 0 then (some false) else (if t1090 = bt1088.1 then ((laws_toPicture.f kj63 a0_0 a0_1 l0_2).bind fun bt1091 => ((impl_CropPicture.f bt1091.1 bt1091.2.1 bt1091.2.2 a1 a2 a3 a4).bind fun bt1096 => ((laws_eqPicture.f kj63 bt1096.1 bt1096.2.1 bt1096.2.2.1 t1058 t1059 t1060).bind fun t1103 => (if t1103 = true then (laws_FnExactCropPicture.j2 kj63 bt1088.1 (bt1096.2.2.2 != t1063) t1071 t1072 bt1088.2) else (laws_FnExactCropPicture.j2 kj63 bt1088.1 true t1071 t1072 bt1088.2))))) else (some false))))) = some r := by rw [if_neg (show ¬ (false = true) by decide)] at H; exact H
                  clear H
                  have H := H1
                  clear H1
                  replace H := Option.bind_eq_some_iff.mp H
                  obtain ⟨⟨t1088, t1089⟩, A940, H⟩ := H
                  replace H : ((laws_heldPicture.f kj63 t1071 t1072 t1089 1).bind fun t1090 => (if t1090 < 0 then (some false) else (if t1090 = t1088 then ((laws_toPicture.f kj63 a0_0 a0_1 l0_2).bind fun bt1091 => ((impl_CropPicture.f bt1091.1 bt1091.2.1 bt1091.2.2 a1 a2 a3 a4).bind fun bt1096 => ((laws_eqPicture.f kj63 bt1096.1 bt1096.2.1 bt1096.2.2.1 t1058 t1059 t1060).bind fun t1103 => (if t1103 = true then (laws_FnExactCropPicture.j2 kj63 t1088 (bt1096.2.2.2 != t1063) t1071 t1072 t1089) else (laws_FnExactCropPicture.j2 kj63 t1088 true t1071 t1072 t1089))))) else (some false)))) = some r := H
                  have A94 := Aside0.mk A940
                  clear A940
                  replace H := Option.bind_eq_some_iff.mp H
                  obtain ⟨t1090, A950, H⟩ := H
                  replace H : (if t1090 < 0 then (some false) else (if t1090 = t1088 then ((laws_toPicture.f kj63 a0_0 a0_1 l0_2).bind fun bt1091 => ((impl_CropPicture.f bt1091.1 bt1091.2.1 bt1091.2.2 a1 a2 a3 a4).bind fun bt1096 => ((laws_eqPicture.f kj63 bt1096.1 bt1096.2.1 bt1096.2.2.1 t1058 t1059 t1060).bind fun t1103 => (if t1103 = true then (laws_FnExactCropPicture.j2 kj63 t1088 (bt1096.2.2.2 != t1063) t1071 t1072 t1089) else (laws_FnExactCropPicture.j2 kj63 t1088 true t1071 t1072 t1089))))) else (some false))) = some r := H
                  have A95 := Aside0.mk A950
                  clear A950
                  by_cases c96 : t1090 < 0
                  · rw [if_pos c96] at H
                    have c96b0 : decide (t1090 < 0) = true := decide_eq_true c96
                    clear c96
                    exact absurd ((Option.some.inj H).trans hT.out) (by decide)
                  · rw [if_neg c96] at H
                    have c96b0 : decide (t1090 < 0) = false := decide_eq_false c96
                    clear c96
                    by_cases c97 : t1090 = t1088
                    · rw [if_pos c97] at H
                      have c97b0 : (t1090 == t1088) = true := beq_iff_eq.mpr c97
                      have c97b1 : (t1090 != t1088) = false := bne_eq_false_iff_eq.mpr c97
                      clear c97
                      replace H := Option.bind_eq_some_iff.mp H
                      obtain ⟨⟨t1091, t1092, t1093⟩, A980, H⟩ := H
                      replace H : ((impl_CropPicture.f t1091 t1092 t1093 a1 a2 a3 a4).bind fun bt1096 => ((laws_eqPicture.f kj63 bt1096.1 bt1096.2.1 bt1096.2.2.1 t1058 t1059 t1060).bind fun t1103 => (if t1103 = true then (laws_FnExactCropPicture.j2 kj63 t1088 (bt1096.2.2.2 != t1063) t1071 t1072 t1089) else (laws_FnExactCropPicture.j2 kj63 t1088 true t1071 t1072 t1089)))) = some r := H
                      have A98 := Aside0.mk A980
                      clear A980
                      replace H := Option.bind_eq_some_iff.mp H
                      obtain ⟨⟨t1096, t1097, t1098, t1101⟩, A990, H⟩ := H
                      replace H : ((laws_eqPicture.f kj63 t1096 t1097 t1098 t1058 t1059 t1060).bind fun t1103 => (if t1103 = true then (laws_FnExactCropPicture.j2 kj63 t1088 (t1101 != t1063) t1071 t1072 t1089) else (laws_FnExactCropPicture.j2 kj63 t1088 true t1071 t1072 t1089))) = some r := H
                      have A99 := Aside0.mk A990
                      clear A990
                      have HC100 := Aside0.mk H
                      clear H
                      have hnb101 := NB1077_1051.out
                      have hnc101 := NB1051_1077.out
                      have hnb102 := NB1077_1064.out
                      have hnc102 := NB1064_1077.out
                      have hnb103 := NB1077_1070.out
                      have hnc103 := NB1070_1077.out
                      have hcz104_0 : wc.cell? ⟨gb1077, 0, none⟩ = some (.int .i64 t1071) := (blk_cell BK1077.out 0).trans rfl
                      have hcz104_1 : wc.cell? ⟨gb1077, 1, none⟩ = some (.int .i64 t1072) := (blk_cell BK1077.out 1).trans rfl
                      have hcz104_2 : wc.cell? ⟨gb1077, 2, none⟩ = some (.slice Ao40 t1073.length co40) := (blk_cell BK1077.out 2).trans rfl
                      have hfz104_0 := blk_frozen BK1077.out 0
                      have hfz104_1 := blk_frozen BK1077.out 1
                      have hfz104_2 := blk_frozen BK1077.out 2
                      go_upto_region 25 with (first | ((with_reducible refine gate_callee (f := 58) rfl ?_); refine goesL_ (some 80) rfl rfl Try.func58 (by kernel_rfl) rfl #[.agg #[.int .i64 t1071, .int .i64 t1072, .slice Ao40 t1073.length co40], .int .i64 1] rfl (by (try simp only [List.map_toArray, List.map_cons, List.map_nil]); first | done | rfl | (simp only [List.length_drop, List.length_take]; rfl)) ?_; (with_reducible refine (laws_markPicture.calls kj63 t1071 t1072 (fun k_ => some k_ = (.slice Ao40 t1073.length co40 : Value).ownBlock) (.slice Ao40 t1073.length co40) t1073 1 t1088 t1089 w _ ?side1 ?side2 A94.out).mono ?_); (case side1 => repeat (first | (with_reducible first | exact HB.out | apply below_alloc | apply pw_below_drewN | apply below_drew1 | refine below_set ?_ GE1051.out | refine below_set ?_ GE1064.out | refine below_set ?_ GE1070.out | refine below_set ?_ GE1077.out) | exact HB.out)); (case side2 => exact Kd.R_tight rfl HO_1078002.out); rintro e w105 ⟨rfl, hy0, hb, hkp⟩; refine ⟨_, rfl, ?_⟩; have n0_ := Aside0.mk (Kd.R_mono (ok' := fun k_ => some k_ ≠ (.slice Ao33 t1086.length co33 : Value).ownBlock ∧ some k_ ≠ (.slice Ao40 t1073.length co40 : Value).ownBlock) (Kd.R_keptB (HO_1065002.out) hkp (fun k_ hk_ hs_ => (hk_.2) hs_)) (fun k_ hk_ => ⟨hk_.1.1, hk_.1.2⟩)); have n1_ := Aside0.mk (Kd.R_mono (ok' := fun k_ => some k_ ≠ (.slice Ao26 t1060.length co26 : Value).ownBlock ∧ some k_ ≠ (.slice Ao40 t1073.length co40 : Value).ownBlock) (Kd.R_keptB (HO_1071002.out) hkp (fun k_ hk_ hs_ => (hk_.2) hs_)) (fun k_ hk_ => ⟨hk_.1.1, hk_.1.2⟩)); have n2_ := Aside0.mk (Kd.R_reok rfl hy0 (fun k_ e_ => HO_1078002.out.1 k_ e_)); have n3_ := Aside0.mk (blk_kept (by (with_reducible repeat (first | refine blk_drewN ?_ _ | refine blk_drew ?_ | refine blk_alloc ?_ _)); exact BK1051.out) hkp (fun hs_ => (fun e_ => (Kd.R_ne HO_1078002.out BK1051.out (by decide)) e_) hs_)); have n4_ := Aside0.mk (blk_kept (by (with_reducible repeat (first | refine blk_drewN ?_ _ | refine blk_drew ?_ | refine blk_alloc ?_ _)); exact BK1064.out) hkp (fun hs_ => (fun e_ => (Kd.R_ne HO_1078002.out BK1064.out (by decide)) e_) hs_)); have n5_ := Aside0.mk (blk_kept (by (with_reducible repeat (first | refine blk_drewN ?_ _ | refine blk_drew ?_ | refine blk_alloc ?_ _)); exact BK1070.out) hkp (fun hs_ => (fun e_ => (Kd.R_ne HO_1078002.out BK1070.out (by decide)) e_) hs_)); have n6_ := Aside0.mk (blk_kept (by (with_reducible repeat (first | refine blk_drewN ?_ _ | refine blk_drew ?_ | refine blk_alloc ?_ _)); exact BK1077.out) hkp (fun hs_ => (fun e_ => (Kd.R_ne HO_1078002.out BK1077.out (by decide)) e_) hs_)); have n7_ := Aside0.mk (hb); clear HO_1065002; clear HO_1071002; clear HO_1078002; clear BK1051; clear BK1064; clear BK1070; clear BK1077; clear HB; have HO_1065002 := n0_; have HO_1071002 := n1_; have HO_1078002 := n2_; have BK1051 := n3_; have BK1064 := n4_; have BK1070 := n5_; have BK1077 := n6_; have HB := n7_; clear n0_ n1_ n2_ n3_ n4_ n5_ n6_ n7_; (try clear hb); (try clear hkp); (try clear hy0); have hcz106_0 : w105.cell? ⟨gb1077, 0, none⟩ = some (.int .i64 t1071) := (blk_cell BK1077.out 0).trans rfl; have hcz106_1 : w105.cell? ⟨gb1077, 1, none⟩ = some (.int .i64 t1072) := (blk_cell BK1077.out 1).trans rfl; have hcz106_2 : w105.cell? ⟨gb1077, 2, none⟩ = some (.slice Ao40 t1073.length co40) := (blk_cell BK1077.out 2).trans rfl; have hfz106_0 := blk_frozen BK1077.out 0; have hfz106_1 := blk_frozen BK1077.out 1; have hfz106_2 := blk_frozen BK1077.out 2) | ((with_reducible refine gate_callee (f := 59) rfl ?_); refine goesL_ (some 83) rfl rfl Try.func59 (by kernel_rfl) rfl #[.agg #[.int .i64 t1071, .int .i64 t1072, .slice Ao40 t1089.length co40], .int .i64 1] rfl (by (try simp only [List.map_toArray, List.map_cons, List.map_nil]); first | done | (rw [show t1089.length = t1073.length from (Kd.R_reads' HO_1078002.out).1.symm] <;> rfl) | rfl | (simp only [List.length_drop, List.length_take]; rfl)) ?_; (with_reducible refine (laws_heldPicture.calls kj63 t1071 t1072 _ _ t1089 1 t1090 _ ?side1 ?side2 A95.out).mono ?_); (case side1 => repeat (first | exact (Kd.R_reads' HO_1078002.out).2.2 | (with_reducible refine Kd.C_alloc ?_ _) | (with_reducible refine Kd.C_drewN ?_ _) | (with_reducible refine Kd.C_drew ?_))); (case side2 => rw [show t1089.length = t1073.length from (Kd.R_reads' HO_1078002.out).1.symm]; exact (Kd.R_reads' HO_1078002.out).2.1); rintro e w107 ⟨rfl, hb⟩; refine ⟨_, rfl, ?_⟩; have n0_ := Aside0.mk (Kd.R_below (by (with_reducible repeat (first | apply Kd.R_alloc | apply Kd.R_drewN | apply Kd.R_drew)); exact HO_1065002.out) hb); have n1_ := Aside0.mk (Kd.R_below (by (with_reducible repeat (first | apply Kd.R_alloc | apply Kd.R_drewN | apply Kd.R_drew)); exact HO_1071002.out) hb); have n2_ := Aside0.mk (Kd.R_below (by (with_reducible repeat (first | apply Kd.R_alloc | apply Kd.R_drewN | apply Kd.R_drew)); exact HO_1078002.out) hb); have n3_ := Aside0.mk (blk_below (g := gb1051) (o := .cells #[.int .i64 a0_0, .int .i64 a0_1, .slice A0_2 l0_2.length c0_2] 34 (0, 0)) (by (with_reducible repeat (first | refine blk_drewN ?_ _ | refine blk_drew ?_ | refine blk_alloc ?_ _)); exact BK1051.out) hb); have n4_ := Aside0.mk (blk_below (g := gb1064) (o := .cells #[.int .i64 t1058, .int .i64 t1059, .slice Ao26 t1060.length co26] 37 (0, 0)) (by (with_reducible repeat (first | refine blk_drewN ?_ _ | refine blk_drew ?_ | refine blk_alloc ?_ _)); exact BK1064.out) hb); have n5_ := Aside0.mk (blk_below (g := gb1070) (o := .cells #[.int .i64 t1065, .int .i64 t1066, .slice Ao33 t1086.length co33] 37 (0, 0)) (by (with_reducible repeat (first | refine blk_drewN ?_ _ | refine blk_drew ?_ | refine blk_alloc ?_ _)); exact BK1070.out) hb); have n6_ := Aside0.mk (blk_below (g := gb1077) (o := .cells #[.int .i64 t1071, .int .i64 t1072, .slice Ao40 t1073.length co40] 37 (0, 0)) (by (with_reducible repeat (first | refine blk_drewN ?_ _ | refine blk_drew ?_ | refine blk_alloc ?_ _)); exact BK1077.out) hb); have n7_ := Aside0.mk (below_step (by repeat (first | (with_reducible first | exact HB.out | apply below_alloc | apply pw_below_drewN | apply below_drew1 | refine below_set ?_ GE1051.out | refine below_set ?_ GE1064.out | refine below_set ?_ GE1070.out | refine below_set ?_ GE1077.out) | exact HB.out)) hb); clear HO_1065002; clear HO_1071002; clear HO_1078002; clear BK1051; clear BK1064; clear BK1070; clear BK1077; clear HB; have HO_1065002 := n0_; have HO_1071002 := n1_; have HO_1078002 := n2_; have BK1051 := n3_; have BK1064 := n4_; have BK1070 := n5_; have BK1077 := n6_; have HB := n7_; clear n0_ n1_ n2_ n3_ n4_ n5_ n6_ n7_; (try clear hb); (try clear hb2); (try clear hk); (try clear hi); have hnb108 := NB1051_1064.out; have hnc108 := NB1064_1051.out; have hnb109 := NB1051_1070.out; have hnc109 := NB1070_1051.out; have hcz110_0 : w107.cell? ⟨gb1051, 0, none⟩ = some (.int .i64 a0_0) := (blk_cell BK1051.out 0).trans rfl; have hcz110_1 : w107.cell? ⟨gb1051, 1, none⟩ = some (.int .i64 a0_1) := (blk_cell BK1051.out 1).trans rfl; have hcz110_2 : w107.cell? ⟨gb1051, 2, none⟩ = some (.slice A0_2 l0_2.length c0_2) := (blk_cell BK1051.out 2).trans rfl; have hfz110_0 := blk_frozen BK1051.out 0; have hfz110_1 := blk_frozen BK1051.out 1; have hfz110_2 := blk_frozen BK1051.out 2) | ((with_reducible refine gate_callee (f := 48) rfl ?_); refine goesL_ (some 91) rfl rfl Try.func48 (by kernel_rfl) rfl #[.agg #[.int .i64 a0_0, .int .i64 a0_1, .slice A0_2 l0_2.length c0_2]] rfl (by (try simp only [List.map_toArray, List.map_cons, List.map_nil]); first | done | rfl | (simp only [List.length_drop, List.length_take]; rfl)) ?_; (with_reducible refine (laws_toPicture.calls kj63 a0_0 a0_1 _ _ l0_2 t1091 t1092 t1093 _ ?side1 ?side2 A98.out).mono ?_); (case side1 => repeat (first | exact (Kd.C_below HR0_2.out HB.out) | (with_reducible refine Kd.C_alloc ?_ _) | (with_reducible refine Kd.C_drewN ?_ _) | (with_reducible refine Kd.C_drew ?_))); (case side2 => exact HC0_2.out); rintro e w111 ⟨v1094, rfl, ho0, hb⟩; refine ⟨_, rfl, ?_⟩; have n0_ := Aside0.mk (Kd.R_elder' (by (with_reducible repeat (first | apply Kd.R_alloc | apply Kd.R_drewN | apply Kd.R_drew)); exact HO_1065002.out) (Kd.R_base ho0) hb); have n1_ := Aside0.mk (Kd.R_elder' (by (with_reducible repeat (first | apply Kd.R_alloc | apply Kd.R_drewN | apply Kd.R_drew)); exact HO_1071002.out) (Kd.R_base ho0) hb); have n2_ := Aside0.mk (Kd.R_elder' (by (with_reducible repeat (first | apply Kd.R_alloc | apply Kd.R_drewN | apply Kd.R_drew)); exact HO_1078002.out) (Kd.R_base ho0) hb); have n3_ := Aside0.mk (Kd.R_lower (Kd.R_new' (Kd.R_new' (Kd.R_new' ho0 (Kd.R_lt (by (with_reducible repeat (first | apply Kd.R_alloc | apply Kd.R_drewN | apply Kd.R_drew)); exact HO_1065002.out))) (Kd.R_lt (by (with_reducible repeat (first | apply Kd.R_alloc | apply Kd.R_drewN | apply Kd.R_drew)); exact HO_1071002.out))) (Kd.R_lt (by (with_reducible repeat (first | apply Kd.R_alloc | apply Kd.R_drewN | apply Kd.R_drew)); exact HO_1078002.out))) (below_size (by repeat (first | (with_reducible first | exact HB.out | apply below_alloc | apply pw_below_drewN | apply below_drew1 | refine below_set ?_ GE1051.out | refine below_set ?_ GE1064.out | refine below_set ?_ GE1070.out | refine below_set ?_ GE1077.out) | exact HB.out)))); have n4_ := Aside0.mk (blk_below (g := gb1051) (o := .cells #[.int .i64 a0_0, .int .i64 a0_1, .slice A0_2 l0_2.length c0_2] 34 (0, 0)) (by (with_reducible repeat (first | refine blk_drewN ?_ _ | refine blk_drew ?_ | refine blk_alloc ?_ _)); exact BK1051.out) hb); have n5_ := Aside0.mk (blk_below (g := gb1064) (o := .cells #[.int .i64 t1058, .int .i64 t1059, .slice Ao26 t1060.length co26] 37 (0, 0)) (by (with_reducible repeat (first | refine blk_drewN ?_ _ | refine blk_drew ?_ | refine blk_alloc ?_ _)); exact BK1064.out) hb); have n6_ := Aside0.mk (blk_below (g := gb1070) (o := .cells #[.int .i64 t1065, .int .i64 t1066, .slice Ao33 t1086.length co33] 37 (0, 0)) (by (with_reducible repeat (first | refine blk_drewN ?_ _ | refine blk_drew ?_ | refine blk_alloc ?_ _)); exact BK1070.out) hb); have n7_ := Aside0.mk (blk_below (g := gb1077) (o := .cells #[.int .i64 t1071, .int .i64 t1072, .slice Ao40 t1073.length co40] 37 (0, 0)) (by (with_reducible repeat (first | refine blk_drewN ?_ _ | refine blk_drew ?_ | refine blk_alloc ?_ _)); exact BK1077.out) hb); have n8_ := Aside0.mk (below_step (by repeat (first | (with_reducible first | exact HB.out | apply below_alloc | apply pw_below_drewN | apply below_drew1 | refine below_set ?_ GE1051.out | refine below_set ?_ GE1064.out | refine below_set ?_ GE1070.out | refine below_set ?_ GE1077.out) | exact HB.out)) hb); clear HO_1065002; clear HO_1071002; clear HO_1078002; clear BK1051; clear BK1064; clear BK1070; clear BK1077; clear HB; have HO_1065002 := n0_; have HO_1071002 := n1_; have HO_1078002 := n2_; have HO1095 := n3_; have BK1051 := n4_; have BK1064 := n5_; have BK1070 := n6_; have BK1077 := n7_; have HB := n8_; clear n0_ n1_ n2_ n3_ n4_ n5_ n6_ n7_ n8_; (try clear hb); (try clear hb2); (try clear hk); (try clear hi); (try clear ho0); obtain ⟨Ao112, co112, eo112⟩ := Kd.R_slice HO1095.out; subst eo112) | ((with_reducible refine gate_callee (f := 84) rfl ?_); refine goesL_ (some 96) rfl rfl Try.func84 (by kernel_rfl) rfl #[.agg #[.int .i64 t1091, .int .i64 t1092, .slice Ao112 t1093.length co112], .int .i64 a1, .int .i64 a2, .int .i64 a3, .int .i64 a4] rfl (by (try simp only [List.map_toArray, List.map_cons, List.map_nil]); first | done | rfl | (simp only [List.length_drop, List.length_take]; rfl)) ?_; (with_reducible refine (impl_CropPicture.calls t1091 t1092 _ _ t1093 a1 a2 a3 a4 t1096 t1097 t1098 t1101 _ ?side1 ?side2 A99.out).mono ?_); (case side1 => repeat (first | exact (Kd.R_reads' HO1095.out).2.2 | (with_reducible refine Kd.C_alloc ?_ _) | (with_reducible refine Kd.C_drewN ?_ _) | (with_reducible refine Kd.C_drew ?_))); (case side2 => exact (Kd.R_reads' HO1095.out).2.1); rintro e w113 ⟨v1099, rfl, ho0, hb⟩; refine ⟨_, rfl, ?_⟩; have n0_ := Aside0.mk (Kd.R_elder' (by (with_reducible repeat (first | apply Kd.R_alloc | apply Kd.R_drewN | apply Kd.R_drew)); exact HO_1065002.out) (Kd.R_base ho0) hb); have n1_ := Aside0.mk (Kd.R_elder' (by (with_reducible repeat (first | apply Kd.R_alloc | apply Kd.R_drewN | apply Kd.R_drew)); exact HO_1071002.out) (Kd.R_base ho0) hb); have n2_ := Aside0.mk (Kd.R_elder' (by (with_reducible repeat (first | apply Kd.R_alloc | apply Kd.R_drewN | apply Kd.R_drew)); exact HO_1078002.out) (Kd.R_base ho0) hb); have n3_ := Aside0.mk (Kd.R_elder' (by (with_reducible repeat (first | apply Kd.R_alloc | apply Kd.R_drewN | apply Kd.R_drew)); exact HO1095.out) (Kd.R_base ho0) hb); have n4_ := Aside0.mk (Kd.R_lower (Kd.R_new' (Kd.R_new' (Kd.R_new' (Kd.R_new' ho0 (Kd.R_lt (by (with_reducible repeat (first | apply Kd.R_alloc | apply Kd.R_drewN | apply Kd.R_drew)); exact HO_1065002.out))) (Kd.R_lt (by (with_reducible repeat (first | apply Kd.R_alloc | apply Kd.R_drewN | apply Kd.R_drew)); exact HO_1071002.out))) (Kd.R_lt (by (with_reducible repeat (first | apply Kd.R_alloc | apply Kd.R_drewN | apply Kd.R_drew)); exact HO_1078002.out))) (Kd.R_lt (by (with_reducible repeat (first | apply Kd.R_alloc | apply Kd.R_drewN | apply Kd.R_drew)); exact HO1095.out))) (below_size (by repeat (first | (with_reducible first | exact HB.out | apply below_alloc | apply pw_below_drewN | apply below_drew1 | refine below_set ?_ GE1051.out | refine below_set ?_ GE1064.out | refine below_set ?_ GE1070.out | refine below_set ?_ GE1077.out) | exact HB.out)))); have n5_ := Aside0.mk (blk_below (g := gb1051) (o := .cells #[.int .i64 a0_0, .int .i64 a0_1, .slice A0_2 l0_2.length c0_2] 34 (0, 0)) (by (with_reducible repeat (first | refine blk_drewN ?_ _ | refine blk_drew ?_ | refine blk_alloc ?_ _)); exact BK1051.out) hb); have n6_ := Aside0.mk (blk_below (g := gb1064) (o := .cells #[.int .i64 t1058, .int .i64 t1059, .slice Ao26 t1060.length co26] 37 (0, 0)) (by (with_reducible repeat (first | refine blk_drewN ?_ _ | refine blk_drew ?_ | refine blk_alloc ?_ _)); exact BK1064.out) hb); have n7_ := Aside0.mk (blk_below (g := gb1070) (o := .cells #[.int .i64 t1065, .int .i64 t1066, .slice Ao33 t1086.length co33] 37 (0, 0)) (by (with_reducible repeat (first | refine blk_drewN ?_ _ | refine blk_drew ?_ | refine blk_alloc ?_ _)); exact BK1070.out) hb); have n8_ := Aside0.mk (blk_below (g := gb1077) (o := .cells #[.int .i64 t1071, .int .i64 t1072, .slice Ao40 t1073.length co40] 37 (0, 0)) (by (with_reducible repeat (first | refine blk_drewN ?_ _ | refine blk_drew ?_ | refine blk_alloc ?_ _)); exact BK1077.out) hb); have n9_ := Aside0.mk (below_step (by repeat (first | (with_reducible first | exact HB.out | apply below_alloc | apply pw_below_drewN | apply below_drew1 | refine below_set ?_ GE1051.out | refine below_set ?_ GE1064.out | refine below_set ?_ GE1070.out | refine below_set ?_ GE1077.out) | exact HB.out)) hb); clear HO_1065002; clear HO_1071002; clear HO_1078002; clear HO1095; clear BK1051; clear BK1064; clear BK1070; clear BK1077; clear HB; have HO_1065002 := n0_; have HO_1071002 := n1_; have HO_1078002 := n2_; have HO1095 := n3_; have HO1100 := n4_; have BK1051 := n5_; have BK1064 := n6_; have BK1070 := n7_; have BK1077 := n8_; have HB := n9_; clear n0_ n1_ n2_ n3_ n4_ n5_ n6_ n7_ n8_ n9_; (try clear hb); (try clear hb2); (try clear hk); (try clear hi); (try clear ho0)) | ((with_reducible refine gate_dst (N := 20) rfl ?_); refine box_event ?hg (N := 20) ?hd (cs := #[.int .i64 0, .int .i64 0, .slice none 0 0]) (t := 37) ?hr ?_; (case hd => rfl); (case hg => rfl); (case hr => first | (go_simp; done) | (go_simp; rfl)); intro gb1102 hg w114 hbox hb; have n0_ := Aside0.mk (Kd.R_below (by (with_reducible repeat (first | apply Kd.R_alloc | apply Kd.R_drewN | apply Kd.R_drew)); exact HO_1065002.out) hb); have n1_ := Aside0.mk (Kd.R_below (by (with_reducible repeat (first | apply Kd.R_alloc | apply Kd.R_drewN | apply Kd.R_drew)); exact HO_1071002.out) hb); have n2_ := Aside0.mk (Kd.R_below (by (with_reducible repeat (first | apply Kd.R_alloc | apply Kd.R_drewN | apply Kd.R_drew)); exact HO_1078002.out) hb); have n3_ := Aside0.mk (Kd.R_below (by (with_reducible repeat (first | apply Kd.R_alloc | apply Kd.R_drewN | apply Kd.R_drew)); exact HO1095.out) hb); have n4_ := Aside0.mk (Kd.R_below (by (with_reducible repeat (first | apply Kd.R_alloc | apply Kd.R_drewN | apply Kd.R_drew)); exact HO1100.out) hb); have n5_ := Aside0.mk (blk_below (g := gb1051) (o := .cells #[.int .i64 a0_0, .int .i64 a0_1, .slice A0_2 l0_2.length c0_2] 34 (0, 0)) (by (with_reducible repeat (first | refine blk_drewN ?_ _ | refine blk_drew ?_ | refine blk_alloc ?_ _)); exact BK1051.out) hb); have n6_ := Aside0.mk (blk_below (g := gb1064) (o := .cells #[.int .i64 t1058, .int .i64 t1059, .slice Ao26 t1060.length co26] 37 (0, 0)) (by (with_reducible repeat (first | refine blk_drewN ?_ _ | refine blk_drew ?_ | refine blk_alloc ?_ _)); exact BK1064.out) hb); have n7_ := Aside0.mk (blk_below (g := gb1070) (o := .cells #[.int .i64 t1065, .int .i64 t1066, .slice Ao33 t1086.length co33] 37 (0, 0)) (by (with_reducible repeat (first | refine blk_drewN ?_ _ | refine blk_drew ?_ | refine blk_alloc ?_ _)); exact BK1070.out) hb); have n8_ := Aside0.mk (blk_below (g := gb1077) (o := .cells #[.int .i64 t1071, .int .i64 t1072, .slice Ao40 t1073.length co40] 37 (0, 0)) (by (with_reducible repeat (first | refine blk_drewN ?_ _ | refine blk_drew ?_ | refine blk_alloc ?_ _)); exact BK1077.out) hb); have n9_ := Aside0.mk (below_step (by repeat (first | (with_reducible first | exact HB.out | apply below_alloc | apply pw_below_drewN | apply below_drew1 | refine below_set ?_ GE1051.out | refine below_set ?_ GE1064.out | refine below_set ?_ GE1070.out | refine below_set ?_ GE1077.out) | exact HB.out)) hb); have n10_ := Aside0.mk (hbox); have n11_ := Aside0.mk ((by rw [hg]; exact (below_size (by repeat (first | (with_reducible first | exact HB.out | apply below_alloc | apply pw_below_drewN | apply below_drew1 | refine below_set ?_ GE1051.out | refine below_set ?_ GE1064.out | refine below_set ?_ GE1070.out | refine below_set ?_ GE1077.out) | exact HB.out))) : w.heap.size ≤ gb1102)); have n12_ := Aside0.mk ((by rw [hg]; exact (below_size (by repeat (first | (with_reducible first | exact HB.out | apply below_alloc | apply pw_below_drewN | apply below_drew1 | refine below_set ?_ GE1051.out | refine below_set ?_ GE1064.out | refine below_set ?_ GE1070.out | refine below_set ?_ GE1077.out) | exact HB.out))) : w.heap.size ≤ gb1102)); have n13_ := Aside0.mk ((by rw [hg]; exact Nat.ne_of_lt (blk_lt (g := gb1051) (o := .cells #[.int .i64 a0_0, .int .i64 a0_1, .slice A0_2 l0_2.length c0_2] 34 (0, 0)) (by (with_reducible repeat (first | refine blk_drewN ?_ _ | refine blk_drew ?_ | refine blk_alloc ?_ _)); exact BK1051.out)) : gb1051 ≠ gb1102)); have n14_ := Aside0.mk ((by rw [hg]; exact Nat.ne_of_gt (blk_lt (g := gb1051) (o := .cells #[.int .i64 a0_0, .int .i64 a0_1, .slice A0_2 l0_2.length c0_2] 34 (0, 0)) (by (with_reducible repeat (first | refine blk_drewN ?_ _ | refine blk_drew ?_ | refine blk_alloc ?_ _)); exact BK1051.out)) : gb1102 ≠ gb1051)); have n15_ := Aside0.mk ((by rw [hg]; exact Nat.ne_of_lt (blk_lt (g := gb1064) (o := .cells #[.int .i64 t1058, .int .i64 t1059, .slice Ao26 t1060.length co26] 37 (0, 0)) (by (with_reducible repeat (first | refine blk_drewN ?_ _ | refine blk_drew ?_ | refine blk_alloc ?_ _)); exact BK1064.out)) : gb1064 ≠ gb1102)); have n16_ := Aside0.mk ((by rw [hg]; exact Nat.ne_of_gt (blk_lt (g := gb1064) (o := .cells #[.int .i64 t1058, .int .i64 t1059, .slice Ao26 t1060.length co26] 37 (0, 0)) (by (with_reducible repeat (first | refine blk_drewN ?_ _ | refine blk_drew ?_ | refine blk_alloc ?_ _)); exact BK1064.out)) : gb1102 ≠ gb1064)); have n17_ := Aside0.mk ((by rw [hg]; exact Nat.ne_of_lt (blk_lt (g := gb1070) (o := .cells #[.int .i64 t1065, .int .i64 t1066, .slice Ao33 t1086.length co33] 37 (0, 0)) (by (with_reducible repeat (first | refine blk_drewN ?_ _ | refine blk_drew ?_ | refine blk_alloc ?_ _)); exact BK1070.out)) : gb1070 ≠ gb1102)); have n18_ := Aside0.mk ((by rw [hg]; exact Nat.ne_of_gt (blk_lt (g := gb1070) (o := .cells #[.int .i64 t1065, .int .i64 t1066, .slice Ao33 t1086.length co33] 37 (0, 0)) (by (with_reducible repeat (first | refine blk_drewN ?_ _ | refine blk_drew ?_ | refine blk_alloc ?_ _)); exact BK1070.out)) : gb1102 ≠ gb1070)); have n19_ := Aside0.mk ((by rw [hg]; exact Nat.ne_of_lt (blk_lt (g := gb1077) (o := .cells #[.int .i64 t1071, .int .i64 t1072, .slice Ao40 t1073.length co40] 37 (0, 0)) (by (with_reducible repeat (first | refine blk_drewN ?_ _ | refine blk_drew ?_ | refine blk_alloc ?_ _)); exact BK1077.out)) : gb1077 ≠ gb1102)); have n20_ := Aside0.mk ((by rw [hg]; exact Nat.ne_of_gt (blk_lt (g := gb1077) (o := .cells #[.int .i64 t1071, .int .i64 t1072, .slice Ao40 t1073.length co40] 37 (0, 0)) (by (with_reducible repeat (first | refine blk_drewN ?_ _ | refine blk_drew ?_ | refine blk_alloc ?_ _)); exact BK1077.out)) : gb1102 ≠ gb1077)); clear HO_1065002; clear HO_1071002; clear HO_1078002; clear HO1095; clear HO1100; clear BK1051; clear BK1064; clear BK1070; clear BK1077; clear HB; have HO_1065002 := n0_; have HO_1071002 := n1_; have HO_1078002 := n2_; have HO1095 := n3_; have HO1100 := n4_; have BK1051 := n5_; have BK1064 := n6_; have BK1070 := n7_; have BK1077 := n8_; have HB := n9_; have BK1102 := n10_; have GW1102 := n11_; have GE1102 := n12_; have NB1051_1102 := n13_; have NB1102_1051 := n14_; have NB1064_1102 := n15_; have NB1102_1064 := n16_; have NB1070_1102 := n17_; have NB1102_1070 := n18_; have NB1077_1102 := n19_; have NB1102_1077 := n20_; clear n0_ n1_ n2_ n3_ n4_ n5_ n6_ n7_ n8_ n9_ n10_ n11_ n12_ n13_ n14_ n15_ n16_ n17_ n18_ n19_ n20_; clear hb hbox hg; have hnb115 := NB1102_1051.out; have hnc115 := NB1051_1102.out; have hnb116 := NB1102_1064.out; have hnc116 := NB1064_1102.out; have hnb117 := NB1102_1070.out; have hnc117 := NB1070_1102.out; have hnb118 := NB1102_1077.out; have hnc118 := NB1077_1102.out; have hcz119_0 : w114.cell? ⟨gb1102, 0, none⟩ = some (.int .i64 0) := (blk_cell BK1102.out 0).trans rfl; have hcz119_1 : w114.cell? ⟨gb1102, 1, none⟩ = some (.int .i64 0) := (blk_cell BK1102.out 1).trans rfl; have hcz119_2 : w114.cell? ⟨gb1102, 2, none⟩ = some (.slice none 0 0) := (blk_cell BK1102.out 2).trans rfl; have hfz119_0 := blk_frozen BK1102.out 0; have hfz119_1 := blk_frozen BK1102.out 1; have hfz119_2 := blk_frozen BK1102.out 2; obtain ⟨Ao120, co120, eo120⟩ := Kd.R_slice HO1100.out; subst eo120))
                      (try simp only [Act.put, List.setIfInBounds_toArray, List.set_cons_zero, List.set_cons_succ])
                      go_cut [107] (fun v107 wc => ∃ (kq : Nat) (x107_99 : Bool), v107 = .bool x107_99 ∧ Aside0 (laws_FnExactCropPicture.j2 kq t1088 x107_99 t1071 t1072 t1089 = some r) ∧ Aside0 (kq ≤ kj63) ∧ Aside0 (Kd.R (Kd.int .i64) 3 wc w.heap.size (fun k_ => some k_ ≠ ((.slice Ao33 t1086.length co33) : Value).ownBlock ∧ some k_ ≠ ((.slice Ao40 t1073.length co40) : Value).ownBlock ∧ some k_ ≠ ((.slice Ao120 t1098.length co120) : Value).ownBlock) (.slice Ao26 t1060.length co26) t1060) ∧ Aside0 (Kd.R (Kd.int .i64) 3 wc w.heap.size (fun k_ => some k_ ≠ ((.slice Ao26 t1060.length co26) : Value).ownBlock ∧ some k_ ≠ ((.slice Ao40 t1073.length co40) : Value).ownBlock ∧ some k_ ≠ ((.slice Ao120 t1098.length co120) : Value).ownBlock) (.slice Ao33 t1086.length co33) t1086) ∧ Aside0 (Kd.R (Kd.int .i64) 3 wc w.heap.size (fun k_ => some k_ ≠ ((.slice Ao26 t1060.length co26) : Value).ownBlock ∧ some k_ ≠ ((.slice Ao33 t1086.length co33) : Value).ownBlock ∧ some k_ ≠ ((.slice Ao120 t1098.length co120) : Value).ownBlock) (.slice Ao40 t1073.length co40) t1089) ∧ Aside0 (Kd.R (Kd.int .i64) 3 wc w.heap.size (fun k_ => some k_ ≠ ((.slice Ao26 t1060.length co26) : Value).ownBlock ∧ some k_ ≠ ((.slice Ao33 t1086.length co33) : Value).ownBlock ∧ some k_ ≠ ((.slice Ao40 t1073.length co40) : Value).ownBlock) (.slice Ao120 t1098.length co120) t1098) ∧ Aside0 (wc.heap[gb1051]? = some (.cells #[.int .i64 a0_0, .int .i64 a0_1, (.slice A0_2 l0_2.length c0_2)] 34 (0, 0))) ∧ Aside0 (wc.heap[gb1064]? = some (.cells #[.int .i64 t1058, .int .i64 t1059, (.slice Ao26 t1060.length co26)] 37 (0, 0))) ∧ Aside0 (wc.heap[gb1070]? = some (.cells #[.int .i64 t1065, .int .i64 t1066, (.slice Ao33 t1086.length co33)] 37 (0, 0))) ∧ Aside0 (wc.heap[gb1077]? = some (.cells #[.int .i64 t1071, .int .i64 t1072, (.slice Ao40 t1073.length co40)] 37 (0, 0))) ∧ Aside0 (wc.heap[gb1102]? = some (.cells #[.int .i64 t1096, .int .i64 t1097, (.slice Ao120 t1098.length co120)] 37 (0, 0))) ∧ Aside0 (Below w.heap.size w wc))
                      case first =>
                        have H := HC100.out
                        clear HC100
                        replace H := Option.bind_eq_some_iff.mp H
                        obtain ⟨t1103, A1210, H⟩ := H
                        replace H : (if t1103 = true then (laws_FnExactCropPicture.j2 kj63 t1088 (t1101 != t1063) t1071 t1072 t1089) else (laws_FnExactCropPicture.j2 kj63 t1088 true t1071 t1072 t1089)) = some r := H
                        have A121 := Aside0.mk A1210
                        clear A1210
                        by_cases c122 : t1103 = true
                        · subst c122
                          have H1 : (laws_FnExactCropPicture.j2 kj63 t1088 (t1101 != t1063) t1071 t1072 t1089) = some r := by rw [if_pos rfl] at H; exact H
                          clear H
                          have H := H1
                          clear H1
                          have H' := Aside0.mk H
                          clear H
                          have hnb123 := NB1102_1051.out
                          have hnc123 := NB1051_1102.out
                          have hnb124 := NB1102_1064.out
                          have hnc124 := NB1064_1102.out
                          have hnb125 := NB1102_1070.out
                          have hnc125 := NB1070_1102.out
                          have hnb126 := NB1102_1077.out
                          have hnc126 := NB1077_1102.out
                          have hcz127_0 : w114.cell? ⟨gb1102, 0, none⟩ = some (.int .i64 0) := (blk_cell BK1102.out 0).trans rfl
                          have hcz127_1 : w114.cell? ⟨gb1102, 1, none⟩ = some (.int .i64 0) := (blk_cell BK1102.out 1).trans rfl
                          have hcz127_2 : w114.cell? ⟨gb1102, 2, none⟩ = some (.slice none 0 0) := (blk_cell BK1102.out 2).trans rfl
                          have hfz127_0 := blk_frozen BK1102.out 0
                          have hfz127_1 := blk_frozen BK1102.out 1
                          have hfz127_2 := blk_frozen BK1102.out 2
                          have hnb128 := NB1064_1051.out
                          have hnc128 := NB1051_1064.out
                          have hnb129 := NB1064_1070.out
                          have hnc129 := NB1070_1064.out
                          have hnb130 := NB1064_1077.out
                          have hnc130 := NB1077_1064.out
                          have hcz131_0 : w114.cell? ⟨gb1064, 0, none⟩ = some (.int .i64 t1058) := (blk_cell BK1064.out 0).trans rfl
                          have hcz131_1 : w114.cell? ⟨gb1064, 1, none⟩ = some (.int .i64 t1059) := (blk_cell BK1064.out 1).trans rfl
                          have hcz131_2 : w114.cell? ⟨gb1064, 2, none⟩ = some (.slice Ao26 t1060.length co26) := (blk_cell BK1064.out 2).trans rfl
                          have hfz131_0 := blk_frozen BK1064.out 0
                          have hfz131_1 := blk_frozen BK1064.out 1
                          have hfz131_2 := blk_frozen BK1064.out 2
                          go_wp2_with (first | ((with_reducible refine gate_callee (f := 50) rfl ?_); refine goesL_ (some 101) rfl rfl Try.func50 (by kernel_rfl) rfl #[.agg #[.int .i64 t1096, .int .i64 t1097, .slice Ao120 t1098.length co120], .agg #[.int .i64 t1058, .int .i64 t1059, .slice Ao26 t1060.length co26]] rfl (by (try simp only [List.map_toArray, List.map_cons, List.map_nil]); first | done | rfl | (simp only [List.length_drop, List.length_take]; rfl)) ?_; (with_reducible refine (laws_eqPicture.calls kj63 t1096 t1097 _ _ t1098 t1058 t1059 _ _ t1060 true _ ?side1 ?side2 ?side3 ?side4 A121.out).mono ?_); (case side1 => refine (Kd.R_reads' (e := 3) (base := w.heap.size) (ok := fun k_ => ((((True ∧ some k_ ≠ (.slice Ao26 t1060.length co26 : Value).ownBlock) ∧ some k_ ≠ (.slice Ao33 t1086.length co33 : Value).ownBlock) ∧ some k_ ≠ (.slice Ao40 t1073.length co40 : Value).ownBlock) ∧ some k_ ≠ (.slice Ao112 t1093.length co112 : Value).ownBlock)) (n := t1098.length) (c := co120) ?_).2.2; exact (by (with_reducible repeat (first | apply Kd.R_alloc | apply Kd.R_drewN | apply Kd.R_drew)); exact (Kd.R_mono (Kd.R_far (p := ⟨gb1102, 2, none⟩) (Kd.R_far (p := ⟨gb1102, 1, none⟩) (Kd.R_far (p := ⟨gb1102, 0, none⟩) (Kd.R_types HO1100.out BK1102.out (by decide)) (fun _ hk => hk.2) (.int .i64 t1096)) (fun _ hk => hk.2) (.int .i64 t1097)) (fun _ hk => hk.2) (.slice Ao120 t1098.length co120)) (fun _ h_ => h_.1)))); (case side2 => exact (Kd.R_reads' HO1100.out).2.1); (case side3 => refine (Kd.R_reads' (e := 3) (base := w.heap.size) (ok := fun k_ => (((some k_ ≠ (.slice Ao33 t1086.length co33 : Value).ownBlock ∧ some k_ ≠ (.slice Ao40 t1073.length co40 : Value).ownBlock) ∧ some k_ ≠ (.slice Ao112 t1093.length co112 : Value).ownBlock) ∧ some k_ ≠ (.slice Ao120 t1098.length co120 : Value).ownBlock)) (n := t1060.length) (c := co26) ?_).2.2; exact (by (with_reducible repeat (first | apply Kd.R_alloc | apply Kd.R_drewN | apply Kd.R_drew)); exact (Kd.R_mono (Kd.R_far (p := ⟨gb1102, 2, none⟩) (Kd.R_far (p := ⟨gb1102, 1, none⟩) (Kd.R_far (p := ⟨gb1102, 0, none⟩) (Kd.R_types HO_1065002.out BK1102.out (by decide)) (fun _ hk => hk.2) (.int .i64 t1096)) (fun _ hk => hk.2) (.int .i64 t1097)) (fun _ hk => hk.2) (.slice Ao120 t1098.length co120)) (fun _ h_ => h_.1)))); (case side4 => exact (Kd.R_reads' HO_1065002.out).2.1); rintro e w132 ⟨rfl, hb⟩; refine ⟨_, rfl, ?_⟩; have n0_ := Aside0.mk (Kd.R_below (by (with_reducible repeat (first | apply Kd.R_alloc | apply Kd.R_drewN | apply Kd.R_drew)); exact (Kd.R_mono (Kd.R_far (p := ⟨gb1102, 2, none⟩) (Kd.R_far (p := ⟨gb1102, 1, none⟩) (Kd.R_far (p := ⟨gb1102, 0, none⟩) (Kd.R_types HO_1065002.out BK1102.out (by decide)) (fun _ hk => hk.2) (.int .i64 t1096)) (fun _ hk => hk.2) (.int .i64 t1097)) (fun _ hk => hk.2) (.slice Ao120 t1098.length co120)) (fun _ h_ => h_.1))) hb); have n1_ := Aside0.mk (Kd.R_below (by (with_reducible repeat (first | apply Kd.R_alloc | apply Kd.R_drewN | apply Kd.R_drew)); exact (Kd.R_mono (Kd.R_far (p := ⟨gb1102, 2, none⟩) (Kd.R_far (p := ⟨gb1102, 1, none⟩) (Kd.R_far (p := ⟨gb1102, 0, none⟩) (Kd.R_types HO_1071002.out BK1102.out (by decide)) (fun _ hk => hk.2) (.int .i64 t1096)) (fun _ hk => hk.2) (.int .i64 t1097)) (fun _ hk => hk.2) (.slice Ao120 t1098.length co120)) (fun _ h_ => h_.1))) hb); have n2_ := Aside0.mk (Kd.R_below (by (with_reducible repeat (first | apply Kd.R_alloc | apply Kd.R_drewN | apply Kd.R_drew)); exact (Kd.R_mono (Kd.R_far (p := ⟨gb1102, 2, none⟩) (Kd.R_far (p := ⟨gb1102, 1, none⟩) (Kd.R_far (p := ⟨gb1102, 0, none⟩) (Kd.R_types HO_1078002.out BK1102.out (by decide)) (fun _ hk => hk.2) (.int .i64 t1096)) (fun _ hk => hk.2) (.int .i64 t1097)) (fun _ hk => hk.2) (.slice Ao120 t1098.length co120)) (fun _ h_ => h_.1))) hb); have n3_ := Aside0.mk (Kd.R_below (by (with_reducible repeat (first | apply Kd.R_alloc | apply Kd.R_drewN | apply Kd.R_drew)); exact (Kd.R_mono (Kd.R_far (p := ⟨gb1102, 2, none⟩) (Kd.R_far (p := ⟨gb1102, 1, none⟩) (Kd.R_far (p := ⟨gb1102, 0, none⟩) (Kd.R_types HO1095.out BK1102.out (by decide)) (fun _ hk => hk.2) (.int .i64 t1096)) (fun _ hk => hk.2) (.int .i64 t1097)) (fun _ hk => hk.2) (.slice Ao120 t1098.length co120)) (fun _ h_ => h_.1))) hb); have n4_ := Aside0.mk (Kd.R_below (by (with_reducible repeat (first | apply Kd.R_alloc | apply Kd.R_drewN | apply Kd.R_drew)); exact (Kd.R_mono (Kd.R_far (p := ⟨gb1102, 2, none⟩) (Kd.R_far (p := ⟨gb1102, 1, none⟩) (Kd.R_far (p := ⟨gb1102, 0, none⟩) (Kd.R_types HO1100.out BK1102.out (by decide)) (fun _ hk => hk.2) (.int .i64 t1096)) (fun _ hk => hk.2) (.int .i64 t1097)) (fun _ hk => hk.2) (.slice Ao120 t1098.length co120)) (fun _ h_ => h_.1))) hb); have n5_ := Aside0.mk (blk_below (g := gb1051) (o := .cells #[.int .i64 a0_0, .int .i64 a0_1, .slice A0_2 l0_2.length c0_2] 34 (0, 0)) (by (with_reducible repeat (first | refine blk_drewN ?_ _ | refine blk_drew ?_ | refine blk_alloc ?_ _)); refine blk_far ?_ NB1051_1102.out _; (with_reducible repeat (first | refine blk_drewN ?_ _ | refine blk_drew ?_ | refine blk_alloc ?_ _)); refine blk_far ?_ NB1051_1102.out _; (with_reducible repeat (first | refine blk_drewN ?_ _ | refine blk_drew ?_ | refine blk_alloc ?_ _)); refine blk_far ?_ NB1051_1102.out _; (with_reducible repeat (first | refine blk_drewN ?_ _ | refine blk_drew ?_ | refine blk_alloc ?_ _)); exact BK1051.out) hb); have n6_ := Aside0.mk (blk_below (g := gb1064) (o := .cells #[.int .i64 t1058, .int .i64 t1059, .slice Ao26 t1060.length co26] 37 (0, 0)) (by (with_reducible repeat (first | refine blk_drewN ?_ _ | refine blk_drew ?_ | refine blk_alloc ?_ _)); refine blk_far ?_ NB1064_1102.out _; (with_reducible repeat (first | refine blk_drewN ?_ _ | refine blk_drew ?_ | refine blk_alloc ?_ _)); refine blk_far ?_ NB1064_1102.out _; (with_reducible repeat (first | refine blk_drewN ?_ _ | refine blk_drew ?_ | refine blk_alloc ?_ _)); refine blk_far ?_ NB1064_1102.out _; (with_reducible repeat (first | refine blk_drewN ?_ _ | refine blk_drew ?_ | refine blk_alloc ?_ _)); exact BK1064.out) hb); have n7_ := Aside0.mk (blk_below (g := gb1070) (o := .cells #[.int .i64 t1065, .int .i64 t1066, .slice Ao33 t1086.length co33] 37 (0, 0)) (by (with_reducible repeat (first | refine blk_drewN ?_ _ | refine blk_drew ?_ | refine blk_alloc ?_ _)); refine blk_far ?_ NB1070_1102.out _; (with_reducible repeat (first | refine blk_drewN ?_ _ | refine blk_drew ?_ | refine blk_alloc ?_ _)); refine blk_far ?_ NB1070_1102.out _; (with_reducible repeat (first | refine blk_drewN ?_ _ | refine blk_drew ?_ | refine blk_alloc ?_ _)); refine blk_far ?_ NB1070_1102.out _; (with_reducible repeat (first | refine blk_drewN ?_ _ | refine blk_drew ?_ | refine blk_alloc ?_ _)); exact BK1070.out) hb); have n8_ := Aside0.mk (blk_below (g := gb1077) (o := .cells #[.int .i64 t1071, .int .i64 t1072, .slice Ao40 t1073.length co40] 37 (0, 0)) (by (with_reducible repeat (first | refine blk_drewN ?_ _ | refine blk_drew ?_ | refine blk_alloc ?_ _)); refine blk_far ?_ NB1077_1102.out _; (with_reducible repeat (first | refine blk_drewN ?_ _ | refine blk_drew ?_ | refine blk_alloc ?_ _)); refine blk_far ?_ NB1077_1102.out _; (with_reducible repeat (first | refine blk_drewN ?_ _ | refine blk_drew ?_ | refine blk_alloc ?_ _)); refine blk_far ?_ NB1077_1102.out _; (with_reducible repeat (first | refine blk_drewN ?_ _ | refine blk_drew ?_ | refine blk_alloc ?_ _)); exact BK1077.out) hb); have n9_ := Aside0.mk (blk_below (g := gb1102) (o := .cells #[.int .i64 t1096, .int .i64 t1097, .slice Ao120 t1098.length co120] 37 (0, 0)) (by (with_reducible repeat (first | refine blk_drewN ?_ _ | refine blk_drew ?_ | refine blk_alloc ?_ _)); refine blk_put (cs := #[.int .i64 t1096, .int .i64 t1097, .slice none 0 0]) ?_ 2 _ rfl; (with_reducible repeat (first | refine blk_drewN ?_ _ | refine blk_drew ?_ | refine blk_alloc ?_ _)); refine blk_put (cs := #[.int .i64 t1096, .int .i64 0, .slice none 0 0]) ?_ 1 _ rfl; (with_reducible repeat (first | refine blk_drewN ?_ _ | refine blk_drew ?_ | refine blk_alloc ?_ _)); refine blk_put (cs := #[.int .i64 0, .int .i64 0, .slice none 0 0]) ?_ 0 _ rfl; (with_reducible repeat (first | refine blk_drewN ?_ _ | refine blk_drew ?_ | refine blk_alloc ?_ _)); exact BK1102.out) hb); have n10_ := Aside0.mk (below_step (by repeat (first | (with_reducible first | exact HB.out | apply below_alloc | apply pw_below_drewN | apply below_drew1 | refine below_set ?_ GE1051.out | refine below_set ?_ GE1064.out | refine below_set ?_ GE1070.out | refine below_set ?_ GE1077.out | refine below_set ?_ GE1102.out) | exact HB.out)) hb); clear HO_1065002; clear HO_1071002; clear HO_1078002; clear HO1095; clear HO1100; clear BK1051; clear BK1064; clear BK1070; clear BK1077; clear BK1102; clear HB; have HO_1065002 := n0_; have HO_1071002 := n1_; have HO_1078002 := n2_; have HO1095 := n3_; have HO1100 := n4_; have BK1051 := n5_; have BK1064 := n6_; have BK1070 := n7_; have BK1077 := n8_; have BK1102 := n9_; have HB := n10_; clear n0_ n1_ n2_ n3_ n4_ n5_ n6_ n7_ n8_ n9_ n10_; (try clear hb); (try clear hb2); (try clear hk); (try clear hi)))
                          go_meet
                          case rel => exact ⟨_, ((t1101 != t1063)), (by first | rfl | (simp; done) | (simp [*]; done)), H', ⟨by have := HJ14.out; have := HJ63.out; first | omega | exact Nat.le_refl _⟩, ⟨by (try simp only [hl1071002_63]); (with_reducible repeat (first | apply Kd.R_alloc | apply Kd.R_drewN | apply Kd.R_drew)); exact Kd.R_mono HO_1065002.out (fun _ hk => ⟨hk.1.1.1, ⟨hk.1.1.2, hk.2⟩⟩)⟩, ⟨by (try simp only [hl1071002_63]); (with_reducible repeat (first | apply Kd.R_alloc | apply Kd.R_drewN | apply Kd.R_drew)); exact Kd.R_mono HO_1071002.out (fun _ hk => ⟨hk.1.1.1, ⟨hk.1.1.2, hk.2⟩⟩)⟩, ⟨by (try simp only [hl1071002_63]); (with_reducible repeat (first | apply Kd.R_alloc | apply Kd.R_drewN | apply Kd.R_drew)); exact Kd.R_mono HO_1078002.out (fun _ hk => ⟨hk.1.1.1, ⟨hk.1.1.2, hk.2⟩⟩)⟩, ⟨by (try simp only [hl1071002_63]); (with_reducible repeat (first | apply Kd.R_alloc | apply Kd.R_drewN | apply Kd.R_drew)); exact Kd.R_mono HO1100.out (fun _ hk => ⟨hk.1.1.1.2, ⟨hk.1.1.2, hk.1.2⟩⟩)⟩, ⟨by (try simp only [hl1071002_63]); (with_reducible repeat (first | refine blk_drewN ?_ _ | refine blk_drew ?_ | refine blk_alloc ?_ _)); exact BK1051.out⟩, ⟨by (try simp only [hl1071002_63]); (with_reducible repeat (first | refine blk_drewN ?_ _ | refine blk_drew ?_ | refine blk_alloc ?_ _)); exact BK1064.out⟩, ⟨by (try simp only [hl1071002_63]); (with_reducible repeat (first | refine blk_drewN ?_ _ | refine blk_drew ?_ | refine blk_alloc ?_ _)); exact BK1070.out⟩, ⟨by (try simp only [hl1071002_63]); (with_reducible repeat (first | refine blk_drewN ?_ _ | refine blk_drew ?_ | refine blk_alloc ?_ _)); exact BK1077.out⟩, ⟨by (try simp only [hl1071002_63]); (with_reducible repeat (first | refine blk_drewN ?_ _ | refine blk_drew ?_ | refine blk_alloc ?_ _)); exact BK1102.out⟩, ⟨by repeat (first | (with_reducible first | exact HB.out | apply below_alloc | apply pw_below_drewN | apply below_drew1 | refine below_set ?_ GE1051.out | refine below_set ?_ GE1064.out | refine below_set ?_ GE1070.out | refine below_set ?_ GE1077.out | refine below_set ?_ GE1102.out) | exact HB.out)⟩⟩
                        · replace c122 := Bool.eq_false_iff.mpr c122
                          subst c122
                          have H1 : (laws_FnExactCropPicture.j2 kj63 t1088 true t1071 t1072 t1089) = some r := by rw [if_neg (show ¬ (false = true) by decide)] at H; exact H
                          clear H
                          have H := H1
                          clear H1
                          have H' := Aside0.mk H
                          clear H
                          have hnb133 := NB1102_1051.out
                          have hnc133 := NB1051_1102.out
                          have hnb134 := NB1102_1064.out
                          have hnc134 := NB1064_1102.out
                          have hnb135 := NB1102_1070.out
                          have hnc135 := NB1070_1102.out
                          have hnb136 := NB1102_1077.out
                          have hnc136 := NB1077_1102.out
                          have hcz137_0 : w114.cell? ⟨gb1102, 0, none⟩ = some (.int .i64 0) := (blk_cell BK1102.out 0).trans rfl
                          have hcz137_1 : w114.cell? ⟨gb1102, 1, none⟩ = some (.int .i64 0) := (blk_cell BK1102.out 1).trans rfl
                          have hcz137_2 : w114.cell? ⟨gb1102, 2, none⟩ = some (.slice none 0 0) := (blk_cell BK1102.out 2).trans rfl
                          have hfz137_0 := blk_frozen BK1102.out 0
                          have hfz137_1 := blk_frozen BK1102.out 1
                          have hfz137_2 := blk_frozen BK1102.out 2
                          have hnb138 := NB1064_1051.out
                          have hnc138 := NB1051_1064.out
                          have hnb139 := NB1064_1070.out
                          have hnc139 := NB1070_1064.out
                          have hnb140 := NB1064_1077.out
                          have hnc140 := NB1077_1064.out
                          have hcz141_0 : w114.cell? ⟨gb1064, 0, none⟩ = some (.int .i64 t1058) := (blk_cell BK1064.out 0).trans rfl
                          have hcz141_1 : w114.cell? ⟨gb1064, 1, none⟩ = some (.int .i64 t1059) := (blk_cell BK1064.out 1).trans rfl
                          have hcz141_2 : w114.cell? ⟨gb1064, 2, none⟩ = some (.slice Ao26 t1060.length co26) := (blk_cell BK1064.out 2).trans rfl
                          have hfz141_0 := blk_frozen BK1064.out 0
                          have hfz141_1 := blk_frozen BK1064.out 1
                          have hfz141_2 := blk_frozen BK1064.out 2
                          go_wp2_with (first | ((with_reducible refine gate_callee (f := 50) rfl ?_); refine goesL_ (some 101) rfl rfl Try.func50 (by kernel_rfl) rfl #[.agg #[.int .i64 t1096, .int .i64 t1097, .slice Ao120 t1098.length co120], .agg #[.int .i64 t1058, .int .i64 t1059, .slice Ao26 t1060.length co26]] rfl (by (try simp only [List.map_toArray, List.map_cons, List.map_nil]); first | done | rfl | (simp only [List.length_drop, List.length_take]; rfl)) ?_; (with_reducible refine (laws_eqPicture.calls kj63 t1096 t1097 _ _ t1098 t1058 t1059 _ _ t1060 false _ ?side1 ?side2 ?side3 ?side4 A121.out).mono ?_); (case side1 => refine (Kd.R_reads' (e := 3) (base := w.heap.size) (ok := fun k_ => ((((True ∧ some k_ ≠ (.slice Ao26 t1060.length co26 : Value).ownBlock) ∧ some k_ ≠ (.slice Ao33 t1086.length co33 : Value).ownBlock) ∧ some k_ ≠ (.slice Ao40 t1073.length co40 : Value).ownBlock) ∧ some k_ ≠ (.slice Ao112 t1093.length co112 : Value).ownBlock)) (n := t1098.length) (c := co120) ?_).2.2; exact (by (with_reducible repeat (first | apply Kd.R_alloc | apply Kd.R_drewN | apply Kd.R_drew)); exact (Kd.R_mono (Kd.R_far (p := ⟨gb1102, 2, none⟩) (Kd.R_far (p := ⟨gb1102, 1, none⟩) (Kd.R_far (p := ⟨gb1102, 0, none⟩) (Kd.R_types HO1100.out BK1102.out (by decide)) (fun _ hk => hk.2) (.int .i64 t1096)) (fun _ hk => hk.2) (.int .i64 t1097)) (fun _ hk => hk.2) (.slice Ao120 t1098.length co120)) (fun _ h_ => h_.1)))); (case side2 => exact (Kd.R_reads' HO1100.out).2.1); (case side3 => refine (Kd.R_reads' (e := 3) (base := w.heap.size) (ok := fun k_ => (((some k_ ≠ (.slice Ao33 t1086.length co33 : Value).ownBlock ∧ some k_ ≠ (.slice Ao40 t1073.length co40 : Value).ownBlock) ∧ some k_ ≠ (.slice Ao112 t1093.length co112 : Value).ownBlock) ∧ some k_ ≠ (.slice Ao120 t1098.length co120 : Value).ownBlock)) (n := t1060.length) (c := co26) ?_).2.2; exact (by (with_reducible repeat (first | apply Kd.R_alloc | apply Kd.R_drewN | apply Kd.R_drew)); exact (Kd.R_mono (Kd.R_far (p := ⟨gb1102, 2, none⟩) (Kd.R_far (p := ⟨gb1102, 1, none⟩) (Kd.R_far (p := ⟨gb1102, 0, none⟩) (Kd.R_types HO_1065002.out BK1102.out (by decide)) (fun _ hk => hk.2) (.int .i64 t1096)) (fun _ hk => hk.2) (.int .i64 t1097)) (fun _ hk => hk.2) (.slice Ao120 t1098.length co120)) (fun _ h_ => h_.1)))); (case side4 => exact (Kd.R_reads' HO_1065002.out).2.1); rintro e w142 ⟨rfl, hb⟩; refine ⟨_, rfl, ?_⟩; have n0_ := Aside0.mk (Kd.R_below (by (with_reducible repeat (first | apply Kd.R_alloc | apply Kd.R_drewN | apply Kd.R_drew)); exact (Kd.R_mono (Kd.R_far (p := ⟨gb1102, 2, none⟩) (Kd.R_far (p := ⟨gb1102, 1, none⟩) (Kd.R_far (p := ⟨gb1102, 0, none⟩) (Kd.R_types HO_1065002.out BK1102.out (by decide)) (fun _ hk => hk.2) (.int .i64 t1096)) (fun _ hk => hk.2) (.int .i64 t1097)) (fun _ hk => hk.2) (.slice Ao120 t1098.length co120)) (fun _ h_ => h_.1))) hb); have n1_ := Aside0.mk (Kd.R_below (by (with_reducible repeat (first | apply Kd.R_alloc | apply Kd.R_drewN | apply Kd.R_drew)); exact (Kd.R_mono (Kd.R_far (p := ⟨gb1102, 2, none⟩) (Kd.R_far (p := ⟨gb1102, 1, none⟩) (Kd.R_far (p := ⟨gb1102, 0, none⟩) (Kd.R_types HO_1071002.out BK1102.out (by decide)) (fun _ hk => hk.2) (.int .i64 t1096)) (fun _ hk => hk.2) (.int .i64 t1097)) (fun _ hk => hk.2) (.slice Ao120 t1098.length co120)) (fun _ h_ => h_.1))) hb); have n2_ := Aside0.mk (Kd.R_below (by (with_reducible repeat (first | apply Kd.R_alloc | apply Kd.R_drewN | apply Kd.R_drew)); exact (Kd.R_mono (Kd.R_far (p := ⟨gb1102, 2, none⟩) (Kd.R_far (p := ⟨gb1102, 1, none⟩) (Kd.R_far (p := ⟨gb1102, 0, none⟩) (Kd.R_types HO_1078002.out BK1102.out (by decide)) (fun _ hk => hk.2) (.int .i64 t1096)) (fun _ hk => hk.2) (.int .i64 t1097)) (fun _ hk => hk.2) (.slice Ao120 t1098.length co120)) (fun _ h_ => h_.1))) hb); have n3_ := Aside0.mk (Kd.R_below (by (with_reducible repeat (first | apply Kd.R_alloc | apply Kd.R_drewN | apply Kd.R_drew)); exact (Kd.R_mono (Kd.R_far (p := ⟨gb1102, 2, none⟩) (Kd.R_far (p := ⟨gb1102, 1, none⟩) (Kd.R_far (p := ⟨gb1102, 0, none⟩) (Kd.R_types HO1095.out BK1102.out (by decide)) (fun _ hk => hk.2) (.int .i64 t1096)) (fun _ hk => hk.2) (.int .i64 t1097)) (fun _ hk => hk.2) (.slice Ao120 t1098.length co120)) (fun _ h_ => h_.1))) hb); have n4_ := Aside0.mk (Kd.R_below (by (with_reducible repeat (first | apply Kd.R_alloc | apply Kd.R_drewN | apply Kd.R_drew)); exact (Kd.R_mono (Kd.R_far (p := ⟨gb1102, 2, none⟩) (Kd.R_far (p := ⟨gb1102, 1, none⟩) (Kd.R_far (p := ⟨gb1102, 0, none⟩) (Kd.R_types HO1100.out BK1102.out (by decide)) (fun _ hk => hk.2) (.int .i64 t1096)) (fun _ hk => hk.2) (.int .i64 t1097)) (fun _ hk => hk.2) (.slice Ao120 t1098.length co120)) (fun _ h_ => h_.1))) hb); have n5_ := Aside0.mk (blk_below (g := gb1051) (o := .cells #[.int .i64 a0_0, .int .i64 a0_1, .slice A0_2 l0_2.length c0_2] 34 (0, 0)) (by (with_reducible repeat (first | refine blk_drewN ?_ _ | refine blk_drew ?_ | refine blk_alloc ?_ _)); refine blk_far ?_ NB1051_1102.out _; (with_reducible repeat (first | refine blk_drewN ?_ _ | refine blk_drew ?_ | refine blk_alloc ?_ _)); refine blk_far ?_ NB1051_1102.out _; (with_reducible repeat (first | refine blk_drewN ?_ _ | refine blk_drew ?_ | refine blk_alloc ?_ _)); refine blk_far ?_ NB1051_1102.out _; (with_reducible repeat (first | refine blk_drewN ?_ _ | refine blk_drew ?_ | refine blk_alloc ?_ _)); exact BK1051.out) hb); have n6_ := Aside0.mk (blk_below (g := gb1064) (o := .cells #[.int .i64 t1058, .int .i64 t1059, .slice Ao26 t1060.length co26] 37 (0, 0)) (by (with_reducible repeat (first | refine blk_drewN ?_ _ | refine blk_drew ?_ | refine blk_alloc ?_ _)); refine blk_far ?_ NB1064_1102.out _; (with_reducible repeat (first | refine blk_drewN ?_ _ | refine blk_drew ?_ | refine blk_alloc ?_ _)); refine blk_far ?_ NB1064_1102.out _; (with_reducible repeat (first | refine blk_drewN ?_ _ | refine blk_drew ?_ | refine blk_alloc ?_ _)); refine blk_far ?_ NB1064_1102.out _; (with_reducible repeat (first | refine blk_drewN ?_ _ | refine blk_drew ?_ | refine blk_alloc ?_ _)); exact BK1064.out) hb); have n7_ := Aside0.mk (blk_below (g := gb1070) (o := .cells #[.int .i64 t1065, .int .i64 t1066, .slice Ao33 t1086.length co33] 37 (0, 0)) (by (with_reducible repeat (first | refine blk_drewN ?_ _ | refine blk_drew ?_ | refine blk_alloc ?_ _)); refine blk_far ?_ NB1070_1102.out _; (with_reducible repeat (first | refine blk_drewN ?_ _ | refine blk_drew ?_ | refine blk_alloc ?_ _)); refine blk_far ?_ NB1070_1102.out _; (with_reducible repeat (first | refine blk_drewN ?_ _ | refine blk_drew ?_ | refine blk_alloc ?_ _)); refine blk_far ?_ NB1070_1102.out _; (with_reducible repeat (first | refine blk_drewN ?_ _ | refine blk_drew ?_ | refine blk_alloc ?_ _)); exact BK1070.out) hb); have n8_ := Aside0.mk (blk_below (g := gb1077) (o := .cells #[.int .i64 t1071, .int .i64 t1072, .slice Ao40 t1073.length co40] 37 (0, 0)) (by (with_reducible repeat (first | refine blk_drewN ?_ _ | refine blk_drew ?_ | refine blk_alloc ?_ _)); refine blk_far ?_ NB1077_1102.out _; (with_reducible repeat (first | refine blk_drewN ?_ _ | refine blk_drew ?_ | refine blk_alloc ?_ _)); refine blk_far ?_ NB1077_1102.out _; (with_reducible repeat (first | refine blk_drewN ?_ _ | refine blk_drew ?_ | refine blk_alloc ?_ _)); refine blk_far ?_ NB1077_1102.out _; (with_reducible repeat (first | refine blk_drewN ?_ _ | refine blk_drew ?_ | refine blk_alloc ?_ _)); exact BK1077.out) hb); have n9_ := Aside0.mk (blk_below (g := gb1102) (o := .cells #[.int .i64 t1096, .int .i64 t1097, .slice Ao120 t1098.length co120] 37 (0, 0)) (by (with_reducible repeat (first | refine blk_drewN ?_ _ | refine blk_drew ?_ | refine blk_alloc ?_ _)); refine blk_put (cs := #[.int .i64 t1096, .int .i64 t1097, .slice none 0 0]) ?_ 2 _ rfl; (with_reducible repeat (first | refine blk_drewN ?_ _ | refine blk_drew ?_ | refine blk_alloc ?_ _)); refine blk_put (cs := #[.int .i64 t1096, .int .i64 0, .slice none 0 0]) ?_ 1 _ rfl; (with_reducible repeat (first | refine blk_drewN ?_ _ | refine blk_drew ?_ | refine blk_alloc ?_ _)); refine blk_put (cs := #[.int .i64 0, .int .i64 0, .slice none 0 0]) ?_ 0 _ rfl; (with_reducible repeat (first | refine blk_drewN ?_ _ | refine blk_drew ?_ | refine blk_alloc ?_ _)); exact BK1102.out) hb); have n10_ := Aside0.mk (below_step (by repeat (first | (with_reducible first | exact HB.out | apply below_alloc | apply pw_below_drewN | apply below_drew1 | refine below_set ?_ GE1051.out | refine below_set ?_ GE1064.out | refine below_set ?_ GE1070.out | refine below_set ?_ GE1077.out | refine below_set ?_ GE1102.out) | exact HB.out)) hb); clear HO_1065002; clear HO_1071002; clear HO_1078002; clear HO1095; clear HO1100; clear BK1051; clear BK1064; clear BK1070; clear BK1077; clear BK1102; clear HB; have HO_1065002 := n0_; have HO_1071002 := n1_; have HO_1078002 := n2_; have HO1095 := n3_; have HO1100 := n4_; have BK1051 := n5_; have BK1064 := n6_; have BK1070 := n7_; have BK1077 := n8_; have BK1102 := n9_; have HB := n10_; clear n0_ n1_ n2_ n3_ n4_ n5_ n6_ n7_ n8_ n9_ n10_; (try clear hb); (try clear hb2); (try clear hk); (try clear hi)))
                          go_meet
                          case rel => exact ⟨_, (true), (by first | rfl | (simp; done) | (simp [*]; done)), H', ⟨by have := HJ14.out; have := HJ63.out; first | omega | exact Nat.le_refl _⟩, ⟨by (try simp only [hl1071002_63]); (with_reducible repeat (first | apply Kd.R_alloc | apply Kd.R_drewN | apply Kd.R_drew)); exact Kd.R_mono HO_1065002.out (fun _ hk => ⟨hk.1.1.1, ⟨hk.1.1.2, hk.2⟩⟩)⟩, ⟨by (try simp only [hl1071002_63]); (with_reducible repeat (first | apply Kd.R_alloc | apply Kd.R_drewN | apply Kd.R_drew)); exact Kd.R_mono HO_1071002.out (fun _ hk => ⟨hk.1.1.1, ⟨hk.1.1.2, hk.2⟩⟩)⟩, ⟨by (try simp only [hl1071002_63]); (with_reducible repeat (first | apply Kd.R_alloc | apply Kd.R_drewN | apply Kd.R_drew)); exact Kd.R_mono HO_1078002.out (fun _ hk => ⟨hk.1.1.1, ⟨hk.1.1.2, hk.2⟩⟩)⟩, ⟨by (try simp only [hl1071002_63]); (with_reducible repeat (first | apply Kd.R_alloc | apply Kd.R_drewN | apply Kd.R_drew)); exact Kd.R_mono HO1100.out (fun _ hk => ⟨hk.1.1.1.2, ⟨hk.1.1.2, hk.1.2⟩⟩)⟩, ⟨by (try simp only [hl1071002_63]); (with_reducible repeat (first | refine blk_drewN ?_ _ | refine blk_drew ?_ | refine blk_alloc ?_ _)); exact BK1051.out⟩, ⟨by (try simp only [hl1071002_63]); (with_reducible repeat (first | refine blk_drewN ?_ _ | refine blk_drew ?_ | refine blk_alloc ?_ _)); exact BK1064.out⟩, ⟨by (try simp only [hl1071002_63]); (with_reducible repeat (first | refine blk_drewN ?_ _ | refine blk_drew ?_ | refine blk_alloc ?_ _)); exact BK1070.out⟩, ⟨by (try simp only [hl1071002_63]); (with_reducible repeat (first | refine blk_drewN ?_ _ | refine blk_drew ?_ | refine blk_alloc ?_ _)); exact BK1077.out⟩, ⟨by (try simp only [hl1071002_63]); (with_reducible repeat (first | refine blk_drewN ?_ _ | refine blk_drew ?_ | refine blk_alloc ?_ _)); exact BK1102.out⟩, ⟨by repeat (first | (with_reducible first | exact HB.out | apply below_alloc | apply pw_below_drewN | apply below_drew1 | refine below_set ?_ GE1051.out | refine below_set ?_ GE1064.out | refine below_set ?_ GE1070.out | refine below_set ?_ GE1077.out | refine below_set ?_ GE1102.out) | exact HB.out)⟩⟩
                      case rest =>
                        clear HC100
                        try clear c1
                        try clear c2
                        try clear p2
                        try clear c3
                        try clear c4
                        try clear c5
                        try clear c6
                        try clear c7
                        try clear c7b0
                        try clear c8
                        try clear c9
                        try clear c10
                        try clear c11
                        try clear c12
                        try clear c13
                        try clear c14
                        try clear c24
                        try clear c30
                        try clear c31
                        try clear c36
                        try clear c37
                        try clear c38
                        try clear c42
                        try clear c43
                        try clear c44
                        try clear c45
                        try clear c46
                        try clear c47
                        try clear c48
                        try clear c50
                        try clear c51
                        try clear c52
                        try clear c53
                        try clear c55
                        try clear c56
                        try clear c58
                        try clear c59
                        try clear c62
                        try clear c69
                        try clear c70
                        try clear c71
                        try clear c74
                        try clear c74b0
                        try clear c76
                        try clear c77
                        try clear c78
                        try clear c79
                        try clear c81
                        try clear c82
                        try clear c84
                        try clear c85
                        try clear c86
                        try clear c87
                        try clear c89
                        try clear c90
                        try clear c93
                        try clear c96
                        try clear c96b0
                        try clear c97
                        try clear c97b0
                        try clear c97b1
                        try clear c101
                        try clear c102
                        try clear c103
                        try clear c108
                        try clear c109
                        try clear c115
                        try clear c116
                        try clear c117
                        try clear c118
                        try clear c122
                        try clear c123
                        try clear c124
                        try clear c125
                        try clear c126
                        try clear c128
                        try clear c129
                        try clear c130
                        try clear c133
                        try clear c134
                        try clear c135
                        try clear c136
                        try clear c138
                        try clear c139
                        try clear c140
                        try clear hcz104_0
                        try clear hcz104_1
                        try clear hcz104_2
                        try clear hcz106_0
                        try clear hcz106_1
                        try clear hcz106_2
                        try clear hcz110_0
                        try clear hcz110_1
                        try clear hcz110_2
                        try clear hcz119_0
                        try clear hcz119_1
                        try clear hcz119_2
                        try clear hcz127_0
                        try clear hcz127_1
                        try clear hcz127_2
                        try clear hcz131_0
                        try clear hcz131_1
                        try clear hcz131_2
                        try clear hcz137_0
                        try clear hcz137_1
                        try clear hcz137_2
                        try clear hcz141_0
                        try clear hcz141_1
                        try clear hcz141_2
                        try clear hcz17_0
                        try clear hcz17_1
                        try clear hcz17_2
                        try clear hcz19_0
                        try clear hcz19_1
                        try clear hcz19_2
                        try clear hcz25_0
                        try clear hcz25_1
                        try clear hcz25_2
                        try clear hcz27_0
                        try clear hcz27_1
                        try clear hcz27_2
                        try clear hcz32_0
                        try clear hcz32_1
                        try clear hcz32_2
                        try clear hcz39_0
                        try clear hcz39_1
                        try clear hcz39_2
                        try clear hcz46_0
                        try clear hcz46_1
                        try clear hcz46_2
                        try clear hcz49_0
                        try clear hcz49_1
                        try clear hcz49_2
                        try clear hcz54_0
                        try clear hcz54_1
                        try clear hcz54_2
                        try clear hcz57_0
                        try clear hcz57_1
                        try clear hcz57_2
                        try clear hcz72_0
                        try clear hcz72_1
                        try clear hcz72_2
                        try clear hcz80_0
                        try clear hcz80_1
                        try clear hcz80_2
                        try clear hcz83_0
                        try clear hcz83_1
                        try clear hcz83_2
                        try clear hcz88_0
                        try clear hcz88_1
                        try clear hcz88_2
                        try clear hcz91_0
                        try clear hcz91_1
                        try clear hcz91_2
                        try clear hcz9_0
                        try clear hcz9_1
                        try clear hcz9_2
                        try clear hfz104_0
                        try clear hfz104_1
                        try clear hfz104_2
                        try clear hfz106_0
                        try clear hfz106_1
                        try clear hfz106_2
                        try clear hfz110_0
                        try clear hfz110_1
                        try clear hfz110_2
                        try clear hfz119_0
                        try clear hfz119_1
                        try clear hfz119_2
                        try clear hfz127_0
                        try clear hfz127_1
                        try clear hfz127_2
                        try clear hfz131_0
                        try clear hfz131_1
                        try clear hfz131_2
                        try clear hfz137_0
                        try clear hfz137_1
                        try clear hfz137_2
                        try clear hfz141_0
                        try clear hfz141_1
                        try clear hfz141_2
                        try clear hfz17_0
                        try clear hfz17_1
                        try clear hfz17_2
                        try clear hfz19_0
                        try clear hfz19_1
                        try clear hfz19_2
                        try clear hfz25_0
                        try clear hfz25_1
                        try clear hfz25_2
                        try clear hfz27_0
                        try clear hfz27_1
                        try clear hfz27_2
                        try clear hfz32_0
                        try clear hfz32_1
                        try clear hfz32_2
                        try clear hfz39_0
                        try clear hfz39_1
                        try clear hfz39_2
                        try clear hfz46_0
                        try clear hfz46_1
                        try clear hfz46_2
                        try clear hfz49_0
                        try clear hfz49_1
                        try clear hfz49_2
                        try clear hfz54_0
                        try clear hfz54_1
                        try clear hfz54_2
                        try clear hfz57_0
                        try clear hfz57_1
                        try clear hfz57_2
                        try clear hfz72_0
                        try clear hfz72_1
                        try clear hfz72_2
                        try clear hfz80_0
                        try clear hfz80_1
                        try clear hfz80_2
                        try clear hfz83_0
                        try clear hfz83_1
                        try clear hfz83_2
                        try clear hfz88_0
                        try clear hfz88_1
                        try clear hfz88_2
                        try clear hfz91_0
                        try clear hfz91_1
                        try clear hfz91_2
                        try clear hfz9_0
                        try clear hfz9_1
                        try clear hfz9_2
                        try clear p2
                        obtain ⟨kq, x107_99, rfl, HA, HJ99, HO_1065002, HO_1071002, HO_1078002, HO_1103002, BK1051, BK1064, BK1070, BK1077, BK1102, HB⟩ := hcut
                        have hl1078002_99 := (Kd.R_reads' HO_1078002.out).1
                        rw [hl1078002_99] at HO_1078002
                        (try simp only [hl1078002_99])
                        (try simp only [hl1078002_99] at BK1051)
                        (try simp only [hl1078002_99] at BK1064)
                        (try simp only [hl1078002_99] at BK1070)
                        (try simp only [hl1078002_99] at BK1077)
                        (try simp only [hl1078002_99] at BK1102)
                        (try simp only [hl1078002_99] at HO_1065002)
                        (try simp only [hl1078002_99] at HO_1071002)
                        (try simp only [hl1078002_99] at HO_1103002)
                        cases kq with
                        | zero => exact absurd HA.out (by simp [laws_FnExactCropPicture.j2])
                        | succ kj99 =>
                          have H := HA.out
                          clear HA
                          simp only [laws_FnExactCropPicture.j2] at H
                          by_cases c143 : x107_99 = true
                          · subst c143
                            have H1 : (some false) = some r := by rw [if_pos rfl] at H; exact H
                            clear H
                            have H := H1
                            clear H1
                            exact absurd ((Option.some.inj H).trans hT.out) (by decide)
                          · replace c143 := Bool.eq_false_iff.mpr c143
                            subst c143
                            have H1 : ((laws_heldPicture.f kj99 t1071 t1072 t1089 1).bind fun t1104 => (if t1104 < 0 then (some false) else (if t1104 = t1088 then (some true) else (some false)))) = some r := by rw [if_neg (show ¬ (false = true) by decide)] at H; exact H
                            clear H
                            have H := H1
                            clear H1
                            replace H := Option.bind_eq_some_iff.mp H
                            obtain ⟨t1104, A1440, H⟩ := H
                            replace H : (if t1104 < 0 then (some false) else (if t1104 = t1088 then (some true) else (some false))) = some r := H
                            have A144 := Aside0.mk A1440
                            clear A1440
                            by_cases c145 : t1104 < 0
                            · rw [if_pos c145] at H
                              have c145b0 : decide (t1104 < 0) = true := decide_eq_true c145
                              clear c145
                              exact absurd ((Option.some.inj H).trans hT.out) (by decide)
                            · rw [if_neg c145] at H
                              have c145b0 : decide (t1104 < 0) = false := decide_eq_false c145
                              clear c145
                              by_cases c146 : t1104 = t1088
                              · rw [if_pos c146] at H
                                have c146b0 : (t1104 == t1088) = true := beq_iff_eq.mpr c146
                                have c146b1 : (t1104 != t1088) = false := bne_eq_false_iff_eq.mpr c146
                                clear c146
                                obtain rfl := Option.some.inj H
                                have hnb147 := NB1077_1051.out
                                have hnc147 := NB1051_1077.out
                                have hnb148 := NB1077_1064.out
                                have hnc148 := NB1064_1077.out
                                have hnb149 := NB1077_1070.out
                                have hnc149 := NB1070_1077.out
                                have hnb150 := NB1077_1102.out
                                have hnc150 := NB1102_1077.out
                                have hcz151_0 : wc.cell? ⟨gb1077, 0, none⟩ = some (.int .i64 t1071) := (blk_cell BK1077.out 0).trans rfl
                                have hcz151_1 : wc.cell? ⟨gb1077, 1, none⟩ = some (.int .i64 t1072) := (blk_cell BK1077.out 1).trans rfl
                                have hcz151_2 : wc.cell? ⟨gb1077, 2, none⟩ = some (.slice Ao40 t1089.length co40) := (blk_cell BK1077.out 2).trans rfl
                                have hfz151_0 := blk_frozen BK1077.out 0
                                have hfz151_1 := blk_frozen BK1077.out 1
                                have hfz151_2 := blk_frozen BK1077.out 2
                                go_wp2_with (first | ((with_reducible refine gate_callee (f := 59) rfl ?_); refine goesL_ (some 110) rfl rfl Try.func59 (by kernel_rfl) rfl #[.agg #[.int .i64 t1071, .int .i64 t1072, .slice Ao40 t1089.length co40], .int .i64 1] rfl (by (try simp only [List.map_toArray, List.map_cons, List.map_nil]); first | done | rfl | (simp only [List.length_drop, List.length_take]; rfl)) ?_; (with_reducible refine (laws_heldPicture.calls kj99 t1071 t1072 _ _ t1089 1 t1104 _ ?side1 ?side2 A144.out).mono ?_); (case side1 => repeat (first | exact (Kd.R_reads' HO_1078002.out).2.2 | (with_reducible refine Kd.C_alloc ?_ _) | (with_reducible refine Kd.C_drewN ?_ _) | (with_reducible refine Kd.C_drew ?_))); (case side2 => exact (Kd.R_reads' HO_1078002.out).2.1); rintro e w152 ⟨rfl, hb⟩; refine ⟨_, rfl, ?_⟩; have n0_ := Aside0.mk (Kd.R_below (by (with_reducible repeat (first | apply Kd.R_alloc | apply Kd.R_drewN | apply Kd.R_drew)); exact HO_1065002.out) hb); have n1_ := Aside0.mk (Kd.R_below (by (with_reducible repeat (first | apply Kd.R_alloc | apply Kd.R_drewN | apply Kd.R_drew)); exact HO_1071002.out) hb); have n2_ := Aside0.mk (Kd.R_below (by (with_reducible repeat (first | apply Kd.R_alloc | apply Kd.R_drewN | apply Kd.R_drew)); exact HO_1078002.out) hb); have n3_ := Aside0.mk (Kd.R_below (by (with_reducible repeat (first | apply Kd.R_alloc | apply Kd.R_drewN | apply Kd.R_drew)); exact HO_1103002.out) hb); have n4_ := Aside0.mk (blk_below (g := gb1051) (o := .cells #[.int .i64 a0_0, .int .i64 a0_1, .slice A0_2 l0_2.length c0_2] 34 (0, 0)) (by (with_reducible repeat (first | refine blk_drewN ?_ _ | refine blk_drew ?_ | refine blk_alloc ?_ _)); exact BK1051.out) hb); have n5_ := Aside0.mk (blk_below (g := gb1064) (o := .cells #[.int .i64 t1058, .int .i64 t1059, .slice Ao26 t1060.length co26] 37 (0, 0)) (by (with_reducible repeat (first | refine blk_drewN ?_ _ | refine blk_drew ?_ | refine blk_alloc ?_ _)); exact BK1064.out) hb); have n6_ := Aside0.mk (blk_below (g := gb1070) (o := .cells #[.int .i64 t1065, .int .i64 t1066, .slice Ao33 t1086.length co33] 37 (0, 0)) (by (with_reducible repeat (first | refine blk_drewN ?_ _ | refine blk_drew ?_ | refine blk_alloc ?_ _)); exact BK1070.out) hb); have n7_ := Aside0.mk (blk_below (g := gb1077) (o := .cells #[.int .i64 t1071, .int .i64 t1072, .slice Ao40 t1089.length co40] 37 (0, 0)) (by (with_reducible repeat (first | refine blk_drewN ?_ _ | refine blk_drew ?_ | refine blk_alloc ?_ _)); exact BK1077.out) hb); have n8_ := Aside0.mk (blk_below (g := gb1102) (o := .cells #[.int .i64 t1096, .int .i64 t1097, .slice Ao120 t1098.length co120] 37 (0, 0)) (by (with_reducible repeat (first | refine blk_drewN ?_ _ | refine blk_drew ?_ | refine blk_alloc ?_ _)); exact BK1102.out) hb); have n9_ := Aside0.mk (below_step (by repeat (first | (with_reducible first | exact HB.out | apply below_alloc | apply pw_below_drewN | apply below_drew1 | refine below_set ?_ GE1051.out | refine below_set ?_ GE1064.out | refine below_set ?_ GE1070.out | refine below_set ?_ GE1077.out | refine below_set ?_ GE1102.out) | exact HB.out)) hb); clear HO_1065002; clear HO_1071002; clear HO_1078002; clear HO_1103002; clear BK1051; clear BK1064; clear BK1070; clear BK1077; clear BK1102; clear HB; have HO_1065002 := n0_; have HO_1071002 := n1_; have HO_1078002 := n2_; have HO_1103002 := n3_; have BK1051 := n4_; have BK1064 := n5_; have BK1070 := n6_; have BK1077 := n7_; have BK1102 := n8_; have HB := n9_; clear n0_ n1_ n2_ n3_ n4_ n5_ n6_ n7_ n8_ n9_; (try clear hb); (try clear hb2); (try clear hk); (try clear hi)))
                                go_ret
                                exact ⟨by first | rfl | (simp [errW_none, errW_some] <;> rfl) | (simp [*, errW_none, errW_some] <;> rfl), by repeat (first | (with_reducible first | exact HB.out | apply below_alloc | apply pw_below_drewN | apply below_drew1 | refine below_set ?_ GE1051.out | refine below_set ?_ GE1064.out | refine below_set ?_ GE1070.out | refine below_set ?_ GE1077.out | refine below_set ?_ GE1102.out) | exact HB.out)⟩
                              · rw [if_neg c146] at H
                                have c146b0 : (t1104 == t1088) = false := beq_eq_false_iff_ne.mpr c146
                                have c146b1 : (t1104 != t1088) = true := bne_iff_ne.mpr c146
                                exact absurd ((Option.some.inj H).trans hT.out) (by decide)
                    · rw [if_neg c97] at H
                      have c97b0 : (t1090 == t1088) = false := beq_eq_false_iff_ne.mpr c97
                      have c97b1 : (t1090 != t1088) = true := bne_iff_ne.mpr c97
                      exact absurd ((Option.some.inj H).trans hT.out) (by decide)
          · replace c62 := Bool.eq_false_iff.mpr c62
            subst c62
            have H1 : (some false) = some r := by rw [if_neg (show ¬ (false = true) by decide)] at H; exact H
            clear H
            have H := H1
            clear H1
            exact absurd ((Option.some.inj H).trans hT.out) (by decide)

end Go.Proofs.Ytbgbbfdmgpcgmaa.P
