-- Written by tools/seatprint.py (over the kit's print, changed in memory). Not trusted: Lean checks it.
import Derived.Test.YtbgbbfdmgpcgmaaP0
import Derived.Test.YtbgbbfdmgpcgmaaFlawsszPicture
import Derived.Test.YtbgbbfdmgpcgmaaFlawstoPicture
import Derived.Test.YtbgbbfdmgpcgmaaFlawseqPicture
import Derived.Test.YtbgbbfdmgpcgmaaFlawsmarkPicture
import Derived.Test.YtbgbbfdmgpcgmaaFlawsheldPicture
import Derived.Test.YtbgbbfdmgpcgmaaFimplTilePicture
import Derived.Test.YtbgbbfdmgpcgmaaFspecTilePicture
namespace Go.Proofs.Ytbgbbfdmgpcgmaa.P
open Go.RowKit Go.Proofs.YtbgbbfdmgpcgmaaW.PrintWords Go.Proofs.YtbgbbfdmgpcgmaaW.PrintLast Go.Proofs.YtbgbbfdmgpcgmaaW.PrintMore
attribute [local go_sem] max2_int min2_int max_two min_two max_three min_three max_four min_four   -- for this text's walks alone
set_option linter.unusedVariables false
set_option linter.unusedSimpArgs false

/-! ### laws_FnExactTilePicture: function 26 -/
mutual
def laws_FnExactTilePicture.j0 : Nat → Int → Int → Bool → Bool → Bool → Int → Int → List Int → Int → Int → List Int → Int → Int → List Int → Int → Int → List Int → Option (Bool)
  | 0, _, _, _, _, _, _, _, _, _, _, _, _, _, _, _, _, _ => none
  | k + 1, x1, x2, x9, x12, x48, x1180000, x1180001, x1180002, x1193000, x1193001, x1193002, x1199000, x1199001, x1199002, x1206000, x1206001, x1206002 => if x48 = true then (some false) else ((laws_toPicture.f k x1180000 x1180001 x1180002).bind fun bt1207 => ((laws_eqPicture.f k x1199000 x1199001 x1199002 bt1207.1 bt1207.2.1 bt1207.2.2).bind fun t1212 => (if t1212 = true then ((laws_markPicture.f k x1199000 x1199001 x1199002 1).bind fun bt1213 => (if bt1213.1 < 0 then (laws_FnExactTilePicture.j1 k x1 x2 x9 true x1180000 x1180001 x1180002 x1193000 x1193001 x1193002 x1206000 x1206001 x1206002) else ((laws_eqPicture.f k x1206000 x1206001 x1206002 x1193000 x1193001 x1193002).bind fun t1215 => (if t1215 = true then (laws_FnExactTilePicture.j1 k x1 x2 x9 (x12 != x9) x1180000 x1180001 x1180002 x1193000 x1193001 x1193002 x1206000 x1206001 x1206002) else (laws_FnExactTilePicture.j1 k x1 x2 x9 true x1180000 x1180001 x1180002 x1193000 x1193001 x1193002 x1206000 x1206001 x1206002))))) else (some false))))
def laws_FnExactTilePicture.j1 : Nat → Int → Int → Bool → Bool → Int → Int → List Int → Int → Int → List Int → Int → Int → List Int → Option (Bool)
  | 0, _, _, _, _, _, _, _, _, _, _, _, _, _ => none
  | k + 1, x1, x2, x9, x69, x1180000, x1180001, x1180002, x1193000, x1193001, x1193002, x1206000, x1206001, x1206002 => if x69 = true then (some false) else ((laws_markPicture.f k x1206000 x1206001 x1206002 1).bind fun bt1216 => ((laws_heldPicture.f k x1206000 x1206001 bt1216.2 1).bind fun t1218 => (if t1218 < 0 then (some false) else (if t1218 = bt1216.1 then ((laws_toPicture.f k x1180000 x1180001 x1180002).bind fun bt1219 => ((impl_TilePicture.f bt1219.1 bt1219.2.1 bt1219.2.2 x1 x2).bind fun bt1224 => ((laws_eqPicture.f k bt1224.1 bt1224.2.1 bt1224.2.2.1 x1193000 x1193001 x1193002).bind fun t1231 => (if t1231 = true then (laws_FnExactTilePicture.j2 k bt1216.1 (bt1224.2.2.2 != x9) x1206000 x1206001 bt1216.2) else (laws_FnExactTilePicture.j2 k bt1216.1 true x1206000 x1206001 bt1216.2))))) else (some false)))))
def laws_FnExactTilePicture.j2 : Nat → Int → Bool → Int → Int → List Int → Option (Bool)
  | 0, _, _, _, _, _ => none
  | k + 1, x14, x97, x1206000, x1206001, x1206002 => if x97 = true then (some false) else ((laws_heldPicture.f k x1206000 x1206001 x1206002 1).bind fun t1232 => (if t1232 < 0 then (some false) else (if t1232 = x14 then (some true) else (some false))))
end
def laws_FnExactTilePicture.f (k : Nat) (a0_0 : Int) (a0_1 : Int) (l0_2 : List Int) (a1 : Int) (a2 : Int) : Option (Bool) := (laws_szPicture.f a0_0 a0_1 l0_2 1048576).bind fun t1180 => (if t1180 < 0 then (some true) else ((laws_toPicture.f k a0_0 a0_1 l0_2).bind fun bt1181 => ((spec_TilePicture.f k bt1181.1 bt1181.2.1 bt1181.2.2 a1 a2).bind fun bt1186 => ((laws_toPicture.f k a0_0 a0_1 l0_2).bind fun bt1193 => ((impl_TilePicture.f bt1193.1 bt1193.2.1 bt1193.2.2 a1 a2).bind fun bt1199 => ((laws_eqPicture.f k bt1199.1 bt1199.2.1 bt1199.2.2.1 bt1186.1 bt1186.2.1 bt1186.2.2.1).bind fun t1206 => (if t1206 = true then (laws_FnExactTilePicture.j0 k a1 a2 bt1186.2.2.2 bt1199.2.2.2 (bt1199.2.2.2 != bt1186.2.2.2) a0_0 a0_1 l0_2 bt1186.1 bt1186.2.1 bt1186.2.2.1 bt1193.1 bt1193.2.1 bt1193.2.2 bt1199.1 bt1199.2.1 bt1199.2.2.1) else (laws_FnExactTilePicture.j0 k a1 a2 bt1186.2.2.2 bt1199.2.2.2 true a0_0 a0_1 l0_2 bt1186.1 bt1186.2.1 bt1186.2.2.1 bt1193.1 bt1193.2.1 bt1193.2.2 bt1199.1 bt1199.2.1 bt1199.2.2.1))))))))
theorem laws_FnExactTilePicture.mono_l : ∀ k, (∀ y0 y1 y2 y3 y4 y5 y6 y7 y8 y9 y10 y11 y12 y13 y14 y15 y16, LeO (laws_FnExactTilePicture.j0 k y0 y1 y2 y3 y4 y5 y6 y7 y8 y9 y10 y11 y12 y13 y14 y15 y16) (laws_FnExactTilePicture.j0 (k + 1) y0 y1 y2 y3 y4 y5 y6 y7 y8 y9 y10 y11 y12 y13 y14 y15 y16)) ∧ (∀ y0 y1 y2 y3 y4 y5 y6 y7 y8 y9 y10 y11 y12, LeO (laws_FnExactTilePicture.j1 k y0 y1 y2 y3 y4 y5 y6 y7 y8 y9 y10 y11 y12) (laws_FnExactTilePicture.j1 (k + 1) y0 y1 y2 y3 y4 y5 y6 y7 y8 y9 y10 y11 y12)) ∧ (∀ y0 y1 y2 y3 y4, LeO (laws_FnExactTilePicture.j2 k y0 y1 y2 y3 y4) (laws_FnExactTilePicture.j2 (k + 1) y0 y1 y2 y3 y4))
  | 0 => ⟨fun _ _ _ _ _ _ _ _ _ _ _ _ _ _ _ _ _ r h => by simp [laws_FnExactTilePicture.j0] at h, fun _ _ _ _ _ _ _ _ _ _ _ _ _ r h => by simp [laws_FnExactTilePicture.j1] at h, fun _ _ _ _ _ r h => by simp [laws_FnExactTilePicture.j2] at h⟩
  | k + 1 => by
    obtain ⟨ih0, ih1, ih2⟩ := laws_FnExactTilePicture.mono_l k
    refine ⟨?_, ?_, ?_⟩
    · intro y0 y1 y2 y3 y4 y5 y6 y7 y8 y9 y10 y11 y12 y13 y14 y15 y16
      unfold laws_FnExactTilePicture.j0
      repeat' first
      | (with_reducible exact ih0 _ _ _ _ _ _ _ _ _ _ _ _ _ _ _ _ _)
      | (with_reducible exact ih1 _ _ _ _ _ _ _ _ _ _ _ _ _)
      | (with_reducible exact ih2 _ _ _ _ _)
      | (with_reducible exact laws_eqPicture.mono _ _ _ _ _ _ _)
      | (with_reducible exact laws_heldPicture.mono _ _ _ _ _)
      | (with_reducible exact laws_markPicture.mono _ _ _ _ _)
      | (with_reducible exact laws_toPicture.mono _ _ _ _)
      | (with_reducible exact spec_TilePicture.mono _ _ _ _ _ _)
      | (with_reducible exact LeO.refl _)
      | (with_reducible exact LeO.none _)
      | (with_reducible refine LeO.ite ?_ ?_)
      | (with_reducible refine LeO.bind ?_ (fun _ => ?_))
      | exact ih0 _ _ _ _ _ _ _ _ _ _ _ _ _ _ _ _ _
      | exact ih1 _ _ _ _ _ _ _ _ _ _ _ _ _
      | exact ih2 _ _ _ _ _
      | exact laws_eqPicture.mono _ _ _ _ _ _ _
      | exact laws_heldPicture.mono _ _ _ _ _
      | exact laws_markPicture.mono _ _ _ _ _
      | exact laws_toPicture.mono _ _ _ _
      | exact spec_TilePicture.mono _ _ _ _ _ _
      | exact LeO.none _
      | refine LeO.ite ?_ ?_
      | refine LeO.bind ?_ (fun _ => ?_)
    · intro y0 y1 y2 y3 y4 y5 y6 y7 y8 y9 y10 y11 y12
      unfold laws_FnExactTilePicture.j1
      repeat' first
      | (with_reducible exact ih0 _ _ _ _ _ _ _ _ _ _ _ _ _ _ _ _ _)
      | (with_reducible exact ih1 _ _ _ _ _ _ _ _ _ _ _ _ _)
      | (with_reducible exact ih2 _ _ _ _ _)
      | (with_reducible exact laws_eqPicture.mono _ _ _ _ _ _ _)
      | (with_reducible exact laws_heldPicture.mono _ _ _ _ _)
      | (with_reducible exact laws_markPicture.mono _ _ _ _ _)
      | (with_reducible exact laws_toPicture.mono _ _ _ _)
      | (with_reducible exact spec_TilePicture.mono _ _ _ _ _ _)
      | (with_reducible exact LeO.refl _)
      | (with_reducible exact LeO.none _)
      | (with_reducible refine LeO.ite ?_ ?_)
      | (with_reducible refine LeO.bind ?_ (fun _ => ?_))
      | exact ih0 _ _ _ _ _ _ _ _ _ _ _ _ _ _ _ _ _
      | exact ih1 _ _ _ _ _ _ _ _ _ _ _ _ _
      | exact ih2 _ _ _ _ _
      | exact laws_eqPicture.mono _ _ _ _ _ _ _
      | exact laws_heldPicture.mono _ _ _ _ _
      | exact laws_markPicture.mono _ _ _ _ _
      | exact laws_toPicture.mono _ _ _ _
      | exact spec_TilePicture.mono _ _ _ _ _ _
      | exact LeO.none _
      | refine LeO.ite ?_ ?_
      | refine LeO.bind ?_ (fun _ => ?_)
    · intro y0 y1 y2 y3 y4
      unfold laws_FnExactTilePicture.j2
      repeat' first
      | (with_reducible exact ih0 _ _ _ _ _ _ _ _ _ _ _ _ _ _ _ _ _)
      | (with_reducible exact ih1 _ _ _ _ _ _ _ _ _ _ _ _ _)
      | (with_reducible exact ih2 _ _ _ _ _)
      | (with_reducible exact laws_eqPicture.mono _ _ _ _ _ _ _)
      | (with_reducible exact laws_heldPicture.mono _ _ _ _ _)
      | (with_reducible exact laws_markPicture.mono _ _ _ _ _)
      | (with_reducible exact laws_toPicture.mono _ _ _ _)
      | (with_reducible exact spec_TilePicture.mono _ _ _ _ _ _)
      | (with_reducible exact LeO.refl _)
      | (with_reducible exact LeO.none _)
      | (with_reducible refine LeO.ite ?_ ?_)
      | (with_reducible refine LeO.bind ?_ (fun _ => ?_))
      | exact ih0 _ _ _ _ _ _ _ _ _ _ _ _ _ _ _ _ _
      | exact ih1 _ _ _ _ _ _ _ _ _ _ _ _ _
      | exact ih2 _ _ _ _ _
      | exact laws_eqPicture.mono _ _ _ _ _ _ _
      | exact laws_heldPicture.mono _ _ _ _ _
      | exact laws_markPicture.mono _ _ _ _ _
      | exact laws_toPicture.mono _ _ _ _
      | exact spec_TilePicture.mono _ _ _ _ _ _
      | exact LeO.none _
      | refine LeO.ite ?_ ?_
      | refine LeO.bind ?_ (fun _ => ?_)
theorem laws_FnExactTilePicture.mono : ∀ a0 a1 a2 a3 a4 k, LeO (laws_FnExactTilePicture.f k a0 a1 a2 a3 a4) (laws_FnExactTilePicture.f (k + 1) a0 a1 a2 a3 a4) := by
  intro a0 a1 a2 a3 a4 k
  obtain ⟨ih0, ih1, ih2⟩ := laws_FnExactTilePicture.mono_l k
  unfold laws_FnExactTilePicture.f
  repeat' first
      | (with_reducible exact ih0 _ _ _ _ _ _ _ _ _ _ _ _ _ _ _ _ _)
      | (with_reducible exact ih1 _ _ _ _ _ _ _ _ _ _ _ _ _)
      | (with_reducible exact ih2 _ _ _ _ _)
      | (with_reducible exact laws_eqPicture.mono _ _ _ _ _ _ _)
      | (with_reducible exact laws_heldPicture.mono _ _ _ _ _)
      | (with_reducible exact laws_markPicture.mono _ _ _ _ _)
      | (with_reducible exact laws_toPicture.mono _ _ _ _)
      | (with_reducible exact spec_TilePicture.mono _ _ _ _ _ _)
      | (with_reducible exact LeO.refl _)
      | (with_reducible exact LeO.none _)
      | (with_reducible refine LeO.ite ?_ ?_)
      | (with_reducible refine LeO.bind ?_ (fun _ => ?_))
      | exact ih0 _ _ _ _ _ _ _ _ _ _ _ _ _ _ _ _ _
      | exact ih1 _ _ _ _ _ _ _ _ _ _ _ _ _
      | exact ih2 _ _ _ _ _
      | exact laws_eqPicture.mono _ _ _ _ _ _ _
      | exact laws_heldPicture.mono _ _ _ _ _
      | exact laws_markPicture.mono _ _ _ _ _
      | exact laws_toPicture.mono _ _ _ _
      | exact spec_TilePicture.mono _ _ _ _ _ _
      | exact LeO.none _
      | refine LeO.ite ?_ ?_
      | refine LeO.bind ?_ (fun _ => ?_)
set_option maxHeartbeats 8000000 in
set_option maxRecDepth 100000 in
theorem laws_FnExactTilePicture.calls (k : Nat) (a0_0 : Int) (a0_1 : Int) (A0_2 : Option Addr) (c0_2 : Nat) (l0_2 : List Int) (a1 : Int) (a2 : Int) (r : Bool) (w : World) (hr0_2 : Kd.C (Kd.int .i64) w A0_2 l0_2.length l0_2) (hc0_2 : l0_2.length ≤ c0_2) (hT : Aside0 (r = true)) (h : laws_FnExactTilePicture.f k a0_0 a0_1 l0_2 a1 a2 = some r) :
    Calls Try.prog 26 #[.agg #[.int .i64 a0_0, .int .i64 a0_1, .slice A0_2 l0_2.length c0_2], .int .i64 a1, .int .i64 a2] w fun e w' => e = .returned (.bool r) ∧ Below w.heap.size w w' := by
  have hu34 := Try.underlying34
  have hu37 := Try.underlying37
  have HR0_2 := Aside0.mk hr0_2
  have HC0_2 := Aside0.mk hc0_2
  clear hr0_2 hc0_2
  have HB := Aside0.mk (Below.refl w.heap.size w)
  have H : ((laws_szPicture.f a0_0 a0_1 l0_2 1048576).bind fun t1180 => (if t1180 < 0 then (some true) else ((laws_toPicture.f k a0_0 a0_1 l0_2).bind fun bt1181 => ((spec_TilePicture.f k bt1181.1 bt1181.2.1 bt1181.2.2 a1 a2).bind fun bt1186 => ((laws_toPicture.f k a0_0 a0_1 l0_2).bind fun bt1193 => ((impl_TilePicture.f bt1193.1 bt1193.2.1 bt1193.2.2 a1 a2).bind fun bt1199 => ((laws_eqPicture.f k bt1199.1 bt1199.2.1 bt1199.2.2.1 bt1186.1 bt1186.2.1 bt1186.2.2.1).bind fun t1206 => (if t1206 = true then (laws_FnExactTilePicture.j0 k a1 a2 bt1186.2.2.2 bt1199.2.2.2 (bt1199.2.2.2 != bt1186.2.2.2) a0_0 a0_1 l0_2 bt1186.1 bt1186.2.1 bt1186.2.2.1 bt1193.1 bt1193.2.1 bt1193.2.2 bt1199.1 bt1199.2.1 bt1199.2.2.1) else (laws_FnExactTilePicture.j0 k a1 a2 bt1186.2.2.2 bt1199.2.2.2 true a0_0 a0_1 l0_2 bt1186.1 bt1186.2.1 bt1186.2.2.1 bt1193.1 bt1193.2.1 bt1193.2.2 bt1199.1 bt1199.2.1 bt1199.2.2.1))))))))) = some r := h
  clear h
  replace H := Option.bind_eq_some_iff.mp H
  obtain ⟨t1180, A40, H⟩ := H
  replace H : (if t1180 < 0 then (some true) else ((laws_toPicture.f k a0_0 a0_1 l0_2).bind fun bt1181 => ((spec_TilePicture.f k bt1181.1 bt1181.2.1 bt1181.2.2 a1 a2).bind fun bt1186 => ((laws_toPicture.f k a0_0 a0_1 l0_2).bind fun bt1193 => ((impl_TilePicture.f bt1193.1 bt1193.2.1 bt1193.2.2 a1 a2).bind fun bt1199 => ((laws_eqPicture.f k bt1199.1 bt1199.2.1 bt1199.2.2.1 bt1186.1 bt1186.2.1 bt1186.2.2.1).bind fun t1206 => (if t1206 = true then (laws_FnExactTilePicture.j0 k a1 a2 bt1186.2.2.2 bt1199.2.2.2 (bt1199.2.2.2 != bt1186.2.2.2) a0_0 a0_1 l0_2 bt1186.1 bt1186.2.1 bt1186.2.2.1 bt1193.1 bt1193.2.1 bt1193.2.2 bt1199.1 bt1199.2.1 bt1199.2.2.1) else (laws_FnExactTilePicture.j0 k a1 a2 bt1186.2.2.2 bt1199.2.2.2 true a0_0 a0_1 l0_2 bt1186.1 bt1186.2.1 bt1186.2.2.1 bt1193.1 bt1193.2.1 bt1193.2.2 bt1199.1 bt1199.2.1 bt1199.2.2.1)))))))) = some r := H
  have A4 := Aside0.mk A40
  clear A40
  by_cases c5 : t1180 < 0
  · rw [if_pos c5] at H
    have c5b0 : decide (t1180 < 0) = true := decide_eq_true c5
    clear c5
    obtain rfl := Option.some.inj H
    go_enter Try.func26, Try.ntmps26
    go_wp2_with (first | ((with_reducible refine gate_dst (N := 3) rfl ?_); refine box_event ?hg (N := 3) ?hd (cs := #[.int .i64 a0_0, .int .i64 a0_1, .slice A0_2 l0_2.length c0_2]) (t := 34) ?hr ?_; (case hd => rfl); (case hg => rfl); (case hr => first | (go_simp; done) | (go_simp; rfl)); intro gb1179 hg w6 hbox hb; have n0_ := Aside0.mk (below_step (by repeat (first | (with_reducible first | exact HB.out | apply below_alloc | apply pw_below_drewN | apply below_drew1) | exact HB.out)) hb); have n1_ := Aside0.mk (hbox); have n2_ := Aside0.mk ((by rw [hg]; exact (below_size (by repeat (first | (with_reducible first | exact HB.out | apply below_alloc | apply pw_below_drewN | apply below_drew1) | exact HB.out))) : w.heap.size ≤ gb1179)); have n3_ := Aside0.mk ((by rw [hg]; exact (below_size (by repeat (first | (with_reducible first | exact HB.out | apply below_alloc | apply pw_below_drewN | apply below_drew1) | exact HB.out))) : w.heap.size ≤ gb1179)); clear HB; have HB := n0_; have BK1179 := n1_; have GW1179 := n2_; have GE1179 := n3_; clear n0_ n1_ n2_ n3_; clear hb hbox hg; have hcz7_0 : w6.cell? ⟨gb1179, 0, none⟩ = some (.int .i64 a0_0) := (blk_cell BK1179.out 0).trans rfl; have hcz7_1 : w6.cell? ⟨gb1179, 1, none⟩ = some (.int .i64 a0_1) := (blk_cell BK1179.out 1).trans rfl; have hcz7_2 : w6.cell? ⟨gb1179, 2, none⟩ = some (.slice A0_2 l0_2.length c0_2) := (blk_cell BK1179.out 2).trans rfl; have hfz7_0 := blk_frozen BK1179.out 0; have hfz7_1 := blk_frozen BK1179.out 1; have hfz7_2 := blk_frozen BK1179.out 2) | ((with_reducible refine gate_callee (f := 46) rfl ?_); refine goesL_ (some 20) rfl rfl Try.func46 (by kernel_rfl) rfl #[.agg #[.int .i64 a0_0, .int .i64 a0_1, .slice A0_2 l0_2.length c0_2], .int .i64 1048576] rfl (by (try simp only [List.map_toArray, List.map_cons, List.map_nil]); first | done | rfl | (simp only [List.length_drop, List.length_take]; rfl)) ?_; (with_reducible refine (laws_szPicture.calls a0_0 a0_1 _ _ l0_2 1048576 t1180 _ ?side1 ?side2 A4.out).mono ?_); (case side1 => repeat (first | exact (Kd.C_below HR0_2.out HB.out) | (with_reducible refine Kd.C_alloc ?_ _) | (with_reducible refine Kd.C_drewN ?_ _) | (with_reducible refine Kd.C_drew ?_))); (case side2 => exact HC0_2.out); rintro e w8 ⟨rfl, hb⟩; refine ⟨_, rfl, ?_⟩; have n0_ := Aside0.mk (blk_below (g := gb1179) (o := .cells #[.int .i64 a0_0, .int .i64 a0_1, .slice A0_2 l0_2.length c0_2] 34 (0, 0)) (by (with_reducible repeat (first | refine blk_drewN ?_ _ | refine blk_drew ?_ | refine blk_alloc ?_ _)); exact BK1179.out) hb); have n1_ := Aside0.mk (below_step (by repeat (first | (with_reducible first | exact HB.out | apply below_alloc | apply pw_below_drewN | apply below_drew1 | refine below_set ?_ GE1179.out) | exact HB.out)) hb); clear BK1179; clear HB; have BK1179 := n0_; have HB := n1_; clear n0_ n1_; (try clear hb); (try clear hb2); (try clear hk); (try clear hi)))
    go_ret
    exact ⟨by first | rfl | (simp [errW_none, errW_some] <;> rfl) | (simp [*, errW_none, errW_some] <;> rfl), by repeat (first | (with_reducible first | exact HB.out | apply below_alloc | apply pw_below_drewN | apply below_drew1 | refine below_set ?_ GE1179.out) | exact HB.out)⟩
  · rw [if_neg c5] at H
    have c5b0 : decide (t1180 < 0) = false := decide_eq_false c5
    clear c5
    replace H := Option.bind_eq_some_iff.mp H
    obtain ⟨⟨t1181, t1182, t1183⟩, A90, H⟩ := H
    replace H : ((spec_TilePicture.f k t1181 t1182 t1183 a1 a2).bind fun bt1186 => ((laws_toPicture.f k a0_0 a0_1 l0_2).bind fun bt1193 => ((impl_TilePicture.f bt1193.1 bt1193.2.1 bt1193.2.2 a1 a2).bind fun bt1199 => ((laws_eqPicture.f k bt1199.1 bt1199.2.1 bt1199.2.2.1 bt1186.1 bt1186.2.1 bt1186.2.2.1).bind fun t1206 => (if t1206 = true then (laws_FnExactTilePicture.j0 k a1 a2 bt1186.2.2.2 bt1199.2.2.2 (bt1199.2.2.2 != bt1186.2.2.2) a0_0 a0_1 l0_2 bt1186.1 bt1186.2.1 bt1186.2.2.1 bt1193.1 bt1193.2.1 bt1193.2.2 bt1199.1 bt1199.2.1 bt1199.2.2.1) else (laws_FnExactTilePicture.j0 k a1 a2 bt1186.2.2.2 bt1199.2.2.2 true a0_0 a0_1 l0_2 bt1186.1 bt1186.2.1 bt1186.2.2.1 bt1193.1 bt1193.2.1 bt1193.2.2 bt1199.1 bt1199.2.1 bt1199.2.2.1)))))) = some r := H
    have A9 := Aside0.mk A90
    clear A90
    replace H := Option.bind_eq_some_iff.mp H
    obtain ⟨⟨t1186, t1187, t1188, t1191⟩, A100, H⟩ := H
    replace H : ((laws_toPicture.f k a0_0 a0_1 l0_2).bind fun bt1193 => ((impl_TilePicture.f bt1193.1 bt1193.2.1 bt1193.2.2 a1 a2).bind fun bt1199 => ((laws_eqPicture.f k bt1199.1 bt1199.2.1 bt1199.2.2.1 t1186 t1187 t1188).bind fun t1206 => (if t1206 = true then (laws_FnExactTilePicture.j0 k a1 a2 t1191 bt1199.2.2.2 (bt1199.2.2.2 != t1191) a0_0 a0_1 l0_2 t1186 t1187 t1188 bt1193.1 bt1193.2.1 bt1193.2.2 bt1199.1 bt1199.2.1 bt1199.2.2.1) else (laws_FnExactTilePicture.j0 k a1 a2 t1191 bt1199.2.2.2 true a0_0 a0_1 l0_2 t1186 t1187 t1188 bt1193.1 bt1193.2.1 bt1193.2.2 bt1199.1 bt1199.2.1 bt1199.2.2.1))))) = some r := H
    have A10 := Aside0.mk A100
    clear A100
    replace H := Option.bind_eq_some_iff.mp H
    obtain ⟨⟨t1193, t1194, t1195⟩, A110, H⟩ := H
    replace H : ((impl_TilePicture.f t1193 t1194 t1195 a1 a2).bind fun bt1199 => ((laws_eqPicture.f k bt1199.1 bt1199.2.1 bt1199.2.2.1 t1186 t1187 t1188).bind fun t1206 => (if t1206 = true then (laws_FnExactTilePicture.j0 k a1 a2 t1191 bt1199.2.2.2 (bt1199.2.2.2 != t1191) a0_0 a0_1 l0_2 t1186 t1187 t1188 t1193 t1194 t1195 bt1199.1 bt1199.2.1 bt1199.2.2.1) else (laws_FnExactTilePicture.j0 k a1 a2 t1191 bt1199.2.2.2 true a0_0 a0_1 l0_2 t1186 t1187 t1188 t1193 t1194 t1195 bt1199.1 bt1199.2.1 bt1199.2.2.1)))) = some r := H
    have A11 := Aside0.mk A110
    clear A110
    replace H := Option.bind_eq_some_iff.mp H
    obtain ⟨⟨t1199, t1200, t1201, t1204⟩, A120, H⟩ := H
    replace H : ((laws_eqPicture.f k t1199 t1200 t1201 t1186 t1187 t1188).bind fun t1206 => (if t1206 = true then (laws_FnExactTilePicture.j0 k a1 a2 t1191 t1204 (t1204 != t1191) a0_0 a0_1 l0_2 t1186 t1187 t1188 t1193 t1194 t1195 t1199 t1200 t1201) else (laws_FnExactTilePicture.j0 k a1 a2 t1191 t1204 true a0_0 a0_1 l0_2 t1186 t1187 t1188 t1193 t1194 t1195 t1199 t1200 t1201))) = some r := H
    have A12 := Aside0.mk A120
    clear A120
    have HC13 := Aside0.mk H
    clear H
    go_enter Try.func26, Try.ntmps26
    go_upto_region 8 with (first | ((with_reducible refine gate_dst (N := 3) rfl ?_); refine box_event ?hg (N := 3) ?hd (cs := #[.int .i64 a0_0, .int .i64 a0_1, .slice A0_2 l0_2.length c0_2]) (t := 34) ?hr ?_; (case hd => rfl); (case hg => rfl); (case hr => first | (go_simp; done) | (go_simp; rfl)); intro gb1179 hg w14 hbox hb; have n0_ := Aside0.mk (below_step (by repeat (first | (with_reducible first | exact HB.out | apply below_alloc | apply pw_below_drewN | apply below_drew1) | exact HB.out)) hb); have n1_ := Aside0.mk (hbox); have n2_ := Aside0.mk ((by rw [hg]; exact (below_size (by repeat (first | (with_reducible first | exact HB.out | apply below_alloc | apply pw_below_drewN | apply below_drew1) | exact HB.out))) : w.heap.size ≤ gb1179)); have n3_ := Aside0.mk ((by rw [hg]; exact (below_size (by repeat (first | (with_reducible first | exact HB.out | apply below_alloc | apply pw_below_drewN | apply below_drew1) | exact HB.out))) : w.heap.size ≤ gb1179)); clear HB; have HB := n0_; have BK1179 := n1_; have GW1179 := n2_; have GE1179 := n3_; clear n0_ n1_ n2_ n3_; clear hb hbox hg; have hcz15_0 : w14.cell? ⟨gb1179, 0, none⟩ = some (.int .i64 a0_0) := (blk_cell BK1179.out 0).trans rfl; have hcz15_1 : w14.cell? ⟨gb1179, 1, none⟩ = some (.int .i64 a0_1) := (blk_cell BK1179.out 1).trans rfl; have hcz15_2 : w14.cell? ⟨gb1179, 2, none⟩ = some (.slice A0_2 l0_2.length c0_2) := (blk_cell BK1179.out 2).trans rfl; have hfz15_0 := blk_frozen BK1179.out 0; have hfz15_1 := blk_frozen BK1179.out 1; have hfz15_2 := blk_frozen BK1179.out 2) | ((with_reducible refine gate_callee (f := 46) rfl ?_); refine goesL_ (some 20) rfl rfl Try.func46 (by kernel_rfl) rfl #[.agg #[.int .i64 a0_0, .int .i64 a0_1, .slice A0_2 l0_2.length c0_2], .int .i64 1048576] rfl (by (try simp only [List.map_toArray, List.map_cons, List.map_nil]); first | done | rfl | (simp only [List.length_drop, List.length_take]; rfl)) ?_; (with_reducible refine (laws_szPicture.calls a0_0 a0_1 _ _ l0_2 1048576 t1180 _ ?side1 ?side2 A4.out).mono ?_); (case side1 => repeat (first | exact (Kd.C_below HR0_2.out HB.out) | (with_reducible refine Kd.C_alloc ?_ _) | (with_reducible refine Kd.C_drewN ?_ _) | (with_reducible refine Kd.C_drew ?_))); (case side2 => exact HC0_2.out); rintro e w16 ⟨rfl, hb⟩; refine ⟨_, rfl, ?_⟩; have n0_ := Aside0.mk (blk_below (g := gb1179) (o := .cells #[.int .i64 a0_0, .int .i64 a0_1, .slice A0_2 l0_2.length c0_2] 34 (0, 0)) (by (with_reducible repeat (first | refine blk_drewN ?_ _ | refine blk_drew ?_ | refine blk_alloc ?_ _)); exact BK1179.out) hb); have n1_ := Aside0.mk (below_step (by repeat (first | (with_reducible first | exact HB.out | apply below_alloc | apply pw_below_drewN | apply below_drew1 | refine below_set ?_ GE1179.out) | exact HB.out)) hb); clear BK1179; clear HB; have BK1179 := n0_; have HB := n1_; clear n0_ n1_; (try clear hb); (try clear hb2); (try clear hk); (try clear hi); have hcz17_0 : w16.cell? ⟨gb1179, 0, none⟩ = some (.int .i64 a0_0) := (blk_cell BK1179.out 0).trans rfl; have hcz17_1 : w16.cell? ⟨gb1179, 1, none⟩ = some (.int .i64 a0_1) := (blk_cell BK1179.out 1).trans rfl; have hcz17_2 : w16.cell? ⟨gb1179, 2, none⟩ = some (.slice A0_2 l0_2.length c0_2) := (blk_cell BK1179.out 2).trans rfl; have hfz17_0 := blk_frozen BK1179.out 0; have hfz17_1 := blk_frozen BK1179.out 1; have hfz17_2 := blk_frozen BK1179.out 2) | ((with_reducible refine gate_callee (f := 48) rfl ?_); refine goesL_ (some 25) rfl rfl Try.func48 (by kernel_rfl) rfl #[.agg #[.int .i64 a0_0, .int .i64 a0_1, .slice A0_2 l0_2.length c0_2]] rfl (by (try simp only [List.map_toArray, List.map_cons, List.map_nil]); first | done | rfl | (simp only [List.length_drop, List.length_take]; rfl)) ?_; (with_reducible refine (laws_toPicture.calls k a0_0 a0_1 _ _ l0_2 t1181 t1182 t1183 _ ?side1 ?side2 A9.out).mono ?_); (case side1 => repeat (first | exact (Kd.C_below HR0_2.out HB.out) | (with_reducible refine Kd.C_alloc ?_ _) | (with_reducible refine Kd.C_drewN ?_ _) | (with_reducible refine Kd.C_drew ?_))); (case side2 => exact HC0_2.out); rintro e w18 ⟨v1184, rfl, ho0, hb⟩; refine ⟨_, rfl, ?_⟩; have n0_ := Aside0.mk (Kd.R_lower ho0 (below_size (by repeat (first | (with_reducible first | exact HB.out | apply below_alloc | apply pw_below_drewN | apply below_drew1 | refine below_set ?_ GE1179.out) | exact HB.out)))); have n1_ := Aside0.mk (blk_below (g := gb1179) (o := .cells #[.int .i64 a0_0, .int .i64 a0_1, .slice A0_2 l0_2.length c0_2] 34 (0, 0)) (by (with_reducible repeat (first | refine blk_drewN ?_ _ | refine blk_drew ?_ | refine blk_alloc ?_ _)); exact BK1179.out) hb); have n2_ := Aside0.mk (below_step (by repeat (first | (with_reducible first | exact HB.out | apply below_alloc | apply pw_below_drewN | apply below_drew1 | refine below_set ?_ GE1179.out) | exact HB.out)) hb); clear BK1179; clear HB; have HO1185 := n0_; have BK1179 := n1_; have HB := n2_; clear n0_ n1_ n2_; (try clear hb); (try clear hb2); (try clear hk); (try clear hi); (try clear ho0); obtain ⟨Ao19, co19, eo19⟩ := Kd.R_slice HO1185.out; subst eo19) | ((with_reducible refine gate_callee (f := 91) rfl ?_); refine goesL_ (some 28) rfl rfl Try.func91 (by kernel_rfl) rfl #[.agg #[.int .i64 t1181, .int .i64 t1182, .slice Ao19 t1183.length co19], .int .i64 a1, .int .i64 a2] rfl (by (try simp only [List.map_toArray, List.map_cons, List.map_nil]); first | done | rfl | (simp only [List.length_drop, List.length_take]; rfl)) ?_; (with_reducible refine (spec_TilePicture.calls k t1181 t1182 _ _ t1183 a1 a2 t1186 t1187 t1188 t1191 _ ?side1 ?side2 A10.out).mono ?_); (case side1 => repeat (first | exact (Kd.R_reads' HO1185.out).2.2 | (with_reducible refine Kd.C_alloc ?_ _) | (with_reducible refine Kd.C_drewN ?_ _) | (with_reducible refine Kd.C_drew ?_))); (case side2 => exact (Kd.R_reads' HO1185.out).2.1); rintro e w20 ⟨v1189, rfl, ho0, hb⟩; refine ⟨_, rfl, ?_⟩; have n0_ := Aside0.mk (Kd.R_elder' (by (with_reducible repeat (first | apply Kd.R_alloc | apply Kd.R_drewN | apply Kd.R_drew)); exact HO1185.out) (Kd.R_base ho0) hb); have n1_ := Aside0.mk (Kd.R_lower (Kd.R_new' ho0 (Kd.R_lt (by (with_reducible repeat (first | apply Kd.R_alloc | apply Kd.R_drewN | apply Kd.R_drew)); exact HO1185.out))) (below_size (by repeat (first | (with_reducible first | exact HB.out | apply below_alloc | apply pw_below_drewN | apply below_drew1 | refine below_set ?_ GE1179.out) | exact HB.out)))); have n2_ := Aside0.mk (blk_below (g := gb1179) (o := .cells #[.int .i64 a0_0, .int .i64 a0_1, .slice A0_2 l0_2.length c0_2] 34 (0, 0)) (by (with_reducible repeat (first | refine blk_drewN ?_ _ | refine blk_drew ?_ | refine blk_alloc ?_ _)); exact BK1179.out) hb); have n3_ := Aside0.mk (below_step (by repeat (first | (with_reducible first | exact HB.out | apply below_alloc | apply pw_below_drewN | apply below_drew1 | refine below_set ?_ GE1179.out) | exact HB.out)) hb); clear HO1185; clear BK1179; clear HB; have HO1185 := n0_; have HO1190 := n1_; have BK1179 := n2_; have HB := n3_; clear n0_ n1_ n2_ n3_; (try clear hb); (try clear hb2); (try clear hk); (try clear hi); (try clear ho0)) | ((with_reducible refine gate_dst (N := 8) rfl ?_); refine box_event ?hg (N := 8) ?hd (cs := #[.int .i64 0, .int .i64 0, .slice none 0 0]) (t := 37) ?hr ?_; (case hd => rfl); (case hg => rfl); (case hr => first | (go_simp; done) | (go_simp; rfl)); intro gb1192 hg w21 hbox hb; have n0_ := Aside0.mk (Kd.R_below (by (with_reducible repeat (first | apply Kd.R_alloc | apply Kd.R_drewN | apply Kd.R_drew)); exact HO1185.out) hb); have n1_ := Aside0.mk (Kd.R_below (by (with_reducible repeat (first | apply Kd.R_alloc | apply Kd.R_drewN | apply Kd.R_drew)); exact HO1190.out) hb); have n2_ := Aside0.mk (blk_below (g := gb1179) (o := .cells #[.int .i64 a0_0, .int .i64 a0_1, .slice A0_2 l0_2.length c0_2] 34 (0, 0)) (by (with_reducible repeat (first | refine blk_drewN ?_ _ | refine blk_drew ?_ | refine blk_alloc ?_ _)); exact BK1179.out) hb); have n3_ := Aside0.mk (below_step (by repeat (first | (with_reducible first | exact HB.out | apply below_alloc | apply pw_below_drewN | apply below_drew1 | refine below_set ?_ GE1179.out) | exact HB.out)) hb); have n4_ := Aside0.mk (hbox); have n5_ := Aside0.mk ((by rw [hg]; exact (below_size (by repeat (first | (with_reducible first | exact HB.out | apply below_alloc | apply pw_below_drewN | apply below_drew1 | refine below_set ?_ GE1179.out) | exact HB.out))) : w.heap.size ≤ gb1192)); have n6_ := Aside0.mk ((by rw [hg]; exact (below_size (by repeat (first | (with_reducible first | exact HB.out | apply below_alloc | apply pw_below_drewN | apply below_drew1 | refine below_set ?_ GE1179.out) | exact HB.out))) : w.heap.size ≤ gb1192)); have n7_ := Aside0.mk ((by rw [hg]; exact Nat.ne_of_lt (blk_lt (g := gb1179) (o := .cells #[.int .i64 a0_0, .int .i64 a0_1, .slice A0_2 l0_2.length c0_2] 34 (0, 0)) (by (with_reducible repeat (first | refine blk_drewN ?_ _ | refine blk_drew ?_ | refine blk_alloc ?_ _)); exact BK1179.out)) : gb1179 ≠ gb1192)); have n8_ := Aside0.mk ((by rw [hg]; exact Nat.ne_of_gt (blk_lt (g := gb1179) (o := .cells #[.int .i64 a0_0, .int .i64 a0_1, .slice A0_2 l0_2.length c0_2] 34 (0, 0)) (by (with_reducible repeat (first | refine blk_drewN ?_ _ | refine blk_drew ?_ | refine blk_alloc ?_ _)); exact BK1179.out)) : gb1192 ≠ gb1179)); clear HO1185; clear HO1190; clear BK1179; clear HB; have HO1185 := n0_; have HO1190 := n1_; have BK1179 := n2_; have HB := n3_; have BK1192 := n4_; have GW1192 := n5_; have GE1192 := n6_; have NB1179_1192 := n7_; have NB1192_1179 := n8_; clear n0_ n1_ n2_ n3_ n4_ n5_ n6_ n7_ n8_; clear hb hbox hg; have hnb22 := NB1192_1179.out; have hnc22 := NB1179_1192.out; have hcz23_0 : w21.cell? ⟨gb1192, 0, none⟩ = some (.int .i64 0) := (blk_cell BK1192.out 0).trans rfl; have hcz23_1 : w21.cell? ⟨gb1192, 1, none⟩ = some (.int .i64 0) := (blk_cell BK1192.out 1).trans rfl; have hcz23_2 : w21.cell? ⟨gb1192, 2, none⟩ = some (.slice none 0 0) := (blk_cell BK1192.out 2).trans rfl; have hfz23_0 := blk_frozen BK1192.out 0; have hfz23_1 := blk_frozen BK1192.out 1; have hfz23_2 := blk_frozen BK1192.out 2; obtain ⟨Ao24, co24, eo24⟩ := Kd.R_slice HO1190.out; subst eo24; have hcz25_0 : w21.cell? ⟨gb1179, 0, none⟩ = some (.int .i64 a0_0) := (blk_cell BK1179.out 0).trans rfl; have hcz25_1 : w21.cell? ⟨gb1179, 1, none⟩ = some (.int .i64 a0_1) := (blk_cell BK1179.out 1).trans rfl; have hcz25_2 : w21.cell? ⟨gb1179, 2, none⟩ = some (.slice A0_2 l0_2.length c0_2) := (blk_cell BK1179.out 2).trans rfl; have hfz25_0 := blk_frozen BK1179.out 0; have hfz25_1 := blk_frozen BK1179.out 1; have hfz25_2 := blk_frozen BK1179.out 2) | ((with_reducible refine gate_callee (f := 48) rfl ?_); refine goesL_ (some 32) rfl rfl Try.func48 (by kernel_rfl) rfl #[.agg #[.int .i64 a0_0, .int .i64 a0_1, .slice A0_2 l0_2.length c0_2]] rfl (by (try simp only [List.map_toArray, List.map_cons, List.map_nil]); first | done | rfl | (simp only [List.length_drop, List.length_take]; rfl)) ?_; (with_reducible refine (laws_toPicture.calls k a0_0 a0_1 _ _ l0_2 t1193 t1194 t1195 _ ?side1 ?side2 A11.out).mono ?_); (case side1 => exact Kd.C_below HR0_2.out (by repeat (first | (with_reducible first | exact HB.out | apply below_alloc | apply pw_below_drewN | apply below_drew1 | refine below_set ?_ GE1179.out | refine below_set ?_ GE1192.out) | exact HB.out))); (case side2 => exact HC0_2.out); rintro e w26 ⟨v1196, rfl, ho0, hb⟩; refine ⟨_, rfl, ?_⟩; have n0_ := Aside0.mk (Kd.R_elder' (by (with_reducible repeat (first | apply Kd.R_alloc | apply Kd.R_drewN | apply Kd.R_drew)); exact (Kd.R_mono (Kd.R_far (p := ⟨gb1192, 2, none⟩) (Kd.R_far (p := ⟨gb1192, 1, none⟩) (Kd.R_far (p := ⟨gb1192, 0, none⟩) (Kd.R_types HO1185.out BK1192.out (by decide)) (fun _ hk => hk.2) (.int .i64 t1186)) (fun _ hk => hk.2) (.int .i64 t1187)) (fun _ hk => hk.2) (.slice Ao24 t1188.length co24)) (fun _ h_ => h_.1))) (Kd.R_base ho0) hb); have n1_ := Aside0.mk (Kd.R_elder' (by (with_reducible repeat (first | apply Kd.R_alloc | apply Kd.R_drewN | apply Kd.R_drew)); exact (Kd.R_mono (Kd.R_far (p := ⟨gb1192, 2, none⟩) (Kd.R_far (p := ⟨gb1192, 1, none⟩) (Kd.R_far (p := ⟨gb1192, 0, none⟩) (Kd.R_types HO1190.out BK1192.out (by decide)) (fun _ hk => hk.2) (.int .i64 t1186)) (fun _ hk => hk.2) (.int .i64 t1187)) (fun _ hk => hk.2) (.slice Ao24 t1188.length co24)) (fun _ h_ => h_.1))) (Kd.R_base ho0) hb); have n2_ := Aside0.mk (Kd.R_lower (Kd.R_new' (Kd.R_new' ho0 (Kd.R_lt (by (with_reducible repeat (first | apply Kd.R_alloc | apply Kd.R_drewN | apply Kd.R_drew)); exact (Kd.R_mono (Kd.R_far (p := ⟨gb1192, 2, none⟩) (Kd.R_far (p := ⟨gb1192, 1, none⟩) (Kd.R_far (p := ⟨gb1192, 0, none⟩) (Kd.R_types HO1185.out BK1192.out (by decide)) (fun _ hk => hk.2) (.int .i64 t1186)) (fun _ hk => hk.2) (.int .i64 t1187)) (fun _ hk => hk.2) (.slice Ao24 t1188.length co24)) (fun _ h_ => h_.1))))) (Kd.R_lt (by (with_reducible repeat (first | apply Kd.R_alloc | apply Kd.R_drewN | apply Kd.R_drew)); exact (Kd.R_mono (Kd.R_far (p := ⟨gb1192, 2, none⟩) (Kd.R_far (p := ⟨gb1192, 1, none⟩) (Kd.R_far (p := ⟨gb1192, 0, none⟩) (Kd.R_types HO1190.out BK1192.out (by decide)) (fun _ hk => hk.2) (.int .i64 t1186)) (fun _ hk => hk.2) (.int .i64 t1187)) (fun _ hk => hk.2) (.slice Ao24 t1188.length co24)) (fun _ h_ => h_.1))))) (below_size (by repeat (first | (with_reducible first | exact HB.out | apply below_alloc | apply pw_below_drewN | apply below_drew1 | refine below_set ?_ GE1179.out | refine below_set ?_ GE1192.out) | exact HB.out)))); have n3_ := Aside0.mk (blk_below (g := gb1179) (o := .cells #[.int .i64 a0_0, .int .i64 a0_1, .slice A0_2 l0_2.length c0_2] 34 (0, 0)) (by (with_reducible repeat (first | refine blk_drewN ?_ _ | refine blk_drew ?_ | refine blk_alloc ?_ _)); refine blk_far ?_ NB1179_1192.out _; (with_reducible repeat (first | refine blk_drewN ?_ _ | refine blk_drew ?_ | refine blk_alloc ?_ _)); refine blk_far ?_ NB1179_1192.out _; (with_reducible repeat (first | refine blk_drewN ?_ _ | refine blk_drew ?_ | refine blk_alloc ?_ _)); refine blk_far ?_ NB1179_1192.out _; (with_reducible repeat (first | refine blk_drewN ?_ _ | refine blk_drew ?_ | refine blk_alloc ?_ _)); exact BK1179.out) hb); have n4_ := Aside0.mk (blk_below (g := gb1192) (o := .cells #[.int .i64 t1186, .int .i64 t1187, .slice Ao24 t1188.length co24] 37 (0, 0)) (by (with_reducible repeat (first | refine blk_drewN ?_ _ | refine blk_drew ?_ | refine blk_alloc ?_ _)); refine blk_put (cs := #[.int .i64 t1186, .int .i64 t1187, .slice none 0 0]) ?_ 2 _ rfl; (with_reducible repeat (first | refine blk_drewN ?_ _ | refine blk_drew ?_ | refine blk_alloc ?_ _)); refine blk_put (cs := #[.int .i64 t1186, .int .i64 0, .slice none 0 0]) ?_ 1 _ rfl; (with_reducible repeat (first | refine blk_drewN ?_ _ | refine blk_drew ?_ | refine blk_alloc ?_ _)); refine blk_put (cs := #[.int .i64 0, .int .i64 0, .slice none 0 0]) ?_ 0 _ rfl; (with_reducible repeat (first | refine blk_drewN ?_ _ | refine blk_drew ?_ | refine blk_alloc ?_ _)); exact BK1192.out) hb); have n5_ := Aside0.mk (below_step (by repeat (first | (with_reducible first | exact HB.out | apply below_alloc | apply pw_below_drewN | apply below_drew1 | refine below_set ?_ GE1179.out | refine below_set ?_ GE1192.out) | exact HB.out)) hb); clear HO1185; clear HO1190; clear BK1179; clear BK1192; clear HB; have HO1185 := n0_; have HO1190 := n1_; have HO1197 := n2_; have BK1179 := n3_; have BK1192 := n4_; have HB := n5_; clear n0_ n1_ n2_ n3_ n4_ n5_; (try clear hb); (try clear hb2); (try clear hk); (try clear hi); (try clear ho0)) | ((with_reducible refine gate_dst (N := 10) rfl ?_); refine box_event ?hg (N := 10) ?hd (cs := #[.int .i64 0, .int .i64 0, .slice none 0 0]) (t := 37) ?hr ?_; (case hd => rfl); (case hg => rfl); (case hr => first | (go_simp; done) | (go_simp; rfl)); intro gb1198 hg w27 hbox hb; have n0_ := Aside0.mk (Kd.R_below (by (with_reducible repeat (first | apply Kd.R_alloc | apply Kd.R_drewN | apply Kd.R_drew)); exact HO1185.out) hb); have n1_ := Aside0.mk (Kd.R_below (by (with_reducible repeat (first | apply Kd.R_alloc | apply Kd.R_drewN | apply Kd.R_drew)); exact HO1190.out) hb); have n2_ := Aside0.mk (Kd.R_below (by (with_reducible repeat (first | apply Kd.R_alloc | apply Kd.R_drewN | apply Kd.R_drew)); exact HO1197.out) hb); have n3_ := Aside0.mk (blk_below (g := gb1179) (o := .cells #[.int .i64 a0_0, .int .i64 a0_1, .slice A0_2 l0_2.length c0_2] 34 (0, 0)) (by (with_reducible repeat (first | refine blk_drewN ?_ _ | refine blk_drew ?_ | refine blk_alloc ?_ _)); exact BK1179.out) hb); have n4_ := Aside0.mk (blk_below (g := gb1192) (o := .cells #[.int .i64 t1186, .int .i64 t1187, .slice Ao24 t1188.length co24] 37 (0, 0)) (by (with_reducible repeat (first | refine blk_drewN ?_ _ | refine blk_drew ?_ | refine blk_alloc ?_ _)); exact BK1192.out) hb); have n5_ := Aside0.mk (below_step (by repeat (first | (with_reducible first | exact HB.out | apply below_alloc | apply pw_below_drewN | apply below_drew1 | refine below_set ?_ GE1179.out | refine below_set ?_ GE1192.out) | exact HB.out)) hb); have n6_ := Aside0.mk (hbox); have n7_ := Aside0.mk ((by rw [hg]; exact (below_size (by repeat (first | (with_reducible first | exact HB.out | apply below_alloc | apply pw_below_drewN | apply below_drew1 | refine below_set ?_ GE1179.out | refine below_set ?_ GE1192.out) | exact HB.out))) : w.heap.size ≤ gb1198)); have n8_ := Aside0.mk ((by rw [hg]; exact (below_size (by repeat (first | (with_reducible first | exact HB.out | apply below_alloc | apply pw_below_drewN | apply below_drew1 | refine below_set ?_ GE1179.out | refine below_set ?_ GE1192.out) | exact HB.out))) : w.heap.size ≤ gb1198)); have n9_ := Aside0.mk ((by rw [hg]; exact Nat.ne_of_lt (blk_lt (g := gb1179) (o := .cells #[.int .i64 a0_0, .int .i64 a0_1, .slice A0_2 l0_2.length c0_2] 34 (0, 0)) (by (with_reducible repeat (first | refine blk_drewN ?_ _ | refine blk_drew ?_ | refine blk_alloc ?_ _)); exact BK1179.out)) : gb1179 ≠ gb1198)); have n10_ := Aside0.mk ((by rw [hg]; exact Nat.ne_of_gt (blk_lt (g := gb1179) (o := .cells #[.int .i64 a0_0, .int .i64 a0_1, .slice A0_2 l0_2.length c0_2] 34 (0, 0)) (by (with_reducible repeat (first | refine blk_drewN ?_ _ | refine blk_drew ?_ | refine blk_alloc ?_ _)); exact BK1179.out)) : gb1198 ≠ gb1179)); have n11_ := Aside0.mk ((by rw [hg]; exact Nat.ne_of_lt (blk_lt (g := gb1192) (o := .cells #[.int .i64 t1186, .int .i64 t1187, .slice Ao24 t1188.length co24] 37 (0, 0)) (by (with_reducible repeat (first | refine blk_drewN ?_ _ | refine blk_drew ?_ | refine blk_alloc ?_ _)); exact BK1192.out)) : gb1192 ≠ gb1198)); have n12_ := Aside0.mk ((by rw [hg]; exact Nat.ne_of_gt (blk_lt (g := gb1192) (o := .cells #[.int .i64 t1186, .int .i64 t1187, .slice Ao24 t1188.length co24] 37 (0, 0)) (by (with_reducible repeat (first | refine blk_drewN ?_ _ | refine blk_drew ?_ | refine blk_alloc ?_ _)); exact BK1192.out)) : gb1198 ≠ gb1192)); clear HO1185; clear HO1190; clear HO1197; clear BK1179; clear BK1192; clear HB; have HO1185 := n0_; have HO1190 := n1_; have HO1197 := n2_; have BK1179 := n3_; have BK1192 := n4_; have HB := n5_; have BK1198 := n6_; have GW1198 := n7_; have GE1198 := n8_; have NB1179_1198 := n9_; have NB1198_1179 := n10_; have NB1192_1198 := n11_; have NB1198_1192 := n12_; clear n0_ n1_ n2_ n3_ n4_ n5_ n6_ n7_ n8_ n9_ n10_ n11_ n12_; clear hb hbox hg; have hnb28 := NB1198_1179.out; have hnc28 := NB1179_1198.out; have hnb29 := NB1198_1192.out; have hnc29 := NB1192_1198.out; have hcz30_0 : w27.cell? ⟨gb1198, 0, none⟩ = some (.int .i64 0) := (blk_cell BK1198.out 0).trans rfl; have hcz30_1 : w27.cell? ⟨gb1198, 1, none⟩ = some (.int .i64 0) := (blk_cell BK1198.out 1).trans rfl; have hcz30_2 : w27.cell? ⟨gb1198, 2, none⟩ = some (.slice none 0 0) := (blk_cell BK1198.out 2).trans rfl; have hfz30_0 := blk_frozen BK1198.out 0; have hfz30_1 := blk_frozen BK1198.out 1; have hfz30_2 := blk_frozen BK1198.out 2; obtain ⟨Ao31, co31, eo31⟩ := Kd.R_slice HO1197.out; subst eo31) | ((with_reducible refine gate_callee (f := 83) rfl ?_); refine goesL_ (some 37) rfl rfl Try.func83 (by kernel_rfl) rfl #[.agg #[.int .i64 t1193, .int .i64 t1194, .slice Ao31 t1195.length co31], .int .i64 a1, .int .i64 a2] rfl (by (try simp only [List.map_toArray, List.map_cons, List.map_nil]); first | done | rfl | (simp only [List.length_drop, List.length_take]; rfl)) ?_; (with_reducible refine (impl_TilePicture.calls t1193 t1194 _ _ t1195 a1 a2 t1199 t1200 t1201 t1204 _ ?side1 ?side2 A12.out).mono ?_); (case side1 => refine (Kd.R_reads' (e := 3) (base := w.heap.size) (ok := fun k_ => ((True ∧ some k_ ≠ (.slice Ao19 t1183.length co19 : Value).ownBlock) ∧ some k_ ≠ (.slice Ao24 t1188.length co24 : Value).ownBlock)) (n := t1195.length) (c := co31) ?_).2.2; exact (by (with_reducible repeat (first | apply Kd.R_alloc | apply Kd.R_drewN | apply Kd.R_drew)); exact (Kd.R_mono (Kd.R_far (p := ⟨gb1198, 2, none⟩) (Kd.R_far (p := ⟨gb1198, 1, none⟩) (Kd.R_far (p := ⟨gb1198, 0, none⟩) (Kd.R_types HO1197.out BK1198.out (by decide)) (fun _ hk => hk.2) (.int .i64 t1193)) (fun _ hk => hk.2) (.int .i64 t1194)) (fun _ hk => hk.2) (.slice Ao31 t1195.length co31)) (fun _ h_ => h_.1)))); (case side2 => exact (Kd.R_reads' HO1197.out).2.1); rintro e w32 ⟨v1202, rfl, ho0, hb⟩; refine ⟨_, rfl, ?_⟩; have n0_ := Aside0.mk (Kd.R_elder' (by (with_reducible repeat (first | apply Kd.R_alloc | apply Kd.R_drewN | apply Kd.R_drew)); exact (Kd.R_mono (Kd.R_far (p := ⟨gb1198, 2, none⟩) (Kd.R_far (p := ⟨gb1198, 1, none⟩) (Kd.R_far (p := ⟨gb1198, 0, none⟩) (Kd.R_types HO1185.out BK1198.out (by decide)) (fun _ hk => hk.2) (.int .i64 t1193)) (fun _ hk => hk.2) (.int .i64 t1194)) (fun _ hk => hk.2) (.slice Ao31 t1195.length co31)) (fun _ h_ => h_.1))) (Kd.R_base ho0) hb); have n1_ := Aside0.mk (Kd.R_elder' (by (with_reducible repeat (first | apply Kd.R_alloc | apply Kd.R_drewN | apply Kd.R_drew)); exact (Kd.R_mono (Kd.R_far (p := ⟨gb1198, 2, none⟩) (Kd.R_far (p := ⟨gb1198, 1, none⟩) (Kd.R_far (p := ⟨gb1198, 0, none⟩) (Kd.R_types HO1190.out BK1198.out (by decide)) (fun _ hk => hk.2) (.int .i64 t1193)) (fun _ hk => hk.2) (.int .i64 t1194)) (fun _ hk => hk.2) (.slice Ao31 t1195.length co31)) (fun _ h_ => h_.1))) (Kd.R_base ho0) hb); have n2_ := Aside0.mk (Kd.R_elder' (by (with_reducible repeat (first | apply Kd.R_alloc | apply Kd.R_drewN | apply Kd.R_drew)); exact (Kd.R_mono (Kd.R_far (p := ⟨gb1198, 2, none⟩) (Kd.R_far (p := ⟨gb1198, 1, none⟩) (Kd.R_far (p := ⟨gb1198, 0, none⟩) (Kd.R_types HO1197.out BK1198.out (by decide)) (fun _ hk => hk.2) (.int .i64 t1193)) (fun _ hk => hk.2) (.int .i64 t1194)) (fun _ hk => hk.2) (.slice Ao31 t1195.length co31)) (fun _ h_ => h_.1))) (Kd.R_base ho0) hb); have n3_ := Aside0.mk (Kd.R_lower (Kd.R_new' (Kd.R_new' (Kd.R_new' ho0 (Kd.R_lt (by (with_reducible repeat (first | apply Kd.R_alloc | apply Kd.R_drewN | apply Kd.R_drew)); exact (Kd.R_mono (Kd.R_far (p := ⟨gb1198, 2, none⟩) (Kd.R_far (p := ⟨gb1198, 1, none⟩) (Kd.R_far (p := ⟨gb1198, 0, none⟩) (Kd.R_types HO1185.out BK1198.out (by decide)) (fun _ hk => hk.2) (.int .i64 t1193)) (fun _ hk => hk.2) (.int .i64 t1194)) (fun _ hk => hk.2) (.slice Ao31 t1195.length co31)) (fun _ h_ => h_.1))))) (Kd.R_lt (by (with_reducible repeat (first | apply Kd.R_alloc | apply Kd.R_drewN | apply Kd.R_drew)); exact (Kd.R_mono (Kd.R_far (p := ⟨gb1198, 2, none⟩) (Kd.R_far (p := ⟨gb1198, 1, none⟩) (Kd.R_far (p := ⟨gb1198, 0, none⟩) (Kd.R_types HO1190.out BK1198.out (by decide)) (fun _ hk => hk.2) (.int .i64 t1193)) (fun _ hk => hk.2) (.int .i64 t1194)) (fun _ hk => hk.2) (.slice Ao31 t1195.length co31)) (fun _ h_ => h_.1))))) (Kd.R_lt (by (with_reducible repeat (first | apply Kd.R_alloc | apply Kd.R_drewN | apply Kd.R_drew)); exact (Kd.R_mono (Kd.R_far (p := ⟨gb1198, 2, none⟩) (Kd.R_far (p := ⟨gb1198, 1, none⟩) (Kd.R_far (p := ⟨gb1198, 0, none⟩) (Kd.R_types HO1197.out BK1198.out (by decide)) (fun _ hk => hk.2) (.int .i64 t1193)) (fun _ hk => hk.2) (.int .i64 t1194)) (fun _ hk => hk.2) (.slice Ao31 t1195.length co31)) (fun _ h_ => h_.1))))) (below_size (by repeat (first | (with_reducible first | exact HB.out | apply below_alloc | apply pw_below_drewN | apply below_drew1 | refine below_set ?_ GE1179.out | refine below_set ?_ GE1192.out | refine below_set ?_ GE1198.out) | exact HB.out)))); have n4_ := Aside0.mk (blk_below (g := gb1179) (o := .cells #[.int .i64 a0_0, .int .i64 a0_1, .slice A0_2 l0_2.length c0_2] 34 (0, 0)) (by (with_reducible repeat (first | refine blk_drewN ?_ _ | refine blk_drew ?_ | refine blk_alloc ?_ _)); refine blk_far ?_ NB1179_1198.out _; (with_reducible repeat (first | refine blk_drewN ?_ _ | refine blk_drew ?_ | refine blk_alloc ?_ _)); refine blk_far ?_ NB1179_1198.out _; (with_reducible repeat (first | refine blk_drewN ?_ _ | refine blk_drew ?_ | refine blk_alloc ?_ _)); refine blk_far ?_ NB1179_1198.out _; (with_reducible repeat (first | refine blk_drewN ?_ _ | refine blk_drew ?_ | refine blk_alloc ?_ _)); exact BK1179.out) hb); have n5_ := Aside0.mk (blk_below (g := gb1192) (o := .cells #[.int .i64 t1186, .int .i64 t1187, .slice Ao24 t1188.length co24] 37 (0, 0)) (by (with_reducible repeat (first | refine blk_drewN ?_ _ | refine blk_drew ?_ | refine blk_alloc ?_ _)); refine blk_far ?_ NB1192_1198.out _; (with_reducible repeat (first | refine blk_drewN ?_ _ | refine blk_drew ?_ | refine blk_alloc ?_ _)); refine blk_far ?_ NB1192_1198.out _; (with_reducible repeat (first | refine blk_drewN ?_ _ | refine blk_drew ?_ | refine blk_alloc ?_ _)); refine blk_far ?_ NB1192_1198.out _; (with_reducible repeat (first | refine blk_drewN ?_ _ | refine blk_drew ?_ | refine blk_alloc ?_ _)); exact BK1192.out) hb); have n6_ := Aside0.mk (blk_below (g := gb1198) (o := .cells #[.int .i64 t1193, .int .i64 t1194, .slice Ao31 t1195.length co31] 37 (0, 0)) (by (with_reducible repeat (first | refine blk_drewN ?_ _ | refine blk_drew ?_ | refine blk_alloc ?_ _)); refine blk_put (cs := #[.int .i64 t1193, .int .i64 t1194, .slice none 0 0]) ?_ 2 _ rfl; (with_reducible repeat (first | refine blk_drewN ?_ _ | refine blk_drew ?_ | refine blk_alloc ?_ _)); refine blk_put (cs := #[.int .i64 t1193, .int .i64 0, .slice none 0 0]) ?_ 1 _ rfl; (with_reducible repeat (first | refine blk_drewN ?_ _ | refine blk_drew ?_ | refine blk_alloc ?_ _)); refine blk_put (cs := #[.int .i64 0, .int .i64 0, .slice none 0 0]) ?_ 0 _ rfl; (with_reducible repeat (first | refine blk_drewN ?_ _ | refine blk_drew ?_ | refine blk_alloc ?_ _)); exact BK1198.out) hb); have n7_ := Aside0.mk (below_step (by repeat (first | (with_reducible first | exact HB.out | apply below_alloc | apply pw_below_drewN | apply below_drew1 | refine below_set ?_ GE1179.out | refine below_set ?_ GE1192.out | refine below_set ?_ GE1198.out) | exact HB.out)) hb); clear HO1185; clear HO1190; clear HO1197; clear BK1179; clear BK1192; clear BK1198; clear HB; have HO1185 := n0_; have HO1190 := n1_; have HO1197 := n2_; have HO1203 := n3_; have BK1179 := n4_; have BK1192 := n5_; have BK1198 := n6_; have HB := n7_; clear n0_ n1_ n2_ n3_ n4_ n5_ n6_ n7_; (try clear hb); (try clear hb2); (try clear hk); (try clear hi); (try clear ho0)) | ((with_reducible refine gate_dst (N := 11) rfl ?_); refine box_event ?hg (N := 11) ?hd (cs := #[.int .i64 0, .int .i64 0, .slice none 0 0]) (t := 37) ?hr ?_; (case hd => rfl); (case hg => rfl); (case hr => first | (go_simp; done) | (go_simp; rfl)); intro gb1205 hg w33 hbox hb; have n0_ := Aside0.mk (Kd.R_below (by (with_reducible repeat (first | apply Kd.R_alloc | apply Kd.R_drewN | apply Kd.R_drew)); exact HO1185.out) hb); have n1_ := Aside0.mk (Kd.R_below (by (with_reducible repeat (first | apply Kd.R_alloc | apply Kd.R_drewN | apply Kd.R_drew)); exact HO1190.out) hb); have n2_ := Aside0.mk (Kd.R_below (by (with_reducible repeat (first | apply Kd.R_alloc | apply Kd.R_drewN | apply Kd.R_drew)); exact HO1197.out) hb); have n3_ := Aside0.mk (Kd.R_below (by (with_reducible repeat (first | apply Kd.R_alloc | apply Kd.R_drewN | apply Kd.R_drew)); exact HO1203.out) hb); have n4_ := Aside0.mk (blk_below (g := gb1179) (o := .cells #[.int .i64 a0_0, .int .i64 a0_1, .slice A0_2 l0_2.length c0_2] 34 (0, 0)) (by (with_reducible repeat (first | refine blk_drewN ?_ _ | refine blk_drew ?_ | refine blk_alloc ?_ _)); exact BK1179.out) hb); have n5_ := Aside0.mk (blk_below (g := gb1192) (o := .cells #[.int .i64 t1186, .int .i64 t1187, .slice Ao24 t1188.length co24] 37 (0, 0)) (by (with_reducible repeat (first | refine blk_drewN ?_ _ | refine blk_drew ?_ | refine blk_alloc ?_ _)); exact BK1192.out) hb); have n6_ := Aside0.mk (blk_below (g := gb1198) (o := .cells #[.int .i64 t1193, .int .i64 t1194, .slice Ao31 t1195.length co31] 37 (0, 0)) (by (with_reducible repeat (first | refine blk_drewN ?_ _ | refine blk_drew ?_ | refine blk_alloc ?_ _)); exact BK1198.out) hb); have n7_ := Aside0.mk (below_step (by repeat (first | (with_reducible first | exact HB.out | apply below_alloc | apply pw_below_drewN | apply below_drew1 | refine below_set ?_ GE1179.out | refine below_set ?_ GE1192.out | refine below_set ?_ GE1198.out) | exact HB.out)) hb); have n8_ := Aside0.mk (hbox); have n9_ := Aside0.mk ((by rw [hg]; exact (below_size (by repeat (first | (with_reducible first | exact HB.out | apply below_alloc | apply pw_below_drewN | apply below_drew1 | refine below_set ?_ GE1179.out | refine below_set ?_ GE1192.out | refine below_set ?_ GE1198.out) | exact HB.out))) : w.heap.size ≤ gb1205)); have n10_ := Aside0.mk ((by rw [hg]; exact (below_size (by repeat (first | (with_reducible first | exact HB.out | apply below_alloc | apply pw_below_drewN | apply below_drew1 | refine below_set ?_ GE1179.out | refine below_set ?_ GE1192.out | refine below_set ?_ GE1198.out) | exact HB.out))) : w.heap.size ≤ gb1205)); have n11_ := Aside0.mk ((by rw [hg]; exact Nat.ne_of_lt (blk_lt (g := gb1179) (o := .cells #[.int .i64 a0_0, .int .i64 a0_1, .slice A0_2 l0_2.length c0_2] 34 (0, 0)) (by (with_reducible repeat (first | refine blk_drewN ?_ _ | refine blk_drew ?_ | refine blk_alloc ?_ _)); exact BK1179.out)) : gb1179 ≠ gb1205)); have n12_ := Aside0.mk ((by rw [hg]; exact Nat.ne_of_gt (blk_lt (g := gb1179) (o := .cells #[.int .i64 a0_0, .int .i64 a0_1, .slice A0_2 l0_2.length c0_2] 34 (0, 0)) (by (with_reducible repeat (first | refine blk_drewN ?_ _ | refine blk_drew ?_ | refine blk_alloc ?_ _)); exact BK1179.out)) : gb1205 ≠ gb1179)); have n13_ := Aside0.mk ((by rw [hg]; exact Nat.ne_of_lt (blk_lt (g := gb1192) (o := .cells #[.int .i64 t1186, .int .i64 t1187, .slice Ao24 t1188.length co24] 37 (0, 0)) (by (with_reducible repeat (first | refine blk_drewN ?_ _ | refine blk_drew ?_ | refine blk_alloc ?_ _)); exact BK1192.out)) : gb1192 ≠ gb1205)); have n14_ := Aside0.mk ((by rw [hg]; exact Nat.ne_of_gt (blk_lt (g := gb1192) (o := .cells #[.int .i64 t1186, .int .i64 t1187, .slice Ao24 t1188.length co24] 37 (0, 0)) (by (with_reducible repeat (first | refine blk_drewN ?_ _ | refine blk_drew ?_ | refine blk_alloc ?_ _)); exact BK1192.out)) : gb1205 ≠ gb1192)); have n15_ := Aside0.mk ((by rw [hg]; exact Nat.ne_of_lt (blk_lt (g := gb1198) (o := .cells #[.int .i64 t1193, .int .i64 t1194, .slice Ao31 t1195.length co31] 37 (0, 0)) (by (with_reducible repeat (first | refine blk_drewN ?_ _ | refine blk_drew ?_ | refine blk_alloc ?_ _)); exact BK1198.out)) : gb1198 ≠ gb1205)); have n16_ := Aside0.mk ((by rw [hg]; exact Nat.ne_of_gt (blk_lt (g := gb1198) (o := .cells #[.int .i64 t1193, .int .i64 t1194, .slice Ao31 t1195.length co31] 37 (0, 0)) (by (with_reducible repeat (first | refine blk_drewN ?_ _ | refine blk_drew ?_ | refine blk_alloc ?_ _)); exact BK1198.out)) : gb1205 ≠ gb1198)); clear HO1185; clear HO1190; clear HO1197; clear HO1203; clear BK1179; clear BK1192; clear BK1198; clear HB; have HO1185 := n0_; have HO1190 := n1_; have HO1197 := n2_; have HO1203 := n3_; have BK1179 := n4_; have BK1192 := n5_; have BK1198 := n6_; have HB := n7_; have BK1205 := n8_; have GW1205 := n9_; have GE1205 := n10_; have NB1179_1205 := n11_; have NB1205_1179 := n12_; have NB1192_1205 := n13_; have NB1205_1192 := n14_; have NB1198_1205 := n15_; have NB1205_1198 := n16_; clear n0_ n1_ n2_ n3_ n4_ n5_ n6_ n7_ n8_ n9_ n10_ n11_ n12_ n13_ n14_ n15_ n16_; clear hb hbox hg; have hnb34 := NB1205_1179.out; have hnc34 := NB1179_1205.out; have hnb35 := NB1205_1192.out; have hnc35 := NB1192_1205.out; have hnb36 := NB1205_1198.out; have hnc36 := NB1198_1205.out; have hcz37_0 : w33.cell? ⟨gb1205, 0, none⟩ = some (.int .i64 0) := (blk_cell BK1205.out 0).trans rfl; have hcz37_1 : w33.cell? ⟨gb1205, 1, none⟩ = some (.int .i64 0) := (blk_cell BK1205.out 1).trans rfl; have hcz37_2 : w33.cell? ⟨gb1205, 2, none⟩ = some (.slice none 0 0) := (blk_cell BK1205.out 2).trans rfl; have hfz37_0 := blk_frozen BK1205.out 0; have hfz37_1 := blk_frozen BK1205.out 1; have hfz37_2 := blk_frozen BK1205.out 2; obtain ⟨Ao38, co38, eo38⟩ := Kd.R_slice HO1203.out; subst eo38))
    (try simp only [Act.put, List.setIfInBounds_toArray, List.set_cons_zero, List.set_cons_succ])
    go_cut [48] (fun v48 wc => ∃ (kq : Nat) (x48_12 : Bool), v48 = .bool x48_12 ∧ Aside0 (laws_FnExactTilePicture.j0 kq a1 a2 t1191 t1204 x48_12 a0_0 a0_1 l0_2 t1186 t1187 t1188 t1193 t1194 t1195 t1199 t1200 t1201 = some r) ∧ Aside0 (kq ≤ k) ∧ Aside0 (Kd.R (Kd.int .i64) 3 wc w.heap.size (fun k_ => some k_ ≠ ((.slice Ao31 t1195.length co31) : Value).ownBlock ∧ some k_ ≠ ((.slice Ao38 t1201.length co38) : Value).ownBlock) (.slice Ao24 t1188.length co24) t1188) ∧ Aside0 (Kd.R (Kd.int .i64) 3 wc w.heap.size (fun k_ => some k_ ≠ ((.slice Ao24 t1188.length co24) : Value).ownBlock ∧ some k_ ≠ ((.slice Ao38 t1201.length co38) : Value).ownBlock) (.slice Ao31 t1195.length co31) t1195) ∧ Aside0 (Kd.R (Kd.int .i64) 3 wc w.heap.size (fun k_ => some k_ ≠ ((.slice Ao24 t1188.length co24) : Value).ownBlock ∧ some k_ ≠ ((.slice Ao31 t1195.length co31) : Value).ownBlock) (.slice Ao38 t1201.length co38) t1201) ∧ Aside0 (wc.heap[gb1179]? = some (.cells #[.int .i64 a0_0, .int .i64 a0_1, (.slice A0_2 l0_2.length c0_2)] 34 (0, 0))) ∧ Aside0 (wc.heap[gb1192]? = some (.cells #[.int .i64 t1186, .int .i64 t1187, (.slice Ao24 t1188.length co24)] 37 (0, 0))) ∧ Aside0 (wc.heap[gb1198]? = some (.cells #[.int .i64 t1193, .int .i64 t1194, (.slice Ao31 t1195.length co31)] 37 (0, 0))) ∧ Aside0 (wc.heap[gb1205]? = some (.cells #[.int .i64 t1199, .int .i64 t1200, (.slice Ao38 t1201.length co38)] 37 (0, 0))) ∧ Aside0 (Below w.heap.size w wc))
    case first =>
      have H := HC13.out
      clear HC13
      replace H := Option.bind_eq_some_iff.mp H
      obtain ⟨t1206, A390, H⟩ := H
      replace H : (if t1206 = true then (laws_FnExactTilePicture.j0 k a1 a2 t1191 t1204 (t1204 != t1191) a0_0 a0_1 l0_2 t1186 t1187 t1188 t1193 t1194 t1195 t1199 t1200 t1201) else (laws_FnExactTilePicture.j0 k a1 a2 t1191 t1204 true a0_0 a0_1 l0_2 t1186 t1187 t1188 t1193 t1194 t1195 t1199 t1200 t1201)) = some r := H
      have A39 := Aside0.mk A390
      clear A390
      by_cases c40 : t1206 = true
      · subst c40
        have H1 : (laws_FnExactTilePicture.j0 k a1 a2 t1191 t1204 (t1204 != t1191) a0_0 a0_1 l0_2 t1186 t1187 t1188 t1193 t1194 t1195 t1199 t1200 t1201) = some r := by rw [if_pos rfl] at H; exact H
        clear H
        have H := H1
        clear H1
        have H' := Aside0.mk H
        clear H
        have hnb41 := NB1205_1179.out
        have hnc41 := NB1179_1205.out
        have hnb42 := NB1205_1192.out
        have hnc42 := NB1192_1205.out
        have hnb43 := NB1205_1198.out
        have hnc43 := NB1198_1205.out
        have hcz44_0 : w33.cell? ⟨gb1205, 0, none⟩ = some (.int .i64 0) := (blk_cell BK1205.out 0).trans rfl
        have hcz44_1 : w33.cell? ⟨gb1205, 1, none⟩ = some (.int .i64 0) := (blk_cell BK1205.out 1).trans rfl
        have hcz44_2 : w33.cell? ⟨gb1205, 2, none⟩ = some (.slice none 0 0) := (blk_cell BK1205.out 2).trans rfl
        have hfz44_0 := blk_frozen BK1205.out 0
        have hfz44_1 := blk_frozen BK1205.out 1
        have hfz44_2 := blk_frozen BK1205.out 2
        have hnb45 := NB1192_1179.out
        have hnc45 := NB1179_1192.out
        have hnb46 := NB1192_1198.out
        have hnc46 := NB1198_1192.out
        have hcz47_0 : w33.cell? ⟨gb1192, 0, none⟩ = some (.int .i64 t1186) := (blk_cell BK1192.out 0).trans rfl
        have hcz47_1 : w33.cell? ⟨gb1192, 1, none⟩ = some (.int .i64 t1187) := (blk_cell BK1192.out 1).trans rfl
        have hcz47_2 : w33.cell? ⟨gb1192, 2, none⟩ = some (.slice Ao24 t1188.length co24) := (blk_cell BK1192.out 2).trans rfl
        have hfz47_0 := blk_frozen BK1192.out 0
        have hfz47_1 := blk_frozen BK1192.out 1
        have hfz47_2 := blk_frozen BK1192.out 2
        go_wp2_with (first | ((with_reducible refine gate_callee (f := 50) rfl ?_); refine goesL_ (some 42) rfl rfl Try.func50 (by kernel_rfl) rfl #[.agg #[.int .i64 t1199, .int .i64 t1200, .slice Ao38 t1201.length co38], .agg #[.int .i64 t1186, .int .i64 t1187, .slice Ao24 t1188.length co24]] rfl (by (try simp only [List.map_toArray, List.map_cons, List.map_nil]); first | done | rfl | (simp only [List.length_drop, List.length_take]; rfl)) ?_; (with_reducible refine (laws_eqPicture.calls k t1199 t1200 _ _ t1201 t1186 t1187 _ _ t1188 true _ ?side1 ?side2 ?side3 ?side4 A39.out).mono ?_); (case side1 => refine (Kd.R_reads' (e := 3) (base := w.heap.size) (ok := fun k_ => (((True ∧ some k_ ≠ (.slice Ao19 t1183.length co19 : Value).ownBlock) ∧ some k_ ≠ (.slice Ao24 t1188.length co24 : Value).ownBlock) ∧ some k_ ≠ (.slice Ao31 t1195.length co31 : Value).ownBlock)) (n := t1201.length) (c := co38) ?_).2.2; exact (by (with_reducible repeat (first | apply Kd.R_alloc | apply Kd.R_drewN | apply Kd.R_drew)); exact (Kd.R_mono (Kd.R_far (p := ⟨gb1205, 2, none⟩) (Kd.R_far (p := ⟨gb1205, 1, none⟩) (Kd.R_far (p := ⟨gb1205, 0, none⟩) (Kd.R_types HO1203.out BK1205.out (by decide)) (fun _ hk => hk.2) (.int .i64 t1199)) (fun _ hk => hk.2) (.int .i64 t1200)) (fun _ hk => hk.2) (.slice Ao38 t1201.length co38)) (fun _ h_ => h_.1)))); (case side2 => exact (Kd.R_reads' HO1203.out).2.1); (case side3 => refine (Kd.R_reads' (e := 3) (base := w.heap.size) (ok := fun k_ => (((True ∧ some k_ ≠ (.slice Ao19 t1183.length co19 : Value).ownBlock) ∧ some k_ ≠ (.slice Ao31 t1195.length co31 : Value).ownBlock) ∧ some k_ ≠ (.slice Ao38 t1201.length co38 : Value).ownBlock)) (n := t1188.length) (c := co24) ?_).2.2; exact (by (with_reducible repeat (first | apply Kd.R_alloc | apply Kd.R_drewN | apply Kd.R_drew)); exact (Kd.R_mono (Kd.R_far (p := ⟨gb1205, 2, none⟩) (Kd.R_far (p := ⟨gb1205, 1, none⟩) (Kd.R_far (p := ⟨gb1205, 0, none⟩) (Kd.R_types HO1190.out BK1205.out (by decide)) (fun _ hk => hk.2) (.int .i64 t1199)) (fun _ hk => hk.2) (.int .i64 t1200)) (fun _ hk => hk.2) (.slice Ao38 t1201.length co38)) (fun _ h_ => h_.1)))); (case side4 => exact (Kd.R_reads' HO1190.out).2.1); rintro e w48 ⟨rfl, hb⟩; refine ⟨_, rfl, ?_⟩; have n0_ := Aside0.mk (Kd.R_below (by (with_reducible repeat (first | apply Kd.R_alloc | apply Kd.R_drewN | apply Kd.R_drew)); exact (Kd.R_mono (Kd.R_far (p := ⟨gb1205, 2, none⟩) (Kd.R_far (p := ⟨gb1205, 1, none⟩) (Kd.R_far (p := ⟨gb1205, 0, none⟩) (Kd.R_types HO1185.out BK1205.out (by decide)) (fun _ hk => hk.2) (.int .i64 t1199)) (fun _ hk => hk.2) (.int .i64 t1200)) (fun _ hk => hk.2) (.slice Ao38 t1201.length co38)) (fun _ h_ => h_.1))) hb); have n1_ := Aside0.mk (Kd.R_below (by (with_reducible repeat (first | apply Kd.R_alloc | apply Kd.R_drewN | apply Kd.R_drew)); exact (Kd.R_mono (Kd.R_far (p := ⟨gb1205, 2, none⟩) (Kd.R_far (p := ⟨gb1205, 1, none⟩) (Kd.R_far (p := ⟨gb1205, 0, none⟩) (Kd.R_types HO1190.out BK1205.out (by decide)) (fun _ hk => hk.2) (.int .i64 t1199)) (fun _ hk => hk.2) (.int .i64 t1200)) (fun _ hk => hk.2) (.slice Ao38 t1201.length co38)) (fun _ h_ => h_.1))) hb); have n2_ := Aside0.mk (Kd.R_below (by (with_reducible repeat (first | apply Kd.R_alloc | apply Kd.R_drewN | apply Kd.R_drew)); exact (Kd.R_mono (Kd.R_far (p := ⟨gb1205, 2, none⟩) (Kd.R_far (p := ⟨gb1205, 1, none⟩) (Kd.R_far (p := ⟨gb1205, 0, none⟩) (Kd.R_types HO1197.out BK1205.out (by decide)) (fun _ hk => hk.2) (.int .i64 t1199)) (fun _ hk => hk.2) (.int .i64 t1200)) (fun _ hk => hk.2) (.slice Ao38 t1201.length co38)) (fun _ h_ => h_.1))) hb); have n3_ := Aside0.mk (Kd.R_below (by (with_reducible repeat (first | apply Kd.R_alloc | apply Kd.R_drewN | apply Kd.R_drew)); exact (Kd.R_mono (Kd.R_far (p := ⟨gb1205, 2, none⟩) (Kd.R_far (p := ⟨gb1205, 1, none⟩) (Kd.R_far (p := ⟨gb1205, 0, none⟩) (Kd.R_types HO1203.out BK1205.out (by decide)) (fun _ hk => hk.2) (.int .i64 t1199)) (fun _ hk => hk.2) (.int .i64 t1200)) (fun _ hk => hk.2) (.slice Ao38 t1201.length co38)) (fun _ h_ => h_.1))) hb); have n4_ := Aside0.mk (blk_below (g := gb1179) (o := .cells #[.int .i64 a0_0, .int .i64 a0_1, .slice A0_2 l0_2.length c0_2] 34 (0, 0)) (by (with_reducible repeat (first | refine blk_drewN ?_ _ | refine blk_drew ?_ | refine blk_alloc ?_ _)); refine blk_far ?_ NB1179_1205.out _; (with_reducible repeat (first | refine blk_drewN ?_ _ | refine blk_drew ?_ | refine blk_alloc ?_ _)); refine blk_far ?_ NB1179_1205.out _; (with_reducible repeat (first | refine blk_drewN ?_ _ | refine blk_drew ?_ | refine blk_alloc ?_ _)); refine blk_far ?_ NB1179_1205.out _; (with_reducible repeat (first | refine blk_drewN ?_ _ | refine blk_drew ?_ | refine blk_alloc ?_ _)); exact BK1179.out) hb); have n5_ := Aside0.mk (blk_below (g := gb1192) (o := .cells #[.int .i64 t1186, .int .i64 t1187, .slice Ao24 t1188.length co24] 37 (0, 0)) (by (with_reducible repeat (first | refine blk_drewN ?_ _ | refine blk_drew ?_ | refine blk_alloc ?_ _)); refine blk_far ?_ NB1192_1205.out _; (with_reducible repeat (first | refine blk_drewN ?_ _ | refine blk_drew ?_ | refine blk_alloc ?_ _)); refine blk_far ?_ NB1192_1205.out _; (with_reducible repeat (first | refine blk_drewN ?_ _ | refine blk_drew ?_ | refine blk_alloc ?_ _)); refine blk_far ?_ NB1192_1205.out _; (with_reducible repeat (first | refine blk_drewN ?_ _ | refine blk_drew ?_ | refine blk_alloc ?_ _)); exact BK1192.out) hb); have n6_ := Aside0.mk (blk_below (g := gb1198) (o := .cells #[.int .i64 t1193, .int .i64 t1194, .slice Ao31 t1195.length co31] 37 (0, 0)) (by (with_reducible repeat (first | refine blk_drewN ?_ _ | refine blk_drew ?_ | refine blk_alloc ?_ _)); refine blk_far ?_ NB1198_1205.out _; (with_reducible repeat (first | refine blk_drewN ?_ _ | refine blk_drew ?_ | refine blk_alloc ?_ _)); refine blk_far ?_ NB1198_1205.out _; (with_reducible repeat (first | refine blk_drewN ?_ _ | refine blk_drew ?_ | refine blk_alloc ?_ _)); refine blk_far ?_ NB1198_1205.out _; (with_reducible repeat (first | refine blk_drewN ?_ _ | refine blk_drew ?_ | refine blk_alloc ?_ _)); exact BK1198.out) hb); have n7_ := Aside0.mk (blk_below (g := gb1205) (o := .cells #[.int .i64 t1199, .int .i64 t1200, .slice Ao38 t1201.length co38] 37 (0, 0)) (by (with_reducible repeat (first | refine blk_drewN ?_ _ | refine blk_drew ?_ | refine blk_alloc ?_ _)); refine blk_put (cs := #[.int .i64 t1199, .int .i64 t1200, .slice none 0 0]) ?_ 2 _ rfl; (with_reducible repeat (first | refine blk_drewN ?_ _ | refine blk_drew ?_ | refine blk_alloc ?_ _)); refine blk_put (cs := #[.int .i64 t1199, .int .i64 0, .slice none 0 0]) ?_ 1 _ rfl; (with_reducible repeat (first | refine blk_drewN ?_ _ | refine blk_drew ?_ | refine blk_alloc ?_ _)); refine blk_put (cs := #[.int .i64 0, .int .i64 0, .slice none 0 0]) ?_ 0 _ rfl; (with_reducible repeat (first | refine blk_drewN ?_ _ | refine blk_drew ?_ | refine blk_alloc ?_ _)); exact BK1205.out) hb); have n8_ := Aside0.mk (below_step (by repeat (first | (with_reducible first | exact HB.out | apply below_alloc | apply pw_below_drewN | apply below_drew1 | refine below_set ?_ GE1179.out | refine below_set ?_ GE1192.out | refine below_set ?_ GE1198.out | refine below_set ?_ GE1205.out) | exact HB.out)) hb); clear HO1185; clear HO1190; clear HO1197; clear HO1203; clear BK1179; clear BK1192; clear BK1198; clear BK1205; clear HB; have HO1185 := n0_; have HO1190 := n1_; have HO1197 := n2_; have HO1203 := n3_; have BK1179 := n4_; have BK1192 := n5_; have BK1198 := n6_; have BK1205 := n7_; have HB := n8_; clear n0_ n1_ n2_ n3_ n4_ n5_ n6_ n7_ n8_; (try clear hb); (try clear hb2); (try clear hk); (try clear hi)))
        go_meet
        case rel => exact ⟨_, ((t1204 != t1191)), (by first | rfl | (simp; done) | (simp [*]; done)), H', ⟨by first | omega | exact Nat.le_refl _⟩, ⟨by (with_reducible repeat (first | apply Kd.R_alloc | apply Kd.R_drewN | apply Kd.R_drew)); exact Kd.R_mono HO1190.out (fun _ hk => ⟨hk.1.2, hk.2⟩)⟩, ⟨by (with_reducible repeat (first | apply Kd.R_alloc | apply Kd.R_drewN | apply Kd.R_drew)); exact Kd.R_mono HO1197.out (fun _ hk => ⟨hk.1.2, hk.2⟩)⟩, ⟨by (with_reducible repeat (first | apply Kd.R_alloc | apply Kd.R_drewN | apply Kd.R_drew)); exact Kd.R_mono HO1203.out (fun _ hk => ⟨hk.1.2, hk.2⟩)⟩, ⟨by (with_reducible repeat (first | refine blk_drewN ?_ _ | refine blk_drew ?_ | refine blk_alloc ?_ _)); exact BK1179.out⟩, ⟨by (with_reducible repeat (first | refine blk_drewN ?_ _ | refine blk_drew ?_ | refine blk_alloc ?_ _)); exact BK1192.out⟩, ⟨by (with_reducible repeat (first | refine blk_drewN ?_ _ | refine blk_drew ?_ | refine blk_alloc ?_ _)); exact BK1198.out⟩, ⟨by (with_reducible repeat (first | refine blk_drewN ?_ _ | refine blk_drew ?_ | refine blk_alloc ?_ _)); exact BK1205.out⟩, ⟨by repeat (first | (with_reducible first | exact HB.out | apply below_alloc | apply pw_below_drewN | apply below_drew1 | refine below_set ?_ GE1179.out | refine below_set ?_ GE1192.out | refine below_set ?_ GE1198.out | refine below_set ?_ GE1205.out) | exact HB.out)⟩⟩
      · replace c40 := Bool.eq_false_iff.mpr c40
        subst c40
        have H1 : (laws_FnExactTilePicture.j0 k a1 a2 t1191 t1204 true a0_0 a0_1 l0_2 t1186 t1187 t1188 t1193 t1194 t1195 t1199 t1200 t1201) = some r := by rw [if_neg (show ¬ (false = true) by decide)] at H; exact H
        clear H
        have H := H1
        clear H1
        have H' := Aside0.mk H
        clear H
        have hnb49 := NB1205_1179.out
        have hnc49 := NB1179_1205.out
        have hnb50 := NB1205_1192.out
        have hnc50 := NB1192_1205.out
        have hnb51 := NB1205_1198.out
        have hnc51 := NB1198_1205.out
        have hcz52_0 : w33.cell? ⟨gb1205, 0, none⟩ = some (.int .i64 0) := (blk_cell BK1205.out 0).trans rfl
        have hcz52_1 : w33.cell? ⟨gb1205, 1, none⟩ = some (.int .i64 0) := (blk_cell BK1205.out 1).trans rfl
        have hcz52_2 : w33.cell? ⟨gb1205, 2, none⟩ = some (.slice none 0 0) := (blk_cell BK1205.out 2).trans rfl
        have hfz52_0 := blk_frozen BK1205.out 0
        have hfz52_1 := blk_frozen BK1205.out 1
        have hfz52_2 := blk_frozen BK1205.out 2
        have hnb53 := NB1192_1179.out
        have hnc53 := NB1179_1192.out
        have hnb54 := NB1192_1198.out
        have hnc54 := NB1198_1192.out
        have hcz55_0 : w33.cell? ⟨gb1192, 0, none⟩ = some (.int .i64 t1186) := (blk_cell BK1192.out 0).trans rfl
        have hcz55_1 : w33.cell? ⟨gb1192, 1, none⟩ = some (.int .i64 t1187) := (blk_cell BK1192.out 1).trans rfl
        have hcz55_2 : w33.cell? ⟨gb1192, 2, none⟩ = some (.slice Ao24 t1188.length co24) := (blk_cell BK1192.out 2).trans rfl
        have hfz55_0 := blk_frozen BK1192.out 0
        have hfz55_1 := blk_frozen BK1192.out 1
        have hfz55_2 := blk_frozen BK1192.out 2
        go_wp2_with (first | ((with_reducible refine gate_callee (f := 50) rfl ?_); refine goesL_ (some 42) rfl rfl Try.func50 (by kernel_rfl) rfl #[.agg #[.int .i64 t1199, .int .i64 t1200, .slice Ao38 t1201.length co38], .agg #[.int .i64 t1186, .int .i64 t1187, .slice Ao24 t1188.length co24]] rfl (by (try simp only [List.map_toArray, List.map_cons, List.map_nil]); first | done | rfl | (simp only [List.length_drop, List.length_take]; rfl)) ?_; (with_reducible refine (laws_eqPicture.calls k t1199 t1200 _ _ t1201 t1186 t1187 _ _ t1188 false _ ?side1 ?side2 ?side3 ?side4 A39.out).mono ?_); (case side1 => refine (Kd.R_reads' (e := 3) (base := w.heap.size) (ok := fun k_ => (((True ∧ some k_ ≠ (.slice Ao19 t1183.length co19 : Value).ownBlock) ∧ some k_ ≠ (.slice Ao24 t1188.length co24 : Value).ownBlock) ∧ some k_ ≠ (.slice Ao31 t1195.length co31 : Value).ownBlock)) (n := t1201.length) (c := co38) ?_).2.2; exact (by (with_reducible repeat (first | apply Kd.R_alloc | apply Kd.R_drewN | apply Kd.R_drew)); exact (Kd.R_mono (Kd.R_far (p := ⟨gb1205, 2, none⟩) (Kd.R_far (p := ⟨gb1205, 1, none⟩) (Kd.R_far (p := ⟨gb1205, 0, none⟩) (Kd.R_types HO1203.out BK1205.out (by decide)) (fun _ hk => hk.2) (.int .i64 t1199)) (fun _ hk => hk.2) (.int .i64 t1200)) (fun _ hk => hk.2) (.slice Ao38 t1201.length co38)) (fun _ h_ => h_.1)))); (case side2 => exact (Kd.R_reads' HO1203.out).2.1); (case side3 => refine (Kd.R_reads' (e := 3) (base := w.heap.size) (ok := fun k_ => (((True ∧ some k_ ≠ (.slice Ao19 t1183.length co19 : Value).ownBlock) ∧ some k_ ≠ (.slice Ao31 t1195.length co31 : Value).ownBlock) ∧ some k_ ≠ (.slice Ao38 t1201.length co38 : Value).ownBlock)) (n := t1188.length) (c := co24) ?_).2.2; exact (by (with_reducible repeat (first | apply Kd.R_alloc | apply Kd.R_drewN | apply Kd.R_drew)); exact (Kd.R_mono (Kd.R_far (p := ⟨gb1205, 2, none⟩) (Kd.R_far (p := ⟨gb1205, 1, none⟩) (Kd.R_far (p := ⟨gb1205, 0, none⟩) (Kd.R_types HO1190.out BK1205.out (by decide)) (fun _ hk => hk.2) (.int .i64 t1199)) (fun _ hk => hk.2) (.int .i64 t1200)) (fun _ hk => hk.2) (.slice Ao38 t1201.length co38)) (fun _ h_ => h_.1)))); (case side4 => exact (Kd.R_reads' HO1190.out).2.1); rintro e w56 ⟨rfl, hb⟩; refine ⟨_, rfl, ?_⟩; have n0_ := Aside0.mk (Kd.R_below (by (with_reducible repeat (first | apply Kd.R_alloc | apply Kd.R_drewN | apply Kd.R_drew)); exact (Kd.R_mono (Kd.R_far (p := ⟨gb1205, 2, none⟩) (Kd.R_far (p := ⟨gb1205, 1, none⟩) (Kd.R_far (p := ⟨gb1205, 0, none⟩) (Kd.R_types HO1185.out BK1205.out (by decide)) (fun _ hk => hk.2) (.int .i64 t1199)) (fun _ hk => hk.2) (.int .i64 t1200)) (fun _ hk => hk.2) (.slice Ao38 t1201.length co38)) (fun _ h_ => h_.1))) hb); have n1_ := Aside0.mk (Kd.R_below (by (with_reducible repeat (first | apply Kd.R_alloc | apply Kd.R_drewN | apply Kd.R_drew)); exact (Kd.R_mono (Kd.R_far (p := ⟨gb1205, 2, none⟩) (Kd.R_far (p := ⟨gb1205, 1, none⟩) (Kd.R_far (p := ⟨gb1205, 0, none⟩) (Kd.R_types HO1190.out BK1205.out (by decide)) (fun _ hk => hk.2) (.int .i64 t1199)) (fun _ hk => hk.2) (.int .i64 t1200)) (fun _ hk => hk.2) (.slice Ao38 t1201.length co38)) (fun _ h_ => h_.1))) hb); have n2_ := Aside0.mk (Kd.R_below (by (with_reducible repeat (first | apply Kd.R_alloc | apply Kd.R_drewN | apply Kd.R_drew)); exact (Kd.R_mono (Kd.R_far (p := ⟨gb1205, 2, none⟩) (Kd.R_far (p := ⟨gb1205, 1, none⟩) (Kd.R_far (p := ⟨gb1205, 0, none⟩) (Kd.R_types HO1197.out BK1205.out (by decide)) (fun _ hk => hk.2) (.int .i64 t1199)) (fun _ hk => hk.2) (.int .i64 t1200)) (fun _ hk => hk.2) (.slice Ao38 t1201.length co38)) (fun _ h_ => h_.1))) hb); have n3_ := Aside0.mk (Kd.R_below (by (with_reducible repeat (first | apply Kd.R_alloc | apply Kd.R_drewN | apply Kd.R_drew)); exact (Kd.R_mono (Kd.R_far (p := ⟨gb1205, 2, none⟩) (Kd.R_far (p := ⟨gb1205, 1, none⟩) (Kd.R_far (p := ⟨gb1205, 0, none⟩) (Kd.R_types HO1203.out BK1205.out (by decide)) (fun _ hk => hk.2) (.int .i64 t1199)) (fun _ hk => hk.2) (.int .i64 t1200)) (fun _ hk => hk.2) (.slice Ao38 t1201.length co38)) (fun _ h_ => h_.1))) hb); have n4_ := Aside0.mk (blk_below (g := gb1179) (o := .cells #[.int .i64 a0_0, .int .i64 a0_1, .slice A0_2 l0_2.length c0_2] 34 (0, 0)) (by (with_reducible repeat (first | refine blk_drewN ?_ _ | refine blk_drew ?_ | refine blk_alloc ?_ _)); refine blk_far ?_ NB1179_1205.out _; (with_reducible repeat (first | refine blk_drewN ?_ _ | refine blk_drew ?_ | refine blk_alloc ?_ _)); refine blk_far ?_ NB1179_1205.out _; (with_reducible repeat (first | refine blk_drewN ?_ _ | refine blk_drew ?_ | refine blk_alloc ?_ _)); refine blk_far ?_ NB1179_1205.out _; (with_reducible repeat (first | refine blk_drewN ?_ _ | refine blk_drew ?_ | refine blk_alloc ?_ _)); exact BK1179.out) hb); have n5_ := Aside0.mk (blk_below (g := gb1192) (o := .cells #[.int .i64 t1186, .int .i64 t1187, .slice Ao24 t1188.length co24] 37 (0, 0)) (by (with_reducible repeat (first | refine blk_drewN ?_ _ | refine blk_drew ?_ | refine blk_alloc ?_ _)); refine blk_far ?_ NB1192_1205.out _; (with_reducible repeat (first | refine blk_drewN ?_ _ | refine blk_drew ?_ | refine blk_alloc ?_ _)); refine blk_far ?_ NB1192_1205.out _; (with_reducible repeat (first | refine blk_drewN ?_ _ | refine blk_drew ?_ | refine blk_alloc ?_ _)); refine blk_far ?_ NB1192_1205.out _; (with_reducible repeat (first | refine blk_drewN ?_ _ | refine blk_drew ?_ | refine blk_alloc ?_ _)); exact BK1192.out) hb); have n6_ := Aside0.mk (blk_below (g := gb1198) (o := .cells #[.int .i64 t1193, .int .i64 t1194, .slice Ao31 t1195.length co31] 37 (0, 0)) (by (with_reducible repeat (first | refine blk_drewN ?_ _ | refine blk_drew ?_ | refine blk_alloc ?_ _)); refine blk_far ?_ NB1198_1205.out _; (with_reducible repeat (first | refine blk_drewN ?_ _ | refine blk_drew ?_ | refine blk_alloc ?_ _)); refine blk_far ?_ NB1198_1205.out _; (with_reducible repeat (first | refine blk_drewN ?_ _ | refine blk_drew ?_ | refine blk_alloc ?_ _)); refine blk_far ?_ NB1198_1205.out _; (with_reducible repeat (first | refine blk_drewN ?_ _ | refine blk_drew ?_ | refine blk_alloc ?_ _)); exact BK1198.out) hb); have n7_ := Aside0.mk (blk_below (g := gb1205) (o := .cells #[.int .i64 t1199, .int .i64 t1200, .slice Ao38 t1201.length co38] 37 (0, 0)) (by (with_reducible repeat (first | refine blk_drewN ?_ _ | refine blk_drew ?_ | refine blk_alloc ?_ _)); refine blk_put (cs := #[.int .i64 t1199, .int .i64 t1200, .slice none 0 0]) ?_ 2 _ rfl; (with_reducible repeat (first | refine blk_drewN ?_ _ | refine blk_drew ?_ | refine blk_alloc ?_ _)); refine blk_put (cs := #[.int .i64 t1199, .int .i64 0, .slice none 0 0]) ?_ 1 _ rfl; (with_reducible repeat (first | refine blk_drewN ?_ _ | refine blk_drew ?_ | refine blk_alloc ?_ _)); refine blk_put (cs := #[.int .i64 0, .int .i64 0, .slice none 0 0]) ?_ 0 _ rfl; (with_reducible repeat (first | refine blk_drewN ?_ _ | refine blk_drew ?_ | refine blk_alloc ?_ _)); exact BK1205.out) hb); have n8_ := Aside0.mk (below_step (by repeat (first | (with_reducible first | exact HB.out | apply below_alloc | apply pw_below_drewN | apply below_drew1 | refine below_set ?_ GE1179.out | refine below_set ?_ GE1192.out | refine below_set ?_ GE1198.out | refine below_set ?_ GE1205.out) | exact HB.out)) hb); clear HO1185; clear HO1190; clear HO1197; clear HO1203; clear BK1179; clear BK1192; clear BK1198; clear BK1205; clear HB; have HO1185 := n0_; have HO1190 := n1_; have HO1197 := n2_; have HO1203 := n3_; have BK1179 := n4_; have BK1192 := n5_; have BK1198 := n6_; have BK1205 := n7_; have HB := n8_; clear n0_ n1_ n2_ n3_ n4_ n5_ n6_ n7_ n8_; (try clear hb); (try clear hb2); (try clear hk); (try clear hi)))
        go_meet
        case rel => exact ⟨_, (true), (by first | rfl | (simp; done) | (simp [*]; done)), H', ⟨by first | omega | exact Nat.le_refl _⟩, ⟨by (with_reducible repeat (first | apply Kd.R_alloc | apply Kd.R_drewN | apply Kd.R_drew)); exact Kd.R_mono HO1190.out (fun _ hk => ⟨hk.1.2, hk.2⟩)⟩, ⟨by (with_reducible repeat (first | apply Kd.R_alloc | apply Kd.R_drewN | apply Kd.R_drew)); exact Kd.R_mono HO1197.out (fun _ hk => ⟨hk.1.2, hk.2⟩)⟩, ⟨by (with_reducible repeat (first | apply Kd.R_alloc | apply Kd.R_drewN | apply Kd.R_drew)); exact Kd.R_mono HO1203.out (fun _ hk => ⟨hk.1.2, hk.2⟩)⟩, ⟨by (with_reducible repeat (first | refine blk_drewN ?_ _ | refine blk_drew ?_ | refine blk_alloc ?_ _)); exact BK1179.out⟩, ⟨by (with_reducible repeat (first | refine blk_drewN ?_ _ | refine blk_drew ?_ | refine blk_alloc ?_ _)); exact BK1192.out⟩, ⟨by (with_reducible repeat (first | refine blk_drewN ?_ _ | refine blk_drew ?_ | refine blk_alloc ?_ _)); exact BK1198.out⟩, ⟨by (with_reducible repeat (first | refine blk_drewN ?_ _ | refine blk_drew ?_ | refine blk_alloc ?_ _)); exact BK1205.out⟩, ⟨by repeat (first | (with_reducible first | exact HB.out | apply below_alloc | apply pw_below_drewN | apply below_drew1 | refine below_set ?_ GE1179.out | refine below_set ?_ GE1192.out | refine below_set ?_ GE1198.out | refine below_set ?_ GE1205.out) | exact HB.out)⟩⟩
    case rest =>
      clear HC13
      try clear c2
      try clear p2
      try clear c3
      try clear c4
      try clear c5
      try clear c5b0
      try clear c8
      try clear c9
      try clear c22
      try clear c26
      try clear c28
      try clear c29
      try clear c34
      try clear c35
      try clear c36
      try clear c40
      try clear c41
      try clear c42
      try clear c43
      try clear c45
      try clear c46
      try clear c48
      try clear c49
      try clear c50
      try clear c51
      try clear c53
      try clear c54
      try clear hcz15_0
      try clear hcz15_1
      try clear hcz15_2
      try clear hcz17_0
      try clear hcz17_1
      try clear hcz17_2
      try clear hcz23_0
      try clear hcz23_1
      try clear hcz23_2
      try clear hcz25_0
      try clear hcz25_1
      try clear hcz25_2
      try clear hcz30_0
      try clear hcz30_1
      try clear hcz30_2
      try clear hcz37_0
      try clear hcz37_1
      try clear hcz37_2
      try clear hcz44_0
      try clear hcz44_1
      try clear hcz44_2
      try clear hcz47_0
      try clear hcz47_1
      try clear hcz47_2
      try clear hcz52_0
      try clear hcz52_1
      try clear hcz52_2
      try clear hcz55_0
      try clear hcz55_1
      try clear hcz55_2
      try clear hcz7_0
      try clear hcz7_1
      try clear hcz7_2
      try clear hfz15_0
      try clear hfz15_1
      try clear hfz15_2
      try clear hfz17_0
      try clear hfz17_1
      try clear hfz17_2
      try clear hfz23_0
      try clear hfz23_1
      try clear hfz23_2
      try clear hfz25_0
      try clear hfz25_1
      try clear hfz25_2
      try clear hfz30_0
      try clear hfz30_1
      try clear hfz30_2
      try clear hfz37_0
      try clear hfz37_1
      try clear hfz37_2
      try clear hfz44_0
      try clear hfz44_1
      try clear hfz44_2
      try clear hfz47_0
      try clear hfz47_1
      try clear hfz47_2
      try clear hfz52_0
      try clear hfz52_1
      try clear hfz52_2
      try clear hfz55_0
      try clear hfz55_1
      try clear hfz55_2
      try clear hfz7_0
      try clear hfz7_1
      try clear hfz7_2
      obtain ⟨kq, x48_12, rfl, HA, HJ12, HO_1193002, HO_1199002, HO_1206002, BK1179, BK1192, BK1198, BK1205, HB⟩ := hcut
      cases kq with
      | zero => exact absurd HA.out (by simp [laws_FnExactTilePicture.j0])
      | succ kj12 =>
        have H := HA.out
        clear HA
        simp only [laws_FnExactTilePicture.j0] at H
        by_cases c57 : x48_12 = true
        · subst c57
          have H1 : (some false) = some r := by rw [if_pos rfl] at H; exact H
          clear H
          have H := H1
          clear H1
          exact absurd ((Option.some.inj H).trans hT.out) (by decide)
        · replace c57 := Bool.eq_false_iff.mpr c57
          subst c57
          have H1 : ((laws_toPicture.f kj12 a0_0 a0_1 l0_2).bind fun bt1207 => ((laws_eqPicture.f kj12 t1193 t1194 t1195 bt1207.1 bt1207.2.1 bt1207.2.2).bind fun t1212 => (if t1212 = true then ((laws_markPicture.f kj12 t1193 t1194 t1195 1).bind fun bt1213 => (if bt1213.1 < 0 then (laws_FnExactTilePicture.j1 kj12 a1 a2 t1191 true a0_0 a0_1 l0_2 t1186 t1187 t1188 t1199 t1200 t1201) else ((laws_eqPicture.f kj12 t1199 t1200 t1201 t1186 t1187 t1188).bind fun t1215 => (if t1215 = true then (laws_FnExactTilePicture.j1 kj12 a1 a2 t1191 (t1204 != t1191) a0_0 a0_1 l0_2 t1186 t1187 t1188 t1199 t1200 t1201) else (laws_FnExactTilePicture.j1 kj12 a1 a2 t1191 true a0_0 a0_1 l0_2 t1186 t1187 t1188 t1199 t1200 t1201))))) else (some false)))) = some r := by rw [if_neg (show ¬ (false = true) by decide)] at H; exact H
          clear H
          have H := H1
          clear H1
          replace H := Option.bind_eq_some_iff.mp H
          obtain ⟨⟨t1207, t1208, t1209⟩, A580, H⟩ := H
          replace H : ((laws_eqPicture.f kj12 t1193 t1194 t1195 t1207 t1208 t1209).bind fun t1212 => (if t1212 = true then ((laws_markPicture.f kj12 t1193 t1194 t1195 1).bind fun bt1213 => (if bt1213.1 < 0 then (laws_FnExactTilePicture.j1 kj12 a1 a2 t1191 true a0_0 a0_1 l0_2 t1186 t1187 t1188 t1199 t1200 t1201) else ((laws_eqPicture.f kj12 t1199 t1200 t1201 t1186 t1187 t1188).bind fun t1215 => (if t1215 = true then (laws_FnExactTilePicture.j1 kj12 a1 a2 t1191 (t1204 != t1191) a0_0 a0_1 l0_2 t1186 t1187 t1188 t1199 t1200 t1201) else (laws_FnExactTilePicture.j1 kj12 a1 a2 t1191 true a0_0 a0_1 l0_2 t1186 t1187 t1188 t1199 t1200 t1201))))) else (some false))) = some r := H
          have A58 := Aside0.mk A580
          clear A580
          replace H := Option.bind_eq_some_iff.mp H
          obtain ⟨t1212, A590, H⟩ := H
          replace H : (if t1212 = true then ((laws_markPicture.f kj12 t1193 t1194 t1195 1).bind fun bt1213 => (if bt1213.1 < 0 then (laws_FnExactTilePicture.j1 kj12 a1 a2 t1191 true a0_0 a0_1 l0_2 t1186 t1187 t1188 t1199 t1200 t1201) else ((laws_eqPicture.f kj12 t1199 t1200 t1201 t1186 t1187 t1188).bind fun t1215 => (if t1215 = true then (laws_FnExactTilePicture.j1 kj12 a1 a2 t1191 (t1204 != t1191) a0_0 a0_1 l0_2 t1186 t1187 t1188 t1199 t1200 t1201) else (laws_FnExactTilePicture.j1 kj12 a1 a2 t1191 true a0_0 a0_1 l0_2 t1186 t1187 t1188 t1199 t1200 t1201))))) else (some false)) = some r := H
          have A59 := Aside0.mk A590
          clear A590
          by_cases c60 : t1212 = true
          · subst c60
            have H1 : ((laws_markPicture.f kj12 t1193 t1194 t1195 1).bind fun bt1213 => (if bt1213.1 < 0 then (laws_FnExactTilePicture.j1 kj12 a1 a2 t1191 true a0_0 a0_1 l0_2 t1186 t1187 t1188 t1199 t1200 t1201) else ((laws_eqPicture.f kj12 t1199 t1200 t1201 t1186 t1187 t1188).bind fun t1215 => (if t1215 = true then (laws_FnExactTilePicture.j1 kj12 a1 a2 t1191 (t1204 != t1191) a0_0 a0_1 l0_2 t1186 t1187 t1188 t1199 t1200 t1201) else (laws_FnExactTilePicture.j1 kj12 a1 a2 t1191 true a0_0 a0_1 l0_2 t1186 t1187 t1188 t1199 t1200 t1201))))) = some r := by rw [if_pos rfl] at H; exact H
            clear H
            have H := H1
            clear H1
            replace H := Option.bind_eq_some_iff.mp H
            obtain ⟨⟨t1213, t1214⟩, A610, H⟩ := H
            replace H : (if t1213 < 0 then (laws_FnExactTilePicture.j1 kj12 a1 a2 t1191 true a0_0 a0_1 l0_2 t1186 t1187 t1188 t1199 t1200 t1201) else ((laws_eqPicture.f kj12 t1199 t1200 t1201 t1186 t1187 t1188).bind fun t1215 => (if t1215 = true then (laws_FnExactTilePicture.j1 kj12 a1 a2 t1191 (t1204 != t1191) a0_0 a0_1 l0_2 t1186 t1187 t1188 t1199 t1200 t1201) else (laws_FnExactTilePicture.j1 kj12 a1 a2 t1191 true a0_0 a0_1 l0_2 t1186 t1187 t1188 t1199 t1200 t1201)))) = some r := H
            have A61 := Aside0.mk A610
            clear A610
            have HC62 := Aside0.mk H
            clear H
            try go_wp2
            have n0_ := Aside0.mk (Kd.R_drew HO_1193002.out)
            have n1_ := Aside0.mk (Kd.R_drew HO_1199002.out)
            have n2_ := Aside0.mk (Kd.R_drew HO_1206002.out)
            have n3_ := Aside0.mk (blk_drew BK1179.out)
            have n4_ := Aside0.mk (blk_drew BK1192.out)
            have n5_ := Aside0.mk (blk_drew BK1198.out)
            have n6_ := Aside0.mk (blk_drew BK1205.out)
            have n7_ := Aside0.mk (below_drew1 HB.out)
            clear HO_1193002
            clear HO_1199002
            clear HO_1206002
            clear BK1179
            clear BK1192
            clear BK1198
            clear BK1205
            clear HB
            have HO_1193002 := n0_
            have HO_1199002 := n1_
            have HO_1206002 := n2_
            have BK1179 := n3_
            have BK1192 := n4_
            have BK1198 := n5_
            have BK1205 := n6_
            have HB := n7_
            clear n0_ n1_ n2_ n3_ n4_ n5_ n6_ n7_
            refine start_ (n := 5) (S := fun w' => w'.cell? ⟨gb1198, 0, none⟩ = some (.int .i64 t1193) ∧ w'.cell? ⟨gb1198, 1, none⟩ = some (.int .i64 t1194) ∧ w'.cell? ⟨gb1198, 2, none⟩ = some (.slice Ao31 t1195.length co31) ∧ w'.cell? ⟨gb1179, 0, none⟩ = some (.int .i64 a0_0) ∧ w'.cell? ⟨gb1179, 1, none⟩ = some (.int .i64 a0_1) ∧ w'.cell? ⟨gb1179, 2, none⟩ = some (.slice A0_2 l0_2.length c0_2)) (ds := []) #[false, false, false, false, false] (by kernel_rfl) rfl rfl ⟨(blk_cell BK1198.out 0).trans rfl, (blk_cell BK1198.out 1).trans rfl, (blk_cell BK1198.out 2).trans rfl, (blk_cell BK1179.out 0).trans rfl, (blk_cell BK1179.out 1).trans rfl, (blk_cell BK1179.out 2).trans rfl⟩ (fun hHeld => ?_)
            generalize wc.drew = w63 at HO_1193002 HO_1199002 HO_1206002 BK1179 BK1192 BK1198 BK1205 HB hHeld ⊢
            refine take_ (i := 0) (N := some 49) (v := ?_) (a' := ?_) #[true, false, false, false, false] rfl rfl (by kernel_rfl) (fun _ _ _ h => h) (Or.inl ⟨by rfl, ?_⟩) hHeld ?_ ?_
            rotate_left
            · rintro w' ⟨s0, s1, s2, s3, s4, s5⟩
              go_simp
              with_reducible rfl
            rotate_left
            · simp only [Act.put, List.setIfInBounds_toArray, List.set_cons_zero, List.set_cons_succ, i64_w, i32_w]
              rfl
            refine take_ (i := 1) (N := some 50) (v := ?_) (a' := ?_) #[true, true, false, false, false] rfl rfl (by kernel_rfl) (fun _ _ _ h => h) (Or.inl ⟨by rfl, ?_⟩) hHeld ?_ ?_
            rotate_left
            · rintro w' ⟨s0, s1, s2, s3, s4, s5⟩
              go_simp
              with_reducible rfl
            rotate_left
            · simp only [Act.put, List.setIfInBounds_toArray, List.set_cons_zero, List.set_cons_succ, i64_w, i32_w]
              rfl
            refine one_ (i := 2) (N := some 51) #[true, true, true, false, false] rfl rfl (by kernel_rfl) (by decide) (fun K hK => ?_)
            refine goes_ Try.func48 (by kernel_rfl) rfl #[.agg #[.int .i64 a0_0, .int .i64 a0_1, .slice A0_2 l0_2.length c0_2]] (by rfl) rfl rfl (by (try simp only [List.map_toArray, List.map_cons, List.map_nil]); first | done | rfl | (simp only [List.length_drop, List.length_take]; rfl)) ?_
            with_reducible refine (laws_toPicture.calls kj12 a0_0 a0_1 _ _ l0_2 t1207 t1208 t1209 _ ?side1 ?side2 A58.out).mono ?_
            (case side1 => repeat (first | exact (Kd.C_below HR0_2.out HB.out) | (with_reducible refine Kd.C_alloc ?_ _) | (with_reducible refine Kd.C_drewN ?_ _) | (with_reducible refine Kd.C_drew ?_)))
            (case side2 => exact HC0_2.out)
            rintro e w64 ⟨v1210, rfl, ho0, hb⟩
            refine ⟨_, rfl, ?_⟩
            have n0_ := Aside0.mk (Kd.R_elder' (by (with_reducible repeat (first | apply Kd.R_alloc | apply Kd.R_drewN | apply Kd.R_drew)); exact HO_1193002.out) (Kd.R_base ho0) hb)
            have n1_ := Aside0.mk (Kd.R_elder' (by (with_reducible repeat (first | apply Kd.R_alloc | apply Kd.R_drewN | apply Kd.R_drew)); exact HO_1199002.out) (Kd.R_base ho0) hb)
            have n2_ := Aside0.mk (Kd.R_elder' (by (with_reducible repeat (first | apply Kd.R_alloc | apply Kd.R_drewN | apply Kd.R_drew)); exact HO_1206002.out) (Kd.R_base ho0) hb)
            have n3_ := Aside0.mk (Kd.R_lower (Kd.R_new' (Kd.R_new' (Kd.R_new' ho0 (Kd.R_lt (by (with_reducible repeat (first | apply Kd.R_alloc | apply Kd.R_drewN | apply Kd.R_drew)); exact HO_1193002.out))) (Kd.R_lt (by (with_reducible repeat (first | apply Kd.R_alloc | apply Kd.R_drewN | apply Kd.R_drew)); exact HO_1199002.out))) (Kd.R_lt (by (with_reducible repeat (first | apply Kd.R_alloc | apply Kd.R_drewN | apply Kd.R_drew)); exact HO_1206002.out))) (below_size (by repeat (first | (with_reducible first | exact HB.out | apply below_alloc | apply pw_below_drewN | apply below_drew1 | refine below_set ?_ GE1179.out | refine below_set ?_ GE1192.out | refine below_set ?_ GE1198.out | refine below_set ?_ GE1205.out) | exact HB.out))))
            have n4_ := Aside0.mk (blk_below (g := gb1179) (o := .cells #[.int .i64 a0_0, .int .i64 a0_1, .slice A0_2 l0_2.length c0_2] 34 (0, 0)) (by (with_reducible repeat (first | refine blk_drewN ?_ _ | refine blk_drew ?_ | refine blk_alloc ?_ _)); exact BK1179.out) hb)
            have n5_ := Aside0.mk (blk_below (g := gb1192) (o := .cells #[.int .i64 t1186, .int .i64 t1187, .slice Ao24 t1188.length co24] 37 (0, 0)) (by (with_reducible repeat (first | refine blk_drewN ?_ _ | refine blk_drew ?_ | refine blk_alloc ?_ _)); exact BK1192.out) hb)
            have n6_ := Aside0.mk (blk_below (g := gb1198) (o := .cells #[.int .i64 t1193, .int .i64 t1194, .slice Ao31 t1195.length co31] 37 (0, 0)) (by (with_reducible repeat (first | refine blk_drewN ?_ _ | refine blk_drew ?_ | refine blk_alloc ?_ _)); exact BK1198.out) hb)
            have n7_ := Aside0.mk (blk_below (g := gb1205) (o := .cells #[.int .i64 t1199, .int .i64 t1200, .slice Ao38 t1201.length co38] 37 (0, 0)) (by (with_reducible repeat (first | refine blk_drewN ?_ _ | refine blk_drew ?_ | refine blk_alloc ?_ _)); exact BK1205.out) hb)
            have n8_ := Aside0.mk (below_step (by repeat (first | (with_reducible first | exact HB.out | apply below_alloc | apply pw_below_drewN | apply below_drew1 | refine below_set ?_ GE1179.out | refine below_set ?_ GE1192.out | refine below_set ?_ GE1198.out | refine below_set ?_ GE1205.out) | exact HB.out)) hb)
            clear HO_1193002
            clear HO_1199002
            clear HO_1206002
            clear BK1179
            clear BK1192
            clear BK1198
            clear BK1205
            clear HB
            have HO_1193002 := n0_
            have HO_1199002 := n1_
            have HO_1206002 := n2_
            have HO1211 := n3_
            have BK1179 := n4_
            have BK1192 := n5_
            have BK1198 := n6_
            have BK1205 := n7_
            have HB := n8_
            clear n0_ n1_ n2_ n3_ n4_ n5_ n6_ n7_ n8_
            (try clear hb)
            (try clear hb2)
            (try clear hk)
            (try clear hi)
            (try clear ho0)
            obtain ⟨Ao65, co65, eo65⟩ := Kd.R_slice HO1211.out
            (first | subst eo65 | (injection eo65 with f1_ f2_ f3_; have f4_ := f1_.symm; have f5_ := f3_.symm; clear f1_ f2_ f3_; subst f4_; subst f5_))
            refine hK.out _ _ ⟨(blk_cell BK1198.out 0).trans rfl, (blk_cell BK1198.out 1).trans rfl, (blk_cell BK1198.out 2).trans rfl, (blk_cell BK1179.out 0).trans rfl, (blk_cell BK1179.out 1).trans rfl, (blk_cell BK1179.out 2).trans rfl⟩ (fun hHeld => ?_)
            clear hK K
            refine norm_ (a' := ?_) ?_ ?_
            rotate_left
            · show Act.put _ (some 51) _ = _
              simp only [Act.put, List.setIfInBounds_toArray, List.set_cons_zero, List.set_cons_succ, i64_w, i32_w]
              rfl
            refine one_ (i := 3) (N := some 52) #[true, true, true, true, false] rfl rfl (by kernel_rfl) (by decide) (fun K hK => ?_)
            refine goes_ Try.func50 (by kernel_rfl) rfl #[.agg #[.int .i64 t1193, .int .i64 t1194, .slice Ao31 t1195.length co31], .agg #[.int .i64 t1207, .int .i64 t1208, .slice Ao65 t1209.length co65]] (by rfl) rfl rfl (by (try simp only [List.map_toArray, List.map_cons, List.map_nil]); first | done | rfl | (simp only [List.length_drop, List.length_take]; rfl)) ?_
            with_reducible refine (laws_eqPicture.calls kj12 t1193 t1194 _ _ t1195 t1207 t1208 _ _ t1209 true _ ?side1 ?side2 ?side3 ?side4 A59.out).mono ?_
            (case side1 => repeat (first | exact (Kd.R_reads' HO_1199002.out).2.2 | (with_reducible refine Kd.C_alloc ?_ _) | (with_reducible refine Kd.C_drewN ?_ _) | (with_reducible refine Kd.C_drew ?_)))
            (case side2 => exact (Kd.R_reads' HO_1199002.out).2.1)
            (case side3 => repeat (first | exact (Kd.R_reads' HO1211.out).2.2 | (with_reducible refine Kd.C_alloc ?_ _) | (with_reducible refine Kd.C_drewN ?_ _) | (with_reducible refine Kd.C_drew ?_)))
            (case side4 => exact (Kd.R_reads' HO1211.out).2.1)
            rintro e w66 ⟨rfl, hb⟩
            refine ⟨_, rfl, ?_⟩
            have n0_ := Aside0.mk (Kd.R_below (by (with_reducible repeat (first | apply Kd.R_alloc | apply Kd.R_drewN | apply Kd.R_drew)); exact HO_1193002.out) hb)
            have n1_ := Aside0.mk (Kd.R_below (by (with_reducible repeat (first | apply Kd.R_alloc | apply Kd.R_drewN | apply Kd.R_drew)); exact HO_1199002.out) hb)
            have n2_ := Aside0.mk (Kd.R_below (by (with_reducible repeat (first | apply Kd.R_alloc | apply Kd.R_drewN | apply Kd.R_drew)); exact HO_1206002.out) hb)
            have n3_ := Aside0.mk (Kd.R_below (by (with_reducible repeat (first | apply Kd.R_alloc | apply Kd.R_drewN | apply Kd.R_drew)); exact HO1211.out) hb)
            have n4_ := Aside0.mk (blk_below (g := gb1179) (o := .cells #[.int .i64 a0_0, .int .i64 a0_1, .slice A0_2 l0_2.length c0_2] 34 (0, 0)) (by (with_reducible repeat (first | refine blk_drewN ?_ _ | refine blk_drew ?_ | refine blk_alloc ?_ _)); exact BK1179.out) hb)
            have n5_ := Aside0.mk (blk_below (g := gb1192) (o := .cells #[.int .i64 t1186, .int .i64 t1187, .slice Ao24 t1188.length co24] 37 (0, 0)) (by (with_reducible repeat (first | refine blk_drewN ?_ _ | refine blk_drew ?_ | refine blk_alloc ?_ _)); exact BK1192.out) hb)
            have n6_ := Aside0.mk (blk_below (g := gb1198) (o := .cells #[.int .i64 t1193, .int .i64 t1194, .slice Ao31 t1195.length co31] 37 (0, 0)) (by (with_reducible repeat (first | refine blk_drewN ?_ _ | refine blk_drew ?_ | refine blk_alloc ?_ _)); exact BK1198.out) hb)
            have n7_ := Aside0.mk (blk_below (g := gb1205) (o := .cells #[.int .i64 t1199, .int .i64 t1200, .slice Ao38 t1201.length co38] 37 (0, 0)) (by (with_reducible repeat (first | refine blk_drewN ?_ _ | refine blk_drew ?_ | refine blk_alloc ?_ _)); exact BK1205.out) hb)
            have n8_ := Aside0.mk (below_step (by repeat (first | (with_reducible first | exact HB.out | apply below_alloc | apply pw_below_drewN | apply below_drew1 | refine below_set ?_ GE1179.out | refine below_set ?_ GE1192.out | refine below_set ?_ GE1198.out | refine below_set ?_ GE1205.out) | exact HB.out)) hb)
            clear HO_1193002
            clear HO_1199002
            clear HO_1206002
            clear HO1211
            clear BK1179
            clear BK1192
            clear BK1198
            clear BK1205
            clear HB
            have HO_1193002 := n0_
            have HO_1199002 := n1_
            have HO_1206002 := n2_
            have HO1211 := n3_
            have BK1179 := n4_
            have BK1192 := n5_
            have BK1198 := n6_
            have BK1205 := n7_
            have HB := n8_
            clear n0_ n1_ n2_ n3_ n4_ n5_ n6_ n7_ n8_
            (try clear hb)
            (try clear hb2)
            (try clear hk)
            (try clear hi)
            refine hK.out _ _ ⟨(blk_cell BK1198.out 0).trans rfl, (blk_cell BK1198.out 1).trans rfl, (blk_cell BK1198.out 2).trans rfl, (blk_cell BK1179.out 0).trans rfl, (blk_cell BK1179.out 1).trans rfl, (blk_cell BK1179.out 2).trans rfl⟩ (fun hHeld => ?_)
            clear hK K
            refine norm_ (a' := ?_) ?_ ?_
            rotate_left
            · show Act.put _ (some 52) _ = _
              simp only [Act.put, List.setIfInBounds_toArray, List.set_cons_zero, List.set_cons_succ, i64_w, i32_w]
              rfl
            refine pure_ (i := 4) (N := some 53) (v := ?_) (a' := ?_) #[true, true, true, true, true] rfl rfl (by kernel_rfl) (fun _ _ _ h => h) (Or.inl ⟨by rfl, ?_⟩) ?_ ?_
            rotate_left
            · intro w'
              go_simp
              with_reducible rfl
            rotate_left
            · simp only [Act.put, List.setIfInBounds_toArray, List.set_cons_zero, List.set_cons_succ, i64_w, i32_w]
              rfl
            refine done_ (by kernel_rfl) ?_
            have hnb67 := NB1198_1179.out
            have hnc67 := NB1179_1198.out
            have hnb68 := NB1198_1192.out
            have hnc68 := NB1192_1198.out
            have hnb69 := NB1198_1205.out
            have hnc69 := NB1205_1198.out
            have hcz70_0 : w66.cell? ⟨gb1198, 0, none⟩ = some (.int .i64 t1193) := (blk_cell BK1198.out 0).trans rfl
            have hcz70_1 : w66.cell? ⟨gb1198, 1, none⟩ = some (.int .i64 t1194) := (blk_cell BK1198.out 1).trans rfl
            have hcz70_2 : w66.cell? ⟨gb1198, 2, none⟩ = some (.slice Ao31 t1195.length co31) := (blk_cell BK1198.out 2).trans rfl
            have hfz70_0 := blk_frozen BK1198.out 0
            have hfz70_1 := blk_frozen BK1198.out 1
            have hfz70_2 := blk_frozen BK1198.out 2
            go_upto_region 14 with (first | ((with_reducible refine gate_callee (f := 58) rfl ?_); refine goesL_ (some 56) rfl rfl Try.func58 (by kernel_rfl) rfl #[.agg #[.int .i64 t1193, .int .i64 t1194, .slice Ao31 t1195.length co31], .int .i64 1] rfl (by (try simp only [List.map_toArray, List.map_cons, List.map_nil]); first | done | rfl | (simp only [List.length_drop, List.length_take]; rfl)) ?_; (with_reducible refine (laws_markPicture.calls kj12 t1193 t1194 (fun k_ => some k_ = (.slice Ao31 t1195.length co31 : Value).ownBlock) (.slice Ao31 t1195.length co31) t1195 1 t1213 t1214 w _ ?side1 ?side2 A61.out).mono ?_); (case side1 => repeat (first | (with_reducible first | exact HB.out | apply below_alloc | apply pw_below_drewN | apply below_drew1 | refine below_set ?_ GE1179.out | refine below_set ?_ GE1192.out | refine below_set ?_ GE1198.out | refine below_set ?_ GE1205.out) | exact HB.out)); (case side2 => exact Kd.R_tight rfl HO_1199002.out); rintro e w71 ⟨rfl, hy0, hb, hkp⟩; refine ⟨_, rfl, ?_⟩; have n0_ := Aside0.mk (Kd.R_mono (ok' := fun k_ => some k_ ≠ (.slice Ao31 t1195.length co31 : Value).ownBlock ∧ some k_ ≠ (.slice Ao38 t1201.length co38 : Value).ownBlock ∧ some k_ ≠ (.slice Ao65 t1209.length co65 : Value).ownBlock) (Kd.R_keptB (HO_1193002.out) hkp (fun k_ hk_ hs_ => (hk_.1.1) hs_)) (fun k_ hk_ => ⟨hk_.1.1.1, hk_.1.1.2, hk_.1.2⟩)); have n1_ := Aside0.mk (Kd.R_reok rfl hy0 (fun k_ e_ => HO_1199002.out.1 k_ e_)); have n2_ := Aside0.mk (Kd.R_mono (ok' := fun k_ => some k_ ≠ (.slice Ao24 t1188.length co24 : Value).ownBlock ∧ some k_ ≠ (.slice Ao31 t1195.length co31 : Value).ownBlock ∧ some k_ ≠ (.slice Ao65 t1209.length co65 : Value).ownBlock) (Kd.R_keptB (HO_1206002.out) hkp (fun k_ hk_ hs_ => (hk_.1.2) hs_)) (fun k_ hk_ => ⟨hk_.1.1.1, hk_.1.1.2, hk_.1.2⟩)); have n3_ := Aside0.mk (blk_kept (by (with_reducible repeat (first | refine blk_drewN ?_ _ | refine blk_drew ?_ | refine blk_alloc ?_ _)); exact BK1179.out) hkp (fun hs_ => (fun e_ => (Kd.R_ne HO_1199002.out BK1179.out (by decide)) e_) hs_)); have n4_ := Aside0.mk (blk_kept (by (with_reducible repeat (first | refine blk_drewN ?_ _ | refine blk_drew ?_ | refine blk_alloc ?_ _)); exact BK1192.out) hkp (fun hs_ => (fun e_ => (Kd.R_ne HO_1199002.out BK1192.out (by decide)) e_) hs_)); have n5_ := Aside0.mk (blk_kept (by (with_reducible repeat (first | refine blk_drewN ?_ _ | refine blk_drew ?_ | refine blk_alloc ?_ _)); exact BK1198.out) hkp (fun hs_ => (fun e_ => (Kd.R_ne HO_1199002.out BK1198.out (by decide)) e_) hs_)); have n6_ := Aside0.mk (blk_kept (by (with_reducible repeat (first | refine blk_drewN ?_ _ | refine blk_drew ?_ | refine blk_alloc ?_ _)); exact BK1205.out) hkp (fun hs_ => (fun e_ => (Kd.R_ne HO_1199002.out BK1205.out (by decide)) e_) hs_)); have n7_ := Aside0.mk (Kd.R_mono (ok' := fun k_ => some k_ ≠ (.slice Ao24 t1188.length co24 : Value).ownBlock ∧ some k_ ≠ (.slice Ao31 t1195.length co31 : Value).ownBlock ∧ some k_ ≠ (.slice Ao38 t1201.length co38 : Value).ownBlock) (Kd.R_keptB (HO1211.out) hkp (fun k_ hk_ hs_ => (hk_.1.2) hs_)) (fun k_ hk_ => ⟨hk_.1.1.1.2, hk_.1.1.2, hk_.1.2⟩)); have n8_ := Aside0.mk (hb); clear HO_1193002; clear HO_1199002; clear HO_1206002; clear BK1179; clear BK1192; clear BK1198; clear BK1205; clear HO1211; clear HB; have HO_1193002 := n0_; have HO_1199002 := n1_; have HO_1206002 := n2_; have BK1179 := n3_; have BK1192 := n4_; have BK1198 := n5_; have BK1205 := n6_; have HO1211 := n7_; have HB := n8_; clear n0_ n1_ n2_ n3_ n4_ n5_ n6_ n7_ n8_; (try clear hb); (try clear hkp); (try clear hy0)))
            (try simp only [Act.put, List.setIfInBounds_toArray, List.set_cons_zero, List.set_cons_succ])
            go_cut [69] (fun v69 wc => ∃ (kq : Nat) (x69_61 : Bool), v69 = .bool x69_61 ∧ Aside0 (laws_FnExactTilePicture.j1 kq a1 a2 t1191 x69_61 a0_0 a0_1 l0_2 t1186 t1187 t1188 t1199 t1200 t1201 = some r) ∧ Aside0 (kq ≤ kj12) ∧ Aside0 (Kd.R (Kd.int .i64) 3 wc w.heap.size (fun k_ => some k_ ≠ ((.slice Ao31 t1195.length co31) : Value).ownBlock ∧ some k_ ≠ ((.slice Ao38 t1201.length co38) : Value).ownBlock) (.slice Ao24 t1188.length co24) t1188) ∧ Aside0 (Kd.R (Kd.int .i64) 3 wc w.heap.size (fun k_ => some k_ ≠ ((.slice Ao24 t1188.length co24) : Value).ownBlock ∧ some k_ ≠ ((.slice Ao38 t1201.length co38) : Value).ownBlock) (.slice Ao31 t1195.length co31) t1214) ∧ Aside0 (Kd.R (Kd.int .i64) 3 wc w.heap.size (fun k_ => some k_ ≠ ((.slice Ao24 t1188.length co24) : Value).ownBlock ∧ some k_ ≠ ((.slice Ao31 t1195.length co31) : Value).ownBlock) (.slice Ao38 t1201.length co38) t1201) ∧ Aside0 (wc.heap[gb1179]? = some (.cells #[.int .i64 a0_0, .int .i64 a0_1, (.slice A0_2 l0_2.length c0_2)] 34 (0, 0))) ∧ Aside0 (wc.heap[gb1192]? = some (.cells #[.int .i64 t1186, .int .i64 t1187, (.slice Ao24 t1188.length co24)] 37 (0, 0))) ∧ Aside0 (wc.heap[gb1198]? = some (.cells #[.int .i64 t1193, .int .i64 t1194, (.slice Ao31 t1195.length co31)] 37 (0, 0))) ∧ Aside0 (wc.heap[gb1205]? = some (.cells #[.int .i64 t1199, .int .i64 t1200, (.slice Ao38 t1201.length co38)] 37 (0, 0))) ∧ Aside0 (Below w.heap.size w wc))
            case first =>
              have H := HC62.out
              clear HC62
              by_cases c72 : t1213 < 0
              · rw [if_pos c72] at H
                have c72b0 : decide (t1213 < 0) = true := decide_eq_true c72
                clear c72
                (first | rw [c72b0] | (simp only [i64_w, i32_w]; rw [c72b0]) | skip)
                have H' := Aside0.mk H
                clear H
                go_wp2
                go_meet
                case rel => exact ⟨_, (true), (by first | rfl | (simp; done) | (simp [*]; done)), H', ⟨by have := HJ12.out; first | omega | exact Nat.le_refl _⟩, ⟨by (with_reducible repeat (first | apply Kd.R_alloc | apply Kd.R_drewN | apply Kd.R_drew)); exact Kd.R_mono HO_1193002.out (fun _ hk => ⟨hk.1, hk.2.1⟩)⟩, ⟨by (with_reducible repeat (first | apply Kd.R_alloc | apply Kd.R_drewN | apply Kd.R_drew)); exact Kd.R_mono HO_1199002.out (fun _ hk => ⟨hk.1.1, hk.1.2⟩)⟩, ⟨by (with_reducible repeat (first | apply Kd.R_alloc | apply Kd.R_drewN | apply Kd.R_drew)); exact Kd.R_mono HO_1206002.out (fun _ hk => ⟨hk.1, hk.2.1⟩)⟩, ⟨by (with_reducible repeat (first | refine blk_drewN ?_ _ | refine blk_drew ?_ | refine blk_alloc ?_ _)); exact BK1179.out⟩, ⟨by (with_reducible repeat (first | refine blk_drewN ?_ _ | refine blk_drew ?_ | refine blk_alloc ?_ _)); exact BK1192.out⟩, ⟨by (with_reducible repeat (first | refine blk_drewN ?_ _ | refine blk_drew ?_ | refine blk_alloc ?_ _)); exact BK1198.out⟩, ⟨by (with_reducible repeat (first | refine blk_drewN ?_ _ | refine blk_drew ?_ | refine blk_alloc ?_ _)); exact BK1205.out⟩, ⟨by repeat (first | (with_reducible first | exact HB.out | apply below_alloc | apply pw_below_drewN | apply below_drew1 | refine below_set ?_ GE1179.out | refine below_set ?_ GE1192.out | refine below_set ?_ GE1198.out | refine below_set ?_ GE1205.out) | exact HB.out)⟩⟩
              · rw [if_neg c72] at H
                have c72b0 : decide (t1213 < 0) = false := decide_eq_false c72
                clear c72
                (first | rw [c72b0] | (simp only [i64_w, i32_w]; rw [c72b0]) | skip)
                replace H := Option.bind_eq_some_iff.mp H
                obtain ⟨t1215, A730, H⟩ := H
                replace H : (if t1215 = true then (laws_FnExactTilePicture.j1 kj12 a1 a2 t1191 (t1204 != t1191) a0_0 a0_1 l0_2 t1186 t1187 t1188 t1199 t1200 t1201) else (laws_FnExactTilePicture.j1 kj12 a1 a2 t1191 true a0_0 a0_1 l0_2 t1186 t1187 t1188 t1199 t1200 t1201)) = some r := H
                have A73 := Aside0.mk A730
                clear A730
                by_cases c74 : t1215 = true
                · subst c74
                  have H1 : (laws_FnExactTilePicture.j1 kj12 a1 a2 t1191 (t1204 != t1191) a0_0 a0_1 l0_2 t1186 t1187 t1188 t1199 t1200 t1201) = some r := by rw [if_pos rfl] at H; exact H
                  clear H
                  have H := H1
                  clear H1
                  have H' := Aside0.mk H
                  clear H
                  have hnb75 := NB1205_1179.out
                  have hnc75 := NB1179_1205.out
                  have hnb76 := NB1205_1192.out
                  have hnc76 := NB1192_1205.out
                  have hnb77 := NB1205_1198.out
                  have hnc77 := NB1198_1205.out
                  have hcz78_0 : w71.cell? ⟨gb1205, 0, none⟩ = some (.int .i64 t1199) := (blk_cell BK1205.out 0).trans rfl
                  have hcz78_1 : w71.cell? ⟨gb1205, 1, none⟩ = some (.int .i64 t1200) := (blk_cell BK1205.out 1).trans rfl
                  have hcz78_2 : w71.cell? ⟨gb1205, 2, none⟩ = some (.slice Ao38 t1201.length co38) := (blk_cell BK1205.out 2).trans rfl
                  have hfz78_0 := blk_frozen BK1205.out 0
                  have hfz78_1 := blk_frozen BK1205.out 1
                  have hfz78_2 := blk_frozen BK1205.out 2
                  have hnb79 := NB1192_1179.out
                  have hnc79 := NB1179_1192.out
                  have hnb80 := NB1192_1198.out
                  have hnc80 := NB1198_1192.out
                  have hcz81_0 : w71.cell? ⟨gb1192, 0, none⟩ = some (.int .i64 t1186) := (blk_cell BK1192.out 0).trans rfl
                  have hcz81_1 : w71.cell? ⟨gb1192, 1, none⟩ = some (.int .i64 t1187) := (blk_cell BK1192.out 1).trans rfl
                  have hcz81_2 : w71.cell? ⟨gb1192, 2, none⟩ = some (.slice Ao24 t1188.length co24) := (blk_cell BK1192.out 2).trans rfl
                  have hfz81_0 := blk_frozen BK1192.out 0
                  have hfz81_1 := blk_frozen BK1192.out 1
                  have hfz81_2 := blk_frozen BK1192.out 2
                  go_wp2_with (first | (go_at_call 50; (with_reducible refine (laws_eqPicture.calls kj12 t1199 t1200 _ _ t1201 t1186 t1187 _ _ t1188 true _ ?side1 ?side2 ?side3 ?side4 A73.out).mono ?_); (case side1 => repeat (first | exact (Kd.R_reads' HO_1206002.out).2.2 | (with_reducible refine Kd.C_alloc ?_ _) | (with_reducible refine Kd.C_drewN ?_ _) | (with_reducible refine Kd.C_drew ?_))); (case side2 => exact (Kd.R_reads' HO_1206002.out).2.1); (case side3 => repeat (first | exact (Kd.R_reads' HO_1193002.out).2.2 | (with_reducible refine Kd.C_alloc ?_ _) | (with_reducible refine Kd.C_drewN ?_ _) | (with_reducible refine Kd.C_drew ?_))); (case side4 => exact (Kd.R_reads' HO_1193002.out).2.1); rintro e w82 ⟨rfl, hb⟩; have n0_ := Aside0.mk (Kd.R_below (by (with_reducible repeat (first | apply Kd.R_alloc | apply Kd.R_drewN | apply Kd.R_drew)); exact HO_1193002.out) hb); have n1_ := Aside0.mk (Kd.R_below (by (with_reducible repeat (first | apply Kd.R_alloc | apply Kd.R_drewN | apply Kd.R_drew)); exact HO_1199002.out) hb); have n2_ := Aside0.mk (Kd.R_below (by (with_reducible repeat (first | apply Kd.R_alloc | apply Kd.R_drewN | apply Kd.R_drew)); exact HO_1206002.out) hb); have n3_ := Aside0.mk (Kd.R_below (by (with_reducible repeat (first | apply Kd.R_alloc | apply Kd.R_drewN | apply Kd.R_drew)); exact HO1211.out) hb); have n4_ := Aside0.mk (blk_below (g := gb1179) (o := .cells #[.int .i64 a0_0, .int .i64 a0_1, .slice A0_2 l0_2.length c0_2] 34 (0, 0)) (by (with_reducible repeat (first | refine blk_drewN ?_ _ | refine blk_drew ?_ | refine blk_alloc ?_ _)); exact BK1179.out) hb); have n5_ := Aside0.mk (blk_below (g := gb1192) (o := .cells #[.int .i64 t1186, .int .i64 t1187, .slice Ao24 t1188.length co24] 37 (0, 0)) (by (with_reducible repeat (first | refine blk_drewN ?_ _ | refine blk_drew ?_ | refine blk_alloc ?_ _)); exact BK1192.out) hb); have n6_ := Aside0.mk (blk_below (g := gb1198) (o := .cells #[.int .i64 t1193, .int .i64 t1194, .slice Ao31 t1195.length co31] 37 (0, 0)) (by (with_reducible repeat (first | refine blk_drewN ?_ _ | refine blk_drew ?_ | refine blk_alloc ?_ _)); exact BK1198.out) hb); have n7_ := Aside0.mk (blk_below (g := gb1205) (o := .cells #[.int .i64 t1199, .int .i64 t1200, .slice Ao38 t1201.length co38] 37 (0, 0)) (by (with_reducible repeat (first | refine blk_drewN ?_ _ | refine blk_drew ?_ | refine blk_alloc ?_ _)); exact BK1205.out) hb); have n8_ := Aside0.mk (below_step (by repeat (first | (with_reducible first | exact HB.out | apply below_alloc | apply pw_below_drewN | apply below_drew1 | refine below_set ?_ GE1179.out | refine below_set ?_ GE1192.out | refine below_set ?_ GE1198.out | refine below_set ?_ GE1205.out) | exact HB.out)) hb); clear HO_1193002; clear HO_1199002; clear HO_1206002; clear HO1211; clear BK1179; clear BK1192; clear BK1198; clear BK1205; clear HB; have HO_1193002 := n0_; have HO_1199002 := n1_; have HO_1206002 := n2_; have HO1211 := n3_; have BK1179 := n4_; have BK1192 := n5_; have BK1198 := n6_; have BK1205 := n7_; have HB := n8_; clear n0_ n1_ n2_ n3_ n4_ n5_ n6_ n7_ n8_; (try clear hb); (try clear hb2); (try clear hk); (try clear hi)))
                  go_meet
                  case rel => exact ⟨_, ((t1204 != t1191)), (by first | rfl | (simp; done) | (simp [*]; done)), H', ⟨by have := HJ12.out; first | omega | exact Nat.le_refl _⟩, ⟨by (with_reducible repeat (first | apply Kd.R_alloc | apply Kd.R_drewN | apply Kd.R_drew)); exact Kd.R_mono HO_1193002.out (fun _ hk => ⟨hk.1, hk.2.1⟩)⟩, ⟨by (with_reducible repeat (first | apply Kd.R_alloc | apply Kd.R_drewN | apply Kd.R_drew)); exact Kd.R_mono HO_1199002.out (fun _ hk => ⟨hk.1.1, hk.1.2⟩)⟩, ⟨by (with_reducible repeat (first | apply Kd.R_alloc | apply Kd.R_drewN | apply Kd.R_drew)); exact Kd.R_mono HO_1206002.out (fun _ hk => ⟨hk.1, hk.2.1⟩)⟩, ⟨by (with_reducible repeat (first | refine blk_drewN ?_ _ | refine blk_drew ?_ | refine blk_alloc ?_ _)); exact BK1179.out⟩, ⟨by (with_reducible repeat (first | refine blk_drewN ?_ _ | refine blk_drew ?_ | refine blk_alloc ?_ _)); exact BK1192.out⟩, ⟨by (with_reducible repeat (first | refine blk_drewN ?_ _ | refine blk_drew ?_ | refine blk_alloc ?_ _)); exact BK1198.out⟩, ⟨by (with_reducible repeat (first | refine blk_drewN ?_ _ | refine blk_drew ?_ | refine blk_alloc ?_ _)); exact BK1205.out⟩, ⟨by repeat (first | (with_reducible first | exact HB.out | apply below_alloc | apply pw_below_drewN | apply below_drew1 | refine below_set ?_ GE1179.out | refine below_set ?_ GE1192.out | refine below_set ?_ GE1198.out | refine below_set ?_ GE1205.out) | exact HB.out)⟩⟩
                · replace c74 := Bool.eq_false_iff.mpr c74
                  subst c74
                  have H1 : (laws_FnExactTilePicture.j1 kj12 a1 a2 t1191 true a0_0 a0_1 l0_2 t1186 t1187 t1188 t1199 t1200 t1201) = some r := by rw [if_neg (show ¬ (false = true) by decide)] at H; exact H
                  clear H
                  have H := H1
                  clear H1
                  have H' := Aside0.mk H
                  clear H
                  have hnb83 := NB1205_1179.out
                  have hnc83 := NB1179_1205.out
                  have hnb84 := NB1205_1192.out
                  have hnc84 := NB1192_1205.out
                  have hnb85 := NB1205_1198.out
                  have hnc85 := NB1198_1205.out
                  have hcz86_0 : w71.cell? ⟨gb1205, 0, none⟩ = some (.int .i64 t1199) := (blk_cell BK1205.out 0).trans rfl
                  have hcz86_1 : w71.cell? ⟨gb1205, 1, none⟩ = some (.int .i64 t1200) := (blk_cell BK1205.out 1).trans rfl
                  have hcz86_2 : w71.cell? ⟨gb1205, 2, none⟩ = some (.slice Ao38 t1201.length co38) := (blk_cell BK1205.out 2).trans rfl
                  have hfz86_0 := blk_frozen BK1205.out 0
                  have hfz86_1 := blk_frozen BK1205.out 1
                  have hfz86_2 := blk_frozen BK1205.out 2
                  have hnb87 := NB1192_1179.out
                  have hnc87 := NB1179_1192.out
                  have hnb88 := NB1192_1198.out
                  have hnc88 := NB1198_1192.out
                  have hcz89_0 : w71.cell? ⟨gb1192, 0, none⟩ = some (.int .i64 t1186) := (blk_cell BK1192.out 0).trans rfl
                  have hcz89_1 : w71.cell? ⟨gb1192, 1, none⟩ = some (.int .i64 t1187) := (blk_cell BK1192.out 1).trans rfl
                  have hcz89_2 : w71.cell? ⟨gb1192, 2, none⟩ = some (.slice Ao24 t1188.length co24) := (blk_cell BK1192.out 2).trans rfl
                  have hfz89_0 := blk_frozen BK1192.out 0
                  have hfz89_1 := blk_frozen BK1192.out 1
                  have hfz89_2 := blk_frozen BK1192.out 2
                  go_wp2_with (first | (go_at_call 50; (with_reducible refine (laws_eqPicture.calls kj12 t1199 t1200 _ _ t1201 t1186 t1187 _ _ t1188 false _ ?side1 ?side2 ?side3 ?side4 A73.out).mono ?_); (case side1 => repeat (first | exact (Kd.R_reads' HO_1206002.out).2.2 | (with_reducible refine Kd.C_alloc ?_ _) | (with_reducible refine Kd.C_drewN ?_ _) | (with_reducible refine Kd.C_drew ?_))); (case side2 => exact (Kd.R_reads' HO_1206002.out).2.1); (case side3 => repeat (first | exact (Kd.R_reads' HO_1193002.out).2.2 | (with_reducible refine Kd.C_alloc ?_ _) | (with_reducible refine Kd.C_drewN ?_ _) | (with_reducible refine Kd.C_drew ?_))); (case side4 => exact (Kd.R_reads' HO_1193002.out).2.1); rintro e w90 ⟨rfl, hb⟩; have n0_ := Aside0.mk (Kd.R_below (by (with_reducible repeat (first | apply Kd.R_alloc | apply Kd.R_drewN | apply Kd.R_drew)); exact HO_1193002.out) hb); have n1_ := Aside0.mk (Kd.R_below (by (with_reducible repeat (first | apply Kd.R_alloc | apply Kd.R_drewN | apply Kd.R_drew)); exact HO_1199002.out) hb); have n2_ := Aside0.mk (Kd.R_below (by (with_reducible repeat (first | apply Kd.R_alloc | apply Kd.R_drewN | apply Kd.R_drew)); exact HO_1206002.out) hb); have n3_ := Aside0.mk (Kd.R_below (by (with_reducible repeat (first | apply Kd.R_alloc | apply Kd.R_drewN | apply Kd.R_drew)); exact HO1211.out) hb); have n4_ := Aside0.mk (blk_below (g := gb1179) (o := .cells #[.int .i64 a0_0, .int .i64 a0_1, .slice A0_2 l0_2.length c0_2] 34 (0, 0)) (by (with_reducible repeat (first | refine blk_drewN ?_ _ | refine blk_drew ?_ | refine blk_alloc ?_ _)); exact BK1179.out) hb); have n5_ := Aside0.mk (blk_below (g := gb1192) (o := .cells #[.int .i64 t1186, .int .i64 t1187, .slice Ao24 t1188.length co24] 37 (0, 0)) (by (with_reducible repeat (first | refine blk_drewN ?_ _ | refine blk_drew ?_ | refine blk_alloc ?_ _)); exact BK1192.out) hb); have n6_ := Aside0.mk (blk_below (g := gb1198) (o := .cells #[.int .i64 t1193, .int .i64 t1194, .slice Ao31 t1195.length co31] 37 (0, 0)) (by (with_reducible repeat (first | refine blk_drewN ?_ _ | refine blk_drew ?_ | refine blk_alloc ?_ _)); exact BK1198.out) hb); have n7_ := Aside0.mk (blk_below (g := gb1205) (o := .cells #[.int .i64 t1199, .int .i64 t1200, .slice Ao38 t1201.length co38] 37 (0, 0)) (by (with_reducible repeat (first | refine blk_drewN ?_ _ | refine blk_drew ?_ | refine blk_alloc ?_ _)); exact BK1205.out) hb); have n8_ := Aside0.mk (below_step (by repeat (first | (with_reducible first | exact HB.out | apply below_alloc | apply pw_below_drewN | apply below_drew1 | refine below_set ?_ GE1179.out | refine below_set ?_ GE1192.out | refine below_set ?_ GE1198.out | refine below_set ?_ GE1205.out) | exact HB.out)) hb); clear HO_1193002; clear HO_1199002; clear HO_1206002; clear HO1211; clear BK1179; clear BK1192; clear BK1198; clear BK1205; clear HB; have HO_1193002 := n0_; have HO_1199002 := n1_; have HO_1206002 := n2_; have HO1211 := n3_; have BK1179 := n4_; have BK1192 := n5_; have BK1198 := n6_; have BK1205 := n7_; have HB := n8_; clear n0_ n1_ n2_ n3_ n4_ n5_ n6_ n7_ n8_; (try clear hb); (try clear hb2); (try clear hk); (try clear hi)))
                  go_meet
                  case rel => exact ⟨_, (true), (by first | rfl | (simp; done) | (simp [*]; done)), H', ⟨by have := HJ12.out; first | omega | exact Nat.le_refl _⟩, ⟨by (with_reducible repeat (first | apply Kd.R_alloc | apply Kd.R_drewN | apply Kd.R_drew)); exact Kd.R_mono HO_1193002.out (fun _ hk => ⟨hk.1, hk.2.1⟩)⟩, ⟨by (with_reducible repeat (first | apply Kd.R_alloc | apply Kd.R_drewN | apply Kd.R_drew)); exact Kd.R_mono HO_1199002.out (fun _ hk => ⟨hk.1.1, hk.1.2⟩)⟩, ⟨by (with_reducible repeat (first | apply Kd.R_alloc | apply Kd.R_drewN | apply Kd.R_drew)); exact Kd.R_mono HO_1206002.out (fun _ hk => ⟨hk.1, hk.2.1⟩)⟩, ⟨by (with_reducible repeat (first | refine blk_drewN ?_ _ | refine blk_drew ?_ | refine blk_alloc ?_ _)); exact BK1179.out⟩, ⟨by (with_reducible repeat (first | refine blk_drewN ?_ _ | refine blk_drew ?_ | refine blk_alloc ?_ _)); exact BK1192.out⟩, ⟨by (with_reducible repeat (first | refine blk_drewN ?_ _ | refine blk_drew ?_ | refine blk_alloc ?_ _)); exact BK1198.out⟩, ⟨by (with_reducible repeat (first | refine blk_drewN ?_ _ | refine blk_drew ?_ | refine blk_alloc ?_ _)); exact BK1205.out⟩, ⟨by repeat (first | (with_reducible first | exact HB.out | apply below_alloc | apply pw_below_drewN | apply below_drew1 | refine below_set ?_ GE1179.out | refine below_set ?_ GE1192.out | refine below_set ?_ GE1198.out | refine below_set ?_ GE1205.out) | exact HB.out)⟩⟩
            case rest =>
              clear HC62
              try clear c2
              try clear p2
              try clear c3
              try clear c4
              try clear c5
              try clear c5b0
              try clear c6
              try clear c7
              try clear c8
              try clear c9
              try clear c22
              try clear c26
              try clear c28
              try clear c29
              try clear c34
              try clear c35
              try clear c36
              try clear c40
              try clear c41
              try clear c42
              try clear c43
              try clear c45
              try clear c46
              try clear c48
              try clear c49
              try clear c50
              try clear c51
              try clear c53
              try clear c54
              try clear c57
              try clear c58
              try clear c60
              try clear c67
              try clear c68
              try clear c69
              try clear c72
              try clear c72b0
              try clear c74
              try clear c75
              try clear c76
              try clear c77
              try clear c79
              try clear c80
              try clear c83
              try clear c84
              try clear c85
              try clear c87
              try clear c88
              try clear hcz15_0
              try clear hcz15_1
              try clear hcz15_2
              try clear hcz17_0
              try clear hcz17_1
              try clear hcz17_2
              try clear hcz23_0
              try clear hcz23_1
              try clear hcz23_2
              try clear hcz25_0
              try clear hcz25_1
              try clear hcz25_2
              try clear hcz30_0
              try clear hcz30_1
              try clear hcz30_2
              try clear hcz37_0
              try clear hcz37_1
              try clear hcz37_2
              try clear hcz44_0
              try clear hcz44_1
              try clear hcz44_2
              try clear hcz47_0
              try clear hcz47_1
              try clear hcz47_2
              try clear hcz52_0
              try clear hcz52_1
              try clear hcz52_2
              try clear hcz55_0
              try clear hcz55_1
              try clear hcz55_2
              try clear hcz70_0
              try clear hcz70_1
              try clear hcz70_2
              try clear hcz78_0
              try clear hcz78_1
              try clear hcz78_2
              try clear hcz7_0
              try clear hcz7_1
              try clear hcz7_2
              try clear hcz81_0
              try clear hcz81_1
              try clear hcz81_2
              try clear hcz86_0
              try clear hcz86_1
              try clear hcz86_2
              try clear hcz89_0
              try clear hcz89_1
              try clear hcz89_2
              try clear hfz15_0
              try clear hfz15_1
              try clear hfz15_2
              try clear hfz17_0
              try clear hfz17_1
              try clear hfz17_2
              try clear hfz23_0
              try clear hfz23_1
              try clear hfz23_2
              try clear hfz25_0
              try clear hfz25_1
              try clear hfz25_2
              try clear hfz30_0
              try clear hfz30_1
              try clear hfz30_2
              try clear hfz37_0
              try clear hfz37_1
              try clear hfz37_2
              try clear hfz44_0
              try clear hfz44_1
              try clear hfz44_2
              try clear hfz47_0
              try clear hfz47_1
              try clear hfz47_2
              try clear hfz52_0
              try clear hfz52_1
              try clear hfz52_2
              try clear hfz55_0
              try clear hfz55_1
              try clear hfz55_2
              try clear hfz70_0
              try clear hfz70_1
              try clear hfz70_2
              try clear hfz78_0
              try clear hfz78_1
              try clear hfz78_2
              try clear hfz7_0
              try clear hfz7_1
              try clear hfz7_2
              try clear hfz81_0
              try clear hfz81_1
              try clear hfz81_2
              try clear hfz86_0
              try clear hfz86_1
              try clear hfz86_2
              try clear hfz89_0
              try clear hfz89_1
              try clear hfz89_2
              try clear p2
              obtain ⟨kq, x69_61, rfl, HA, HJ61, HO_1193002, HO_1199002, HO_1206002, BK1179, BK1192, BK1198, BK1205, HB⟩ := hcut
              have hl1199002_61 := (Kd.R_reads' HO_1199002.out).1
              rw [hl1199002_61] at HO_1199002
              (try simp only [hl1199002_61])
              (try simp only [hl1199002_61] at BK1179)
              (try simp only [hl1199002_61] at BK1192)
              (try simp only [hl1199002_61] at BK1198)
              (try simp only [hl1199002_61] at BK1205)
              (try simp only [hl1199002_61] at HO_1193002)
              (try simp only [hl1199002_61] at HO_1206002)
              cases kq with
              | zero => exact absurd HA.out (by simp [laws_FnExactTilePicture.j1])
              | succ kj61 =>
                have H := HA.out
                clear HA
                simp only [laws_FnExactTilePicture.j1] at H
                by_cases c91 : x69_61 = true
                · subst c91
                  have H1 : (some false) = some r := by rw [if_pos rfl] at H; exact H
                  clear H
                  have H := H1
                  clear H1
                  exact absurd ((Option.some.inj H).trans hT.out) (by decide)
                · replace c91 := Bool.eq_false_iff.mpr c91
                  subst c91
                  have H1 : ((laws_markPicture.f kj61 t1199 t1200 t1201 1).bind fun bt1216 => ((laws_heldPicture.f kj61 t1199 t1200 bt1216.2 1).bind fun t1218 => (if t1218 < 0 then (some false) else (if t1218 = bt1216.1 then ((laws_toPicture.f kj61 a0_0 a0_1 l0_2).bind fun bt1219 => ((impl_TilePicture.f bt1219.1 bt1219.2.1 bt1219.2.2 a1 a2).bind fun bt1224 => ((laws_eqPicture.f kj61 bt1224.1 bt1224.2.1 bt1224.2.2.1 t1186 t1187 t1188).bind fun t1231 => (if t1231 = true then (laws_FnExactTilePicture.j2 kj61 bt1216.1 (bt1224.2.2.2 != t1191) t1199 t1200 bt1216.2) else (laws_FnExactTilePicture.j2 kj61 bt1216.1 true t1199 t1200 bt1216.2))))) else (some false))))) = some r := by rw [if_neg (show ¬ (false = true) by decide)] at H; exact H
                  clear H
                  have H := H1
                  clear H1
                  replace H := Option.bind_eq_some_iff.mp H
                  obtain ⟨⟨t1216, t1217⟩, A920, H⟩ := H
                  replace H : ((laws_heldPicture.f kj61 t1199 t1200 t1217 1).bind fun t1218 => (if t1218 < 0 then (some false) else (if t1218 = t1216 then ((laws_toPicture.f kj61 a0_0 a0_1 l0_2).bind fun bt1219 => ((impl_TilePicture.f bt1219.1 bt1219.2.1 bt1219.2.2 a1 a2).bind fun bt1224 => ((laws_eqPicture.f kj61 bt1224.1 bt1224.2.1 bt1224.2.2.1 t1186 t1187 t1188).bind fun t1231 => (if t1231 = true then (laws_FnExactTilePicture.j2 kj61 t1216 (bt1224.2.2.2 != t1191) t1199 t1200 t1217) else (laws_FnExactTilePicture.j2 kj61 t1216 true t1199 t1200 t1217))))) else (some false)))) = some r := H
                  have A92 := Aside0.mk A920
                  clear A920
                  replace H := Option.bind_eq_some_iff.mp H
                  obtain ⟨t1218, A930, H⟩ := H
                  replace H : (if t1218 < 0 then (some false) else (if t1218 = t1216 then ((laws_toPicture.f kj61 a0_0 a0_1 l0_2).bind fun bt1219 => ((impl_TilePicture.f bt1219.1 bt1219.2.1 bt1219.2.2 a1 a2).bind fun bt1224 => ((laws_eqPicture.f kj61 bt1224.1 bt1224.2.1 bt1224.2.2.1 t1186 t1187 t1188).bind fun t1231 => (if t1231 = true then (laws_FnExactTilePicture.j2 kj61 t1216 (bt1224.2.2.2 != t1191) t1199 t1200 t1217) else (laws_FnExactTilePicture.j2 kj61 t1216 true t1199 t1200 t1217))))) else (some false))) = some r := H
                  have A93 := Aside0.mk A930
                  clear A930
                  by_cases c94 : t1218 < 0
                  · rw [if_pos c94] at H
                    have c94b0 : decide (t1218 < 0) = true := decide_eq_true c94
                    clear c94
                    exact absurd ((Option.some.inj H).trans hT.out) (by decide)
                  · rw [if_neg c94] at H
                    have c94b0 : decide (t1218 < 0) = false := decide_eq_false c94
                    clear c94
                    by_cases c95 : t1218 = t1216
                    · rw [if_pos c95] at H
                      have c95b0 : (t1218 == t1216) = true := beq_iff_eq.mpr c95
                      have c95b1 : (t1218 != t1216) = false := bne_eq_false_iff_eq.mpr c95
                      clear c95
                      replace H := Option.bind_eq_some_iff.mp H
                      obtain ⟨⟨t1219, t1220, t1221⟩, A960, H⟩ := H
                      replace H : ((impl_TilePicture.f t1219 t1220 t1221 a1 a2).bind fun bt1224 => ((laws_eqPicture.f kj61 bt1224.1 bt1224.2.1 bt1224.2.2.1 t1186 t1187 t1188).bind fun t1231 => (if t1231 = true then (laws_FnExactTilePicture.j2 kj61 t1216 (bt1224.2.2.2 != t1191) t1199 t1200 t1217) else (laws_FnExactTilePicture.j2 kj61 t1216 true t1199 t1200 t1217)))) = some r := H
                      have A96 := Aside0.mk A960
                      clear A960
                      replace H := Option.bind_eq_some_iff.mp H
                      obtain ⟨⟨t1224, t1225, t1226, t1229⟩, A970, H⟩ := H
                      replace H : ((laws_eqPicture.f kj61 t1224 t1225 t1226 t1186 t1187 t1188).bind fun t1231 => (if t1231 = true then (laws_FnExactTilePicture.j2 kj61 t1216 (t1229 != t1191) t1199 t1200 t1217) else (laws_FnExactTilePicture.j2 kj61 t1216 true t1199 t1200 t1217))) = some r := H
                      have A97 := Aside0.mk A970
                      clear A970
                      have HC98 := Aside0.mk H
                      clear H
                      have hnb99 := NB1205_1179.out
                      have hnc99 := NB1179_1205.out
                      have hnb100 := NB1205_1192.out
                      have hnc100 := NB1192_1205.out
                      have hnb101 := NB1205_1198.out
                      have hnc101 := NB1198_1205.out
                      have hcz102_0 : wc.cell? ⟨gb1205, 0, none⟩ = some (.int .i64 t1199) := (blk_cell BK1205.out 0).trans rfl
                      have hcz102_1 : wc.cell? ⟨gb1205, 1, none⟩ = some (.int .i64 t1200) := (blk_cell BK1205.out 1).trans rfl
                      have hcz102_2 : wc.cell? ⟨gb1205, 2, none⟩ = some (.slice Ao38 t1201.length co38) := (blk_cell BK1205.out 2).trans rfl
                      have hfz102_0 := blk_frozen BK1205.out 0
                      have hfz102_1 := blk_frozen BK1205.out 1
                      have hfz102_2 := blk_frozen BK1205.out 2
                      go_upto_region 25 with (first | ((with_reducible refine gate_callee (f := 58) rfl ?_); refine goesL_ (some 72) rfl rfl Try.func58 (by kernel_rfl) rfl #[.agg #[.int .i64 t1199, .int .i64 t1200, .slice Ao38 t1201.length co38], .int .i64 1] rfl (by (try simp only [List.map_toArray, List.map_cons, List.map_nil]); first | done | rfl | (simp only [List.length_drop, List.length_take]; rfl)) ?_; (with_reducible refine (laws_markPicture.calls kj61 t1199 t1200 (fun k_ => some k_ = (.slice Ao38 t1201.length co38 : Value).ownBlock) (.slice Ao38 t1201.length co38) t1201 1 t1216 t1217 w _ ?side1 ?side2 A92.out).mono ?_); (case side1 => repeat (first | (with_reducible first | exact HB.out | apply below_alloc | apply pw_below_drewN | apply below_drew1 | refine below_set ?_ GE1179.out | refine below_set ?_ GE1192.out | refine below_set ?_ GE1198.out | refine below_set ?_ GE1205.out) | exact HB.out)); (case side2 => exact Kd.R_tight rfl HO_1206002.out); rintro e w103 ⟨rfl, hy0, hb, hkp⟩; refine ⟨_, rfl, ?_⟩; have n0_ := Aside0.mk (Kd.R_mono (ok' := fun k_ => some k_ ≠ (.slice Ao31 t1214.length co31 : Value).ownBlock ∧ some k_ ≠ (.slice Ao38 t1201.length co38 : Value).ownBlock) (Kd.R_keptB (HO_1193002.out) hkp (fun k_ hk_ hs_ => (hk_.2) hs_)) (fun k_ hk_ => ⟨hk_.1.1, hk_.1.2⟩)); have n1_ := Aside0.mk (Kd.R_mono (ok' := fun k_ => some k_ ≠ (.slice Ao24 t1188.length co24 : Value).ownBlock ∧ some k_ ≠ (.slice Ao38 t1201.length co38 : Value).ownBlock) (Kd.R_keptB (HO_1199002.out) hkp (fun k_ hk_ hs_ => (hk_.2) hs_)) (fun k_ hk_ => ⟨hk_.1.1, hk_.1.2⟩)); have n2_ := Aside0.mk (Kd.R_reok rfl hy0 (fun k_ e_ => HO_1206002.out.1 k_ e_)); have n3_ := Aside0.mk (blk_kept (by (with_reducible repeat (first | refine blk_drewN ?_ _ | refine blk_drew ?_ | refine blk_alloc ?_ _)); exact BK1179.out) hkp (fun hs_ => (fun e_ => (Kd.R_ne HO_1206002.out BK1179.out (by decide)) e_) hs_)); have n4_ := Aside0.mk (blk_kept (by (with_reducible repeat (first | refine blk_drewN ?_ _ | refine blk_drew ?_ | refine blk_alloc ?_ _)); exact BK1192.out) hkp (fun hs_ => (fun e_ => (Kd.R_ne HO_1206002.out BK1192.out (by decide)) e_) hs_)); have n5_ := Aside0.mk (blk_kept (by (with_reducible repeat (first | refine blk_drewN ?_ _ | refine blk_drew ?_ | refine blk_alloc ?_ _)); exact BK1198.out) hkp (fun hs_ => (fun e_ => (Kd.R_ne HO_1206002.out BK1198.out (by decide)) e_) hs_)); have n6_ := Aside0.mk (blk_kept (by (with_reducible repeat (first | refine blk_drewN ?_ _ | refine blk_drew ?_ | refine blk_alloc ?_ _)); exact BK1205.out) hkp (fun hs_ => (fun e_ => (Kd.R_ne HO_1206002.out BK1205.out (by decide)) e_) hs_)); have n7_ := Aside0.mk (hb); clear HO_1193002; clear HO_1199002; clear HO_1206002; clear BK1179; clear BK1192; clear BK1198; clear BK1205; clear HB; have HO_1193002 := n0_; have HO_1199002 := n1_; have HO_1206002 := n2_; have BK1179 := n3_; have BK1192 := n4_; have BK1198 := n5_; have BK1205 := n6_; have HB := n7_; clear n0_ n1_ n2_ n3_ n4_ n5_ n6_ n7_; (try clear hb); (try clear hkp); (try clear hy0); have hcz104_0 : w103.cell? ⟨gb1205, 0, none⟩ = some (.int .i64 t1199) := (blk_cell BK1205.out 0).trans rfl; have hcz104_1 : w103.cell? ⟨gb1205, 1, none⟩ = some (.int .i64 t1200) := (blk_cell BK1205.out 1).trans rfl; have hcz104_2 : w103.cell? ⟨gb1205, 2, none⟩ = some (.slice Ao38 t1201.length co38) := (blk_cell BK1205.out 2).trans rfl; have hfz104_0 := blk_frozen BK1205.out 0; have hfz104_1 := blk_frozen BK1205.out 1; have hfz104_2 := blk_frozen BK1205.out 2) | ((with_reducible refine gate_callee (f := 59) rfl ?_); refine goesL_ (some 75) rfl rfl Try.func59 (by kernel_rfl) rfl #[.agg #[.int .i64 t1199, .int .i64 t1200, .slice Ao38 t1217.length co38], .int .i64 1] rfl (by (try simp only [List.map_toArray, List.map_cons, List.map_nil]); first | done | (rw [show t1217.length = t1201.length from (Kd.R_reads' HO_1206002.out).1.symm] <;> rfl) | rfl | (simp only [List.length_drop, List.length_take]; rfl)) ?_; (with_reducible refine (laws_heldPicture.calls kj61 t1199 t1200 _ _ t1217 1 t1218 _ ?side1 ?side2 A93.out).mono ?_); (case side1 => repeat (first | exact (Kd.R_reads' HO_1206002.out).2.2 | (with_reducible refine Kd.C_alloc ?_ _) | (with_reducible refine Kd.C_drewN ?_ _) | (with_reducible refine Kd.C_drew ?_))); (case side2 => rw [show t1217.length = t1201.length from (Kd.R_reads' HO_1206002.out).1.symm]; exact (Kd.R_reads' HO_1206002.out).2.1); rintro e w105 ⟨rfl, hb⟩; refine ⟨_, rfl, ?_⟩; have n0_ := Aside0.mk (Kd.R_below (by (with_reducible repeat (first | apply Kd.R_alloc | apply Kd.R_drewN | apply Kd.R_drew)); exact HO_1193002.out) hb); have n1_ := Aside0.mk (Kd.R_below (by (with_reducible repeat (first | apply Kd.R_alloc | apply Kd.R_drewN | apply Kd.R_drew)); exact HO_1199002.out) hb); have n2_ := Aside0.mk (Kd.R_below (by (with_reducible repeat (first | apply Kd.R_alloc | apply Kd.R_drewN | apply Kd.R_drew)); exact HO_1206002.out) hb); have n3_ := Aside0.mk (blk_below (g := gb1179) (o := .cells #[.int .i64 a0_0, .int .i64 a0_1, .slice A0_2 l0_2.length c0_2] 34 (0, 0)) (by (with_reducible repeat (first | refine blk_drewN ?_ _ | refine blk_drew ?_ | refine blk_alloc ?_ _)); exact BK1179.out) hb); have n4_ := Aside0.mk (blk_below (g := gb1192) (o := .cells #[.int .i64 t1186, .int .i64 t1187, .slice Ao24 t1188.length co24] 37 (0, 0)) (by (with_reducible repeat (first | refine blk_drewN ?_ _ | refine blk_drew ?_ | refine blk_alloc ?_ _)); exact BK1192.out) hb); have n5_ := Aside0.mk (blk_below (g := gb1198) (o := .cells #[.int .i64 t1193, .int .i64 t1194, .slice Ao31 t1214.length co31] 37 (0, 0)) (by (with_reducible repeat (first | refine blk_drewN ?_ _ | refine blk_drew ?_ | refine blk_alloc ?_ _)); exact BK1198.out) hb); have n6_ := Aside0.mk (blk_below (g := gb1205) (o := .cells #[.int .i64 t1199, .int .i64 t1200, .slice Ao38 t1201.length co38] 37 (0, 0)) (by (with_reducible repeat (first | refine blk_drewN ?_ _ | refine blk_drew ?_ | refine blk_alloc ?_ _)); exact BK1205.out) hb); have n7_ := Aside0.mk (below_step (by repeat (first | (with_reducible first | exact HB.out | apply below_alloc | apply pw_below_drewN | apply below_drew1 | refine below_set ?_ GE1179.out | refine below_set ?_ GE1192.out | refine below_set ?_ GE1198.out | refine below_set ?_ GE1205.out) | exact HB.out)) hb); clear HO_1193002; clear HO_1199002; clear HO_1206002; clear BK1179; clear BK1192; clear BK1198; clear BK1205; clear HB; have HO_1193002 := n0_; have HO_1199002 := n1_; have HO_1206002 := n2_; have BK1179 := n3_; have BK1192 := n4_; have BK1198 := n5_; have BK1205 := n6_; have HB := n7_; clear n0_ n1_ n2_ n3_ n4_ n5_ n6_ n7_; (try clear hb); (try clear hb2); (try clear hk); (try clear hi); have hnb106 := NB1179_1192.out; have hnc106 := NB1192_1179.out; have hnb107 := NB1179_1198.out; have hnc107 := NB1198_1179.out; have hcz108_0 : w105.cell? ⟨gb1179, 0, none⟩ = some (.int .i64 a0_0) := (blk_cell BK1179.out 0).trans rfl; have hcz108_1 : w105.cell? ⟨gb1179, 1, none⟩ = some (.int .i64 a0_1) := (blk_cell BK1179.out 1).trans rfl; have hcz108_2 : w105.cell? ⟨gb1179, 2, none⟩ = some (.slice A0_2 l0_2.length c0_2) := (blk_cell BK1179.out 2).trans rfl; have hfz108_0 := blk_frozen BK1179.out 0; have hfz108_1 := blk_frozen BK1179.out 1; have hfz108_2 := blk_frozen BK1179.out 2) | ((with_reducible refine gate_callee (f := 48) rfl ?_); refine goesL_ (some 83) rfl rfl Try.func48 (by kernel_rfl) rfl #[.agg #[.int .i64 a0_0, .int .i64 a0_1, .slice A0_2 l0_2.length c0_2]] rfl (by (try simp only [List.map_toArray, List.map_cons, List.map_nil]); first | done | rfl | (simp only [List.length_drop, List.length_take]; rfl)) ?_; (with_reducible refine (laws_toPicture.calls kj61 a0_0 a0_1 _ _ l0_2 t1219 t1220 t1221 _ ?side1 ?side2 A96.out).mono ?_); (case side1 => repeat (first | exact (Kd.C_below HR0_2.out HB.out) | (with_reducible refine Kd.C_alloc ?_ _) | (with_reducible refine Kd.C_drewN ?_ _) | (with_reducible refine Kd.C_drew ?_))); (case side2 => exact HC0_2.out); rintro e w109 ⟨v1222, rfl, ho0, hb⟩; refine ⟨_, rfl, ?_⟩; have n0_ := Aside0.mk (Kd.R_elder' (by (with_reducible repeat (first | apply Kd.R_alloc | apply Kd.R_drewN | apply Kd.R_drew)); exact HO_1193002.out) (Kd.R_base ho0) hb); have n1_ := Aside0.mk (Kd.R_elder' (by (with_reducible repeat (first | apply Kd.R_alloc | apply Kd.R_drewN | apply Kd.R_drew)); exact HO_1199002.out) (Kd.R_base ho0) hb); have n2_ := Aside0.mk (Kd.R_elder' (by (with_reducible repeat (first | apply Kd.R_alloc | apply Kd.R_drewN | apply Kd.R_drew)); exact HO_1206002.out) (Kd.R_base ho0) hb); have n3_ := Aside0.mk (Kd.R_lower (Kd.R_new' (Kd.R_new' (Kd.R_new' ho0 (Kd.R_lt (by (with_reducible repeat (first | apply Kd.R_alloc | apply Kd.R_drewN | apply Kd.R_drew)); exact HO_1193002.out))) (Kd.R_lt (by (with_reducible repeat (first | apply Kd.R_alloc | apply Kd.R_drewN | apply Kd.R_drew)); exact HO_1199002.out))) (Kd.R_lt (by (with_reducible repeat (first | apply Kd.R_alloc | apply Kd.R_drewN | apply Kd.R_drew)); exact HO_1206002.out))) (below_size (by repeat (first | (with_reducible first | exact HB.out | apply below_alloc | apply pw_below_drewN | apply below_drew1 | refine below_set ?_ GE1179.out | refine below_set ?_ GE1192.out | refine below_set ?_ GE1198.out | refine below_set ?_ GE1205.out) | exact HB.out)))); have n4_ := Aside0.mk (blk_below (g := gb1179) (o := .cells #[.int .i64 a0_0, .int .i64 a0_1, .slice A0_2 l0_2.length c0_2] 34 (0, 0)) (by (with_reducible repeat (first | refine blk_drewN ?_ _ | refine blk_drew ?_ | refine blk_alloc ?_ _)); exact BK1179.out) hb); have n5_ := Aside0.mk (blk_below (g := gb1192) (o := .cells #[.int .i64 t1186, .int .i64 t1187, .slice Ao24 t1188.length co24] 37 (0, 0)) (by (with_reducible repeat (first | refine blk_drewN ?_ _ | refine blk_drew ?_ | refine blk_alloc ?_ _)); exact BK1192.out) hb); have n6_ := Aside0.mk (blk_below (g := gb1198) (o := .cells #[.int .i64 t1193, .int .i64 t1194, .slice Ao31 t1214.length co31] 37 (0, 0)) (by (with_reducible repeat (first | refine blk_drewN ?_ _ | refine blk_drew ?_ | refine blk_alloc ?_ _)); exact BK1198.out) hb); have n7_ := Aside0.mk (blk_below (g := gb1205) (o := .cells #[.int .i64 t1199, .int .i64 t1200, .slice Ao38 t1201.length co38] 37 (0, 0)) (by (with_reducible repeat (first | refine blk_drewN ?_ _ | refine blk_drew ?_ | refine blk_alloc ?_ _)); exact BK1205.out) hb); have n8_ := Aside0.mk (below_step (by repeat (first | (with_reducible first | exact HB.out | apply below_alloc | apply pw_below_drewN | apply below_drew1 | refine below_set ?_ GE1179.out | refine below_set ?_ GE1192.out | refine below_set ?_ GE1198.out | refine below_set ?_ GE1205.out) | exact HB.out)) hb); clear HO_1193002; clear HO_1199002; clear HO_1206002; clear BK1179; clear BK1192; clear BK1198; clear BK1205; clear HB; have HO_1193002 := n0_; have HO_1199002 := n1_; have HO_1206002 := n2_; have HO1223 := n3_; have BK1179 := n4_; have BK1192 := n5_; have BK1198 := n6_; have BK1205 := n7_; have HB := n8_; clear n0_ n1_ n2_ n3_ n4_ n5_ n6_ n7_ n8_; (try clear hb); (try clear hb2); (try clear hk); (try clear hi); (try clear ho0); obtain ⟨Ao110, co110, eo110⟩ := Kd.R_slice HO1223.out; subst eo110) | ((with_reducible refine gate_callee (f := 83) rfl ?_); refine goesL_ (some 86) rfl rfl Try.func83 (by kernel_rfl) rfl #[.agg #[.int .i64 t1219, .int .i64 t1220, .slice Ao110 t1221.length co110], .int .i64 a1, .int .i64 a2] rfl (by (try simp only [List.map_toArray, List.map_cons, List.map_nil]); first | done | rfl | (simp only [List.length_drop, List.length_take]; rfl)) ?_; (with_reducible refine (impl_TilePicture.calls t1219 t1220 _ _ t1221 a1 a2 t1224 t1225 t1226 t1229 _ ?side1 ?side2 A97.out).mono ?_); (case side1 => repeat (first | exact (Kd.R_reads' HO1223.out).2.2 | (with_reducible refine Kd.C_alloc ?_ _) | (with_reducible refine Kd.C_drewN ?_ _) | (with_reducible refine Kd.C_drew ?_))); (case side2 => exact (Kd.R_reads' HO1223.out).2.1); rintro e w111 ⟨v1227, rfl, ho0, hb⟩; refine ⟨_, rfl, ?_⟩; have n0_ := Aside0.mk (Kd.R_elder' (by (with_reducible repeat (first | apply Kd.R_alloc | apply Kd.R_drewN | apply Kd.R_drew)); exact HO_1193002.out) (Kd.R_base ho0) hb); have n1_ := Aside0.mk (Kd.R_elder' (by (with_reducible repeat (first | apply Kd.R_alloc | apply Kd.R_drewN | apply Kd.R_drew)); exact HO_1199002.out) (Kd.R_base ho0) hb); have n2_ := Aside0.mk (Kd.R_elder' (by (with_reducible repeat (first | apply Kd.R_alloc | apply Kd.R_drewN | apply Kd.R_drew)); exact HO_1206002.out) (Kd.R_base ho0) hb); have n3_ := Aside0.mk (Kd.R_elder' (by (with_reducible repeat (first | apply Kd.R_alloc | apply Kd.R_drewN | apply Kd.R_drew)); exact HO1223.out) (Kd.R_base ho0) hb); have n4_ := Aside0.mk (Kd.R_lower (Kd.R_new' (Kd.R_new' (Kd.R_new' (Kd.R_new' ho0 (Kd.R_lt (by (with_reducible repeat (first | apply Kd.R_alloc | apply Kd.R_drewN | apply Kd.R_drew)); exact HO_1193002.out))) (Kd.R_lt (by (with_reducible repeat (first | apply Kd.R_alloc | apply Kd.R_drewN | apply Kd.R_drew)); exact HO_1199002.out))) (Kd.R_lt (by (with_reducible repeat (first | apply Kd.R_alloc | apply Kd.R_drewN | apply Kd.R_drew)); exact HO_1206002.out))) (Kd.R_lt (by (with_reducible repeat (first | apply Kd.R_alloc | apply Kd.R_drewN | apply Kd.R_drew)); exact HO1223.out))) (below_size (by repeat (first | (with_reducible first | exact HB.out | apply below_alloc | apply pw_below_drewN | apply below_drew1 | refine below_set ?_ GE1179.out | refine below_set ?_ GE1192.out | refine below_set ?_ GE1198.out | refine below_set ?_ GE1205.out) | exact HB.out)))); have n5_ := Aside0.mk (blk_below (g := gb1179) (o := .cells #[.int .i64 a0_0, .int .i64 a0_1, .slice A0_2 l0_2.length c0_2] 34 (0, 0)) (by (with_reducible repeat (first | refine blk_drewN ?_ _ | refine blk_drew ?_ | refine blk_alloc ?_ _)); exact BK1179.out) hb); have n6_ := Aside0.mk (blk_below (g := gb1192) (o := .cells #[.int .i64 t1186, .int .i64 t1187, .slice Ao24 t1188.length co24] 37 (0, 0)) (by (with_reducible repeat (first | refine blk_drewN ?_ _ | refine blk_drew ?_ | refine blk_alloc ?_ _)); exact BK1192.out) hb); have n7_ := Aside0.mk (blk_below (g := gb1198) (o := .cells #[.int .i64 t1193, .int .i64 t1194, .slice Ao31 t1214.length co31] 37 (0, 0)) (by (with_reducible repeat (first | refine blk_drewN ?_ _ | refine blk_drew ?_ | refine blk_alloc ?_ _)); exact BK1198.out) hb); have n8_ := Aside0.mk (blk_below (g := gb1205) (o := .cells #[.int .i64 t1199, .int .i64 t1200, .slice Ao38 t1201.length co38] 37 (0, 0)) (by (with_reducible repeat (first | refine blk_drewN ?_ _ | refine blk_drew ?_ | refine blk_alloc ?_ _)); exact BK1205.out) hb); have n9_ := Aside0.mk (below_step (by repeat (first | (with_reducible first | exact HB.out | apply below_alloc | apply pw_below_drewN | apply below_drew1 | refine below_set ?_ GE1179.out | refine below_set ?_ GE1192.out | refine below_set ?_ GE1198.out | refine below_set ?_ GE1205.out) | exact HB.out)) hb); clear HO_1193002; clear HO_1199002; clear HO_1206002; clear HO1223; clear BK1179; clear BK1192; clear BK1198; clear BK1205; clear HB; have HO_1193002 := n0_; have HO_1199002 := n1_; have HO_1206002 := n2_; have HO1223 := n3_; have HO1228 := n4_; have BK1179 := n5_; have BK1192 := n6_; have BK1198 := n7_; have BK1205 := n8_; have HB := n9_; clear n0_ n1_ n2_ n3_ n4_ n5_ n6_ n7_ n8_ n9_; (try clear hb); (try clear hb2); (try clear hk); (try clear hi); (try clear ho0)) | ((with_reducible refine gate_dst (N := 16) rfl ?_); refine box_event ?hg (N := 16) ?hd (cs := #[.int .i64 0, .int .i64 0, .slice none 0 0]) (t := 37) ?hr ?_; (case hd => rfl); (case hg => rfl); (case hr => first | (go_simp; done) | (go_simp; rfl)); intro gb1230 hg w112 hbox hb; have n0_ := Aside0.mk (Kd.R_below (by (with_reducible repeat (first | apply Kd.R_alloc | apply Kd.R_drewN | apply Kd.R_drew)); exact HO_1193002.out) hb); have n1_ := Aside0.mk (Kd.R_below (by (with_reducible repeat (first | apply Kd.R_alloc | apply Kd.R_drewN | apply Kd.R_drew)); exact HO_1199002.out) hb); have n2_ := Aside0.mk (Kd.R_below (by (with_reducible repeat (first | apply Kd.R_alloc | apply Kd.R_drewN | apply Kd.R_drew)); exact HO_1206002.out) hb); have n3_ := Aside0.mk (Kd.R_below (by (with_reducible repeat (first | apply Kd.R_alloc | apply Kd.R_drewN | apply Kd.R_drew)); exact HO1223.out) hb); have n4_ := Aside0.mk (Kd.R_below (by (with_reducible repeat (first | apply Kd.R_alloc | apply Kd.R_drewN | apply Kd.R_drew)); exact HO1228.out) hb); have n5_ := Aside0.mk (blk_below (g := gb1179) (o := .cells #[.int .i64 a0_0, .int .i64 a0_1, .slice A0_2 l0_2.length c0_2] 34 (0, 0)) (by (with_reducible repeat (first | refine blk_drewN ?_ _ | refine blk_drew ?_ | refine blk_alloc ?_ _)); exact BK1179.out) hb); have n6_ := Aside0.mk (blk_below (g := gb1192) (o := .cells #[.int .i64 t1186, .int .i64 t1187, .slice Ao24 t1188.length co24] 37 (0, 0)) (by (with_reducible repeat (first | refine blk_drewN ?_ _ | refine blk_drew ?_ | refine blk_alloc ?_ _)); exact BK1192.out) hb); have n7_ := Aside0.mk (blk_below (g := gb1198) (o := .cells #[.int .i64 t1193, .int .i64 t1194, .slice Ao31 t1214.length co31] 37 (0, 0)) (by (with_reducible repeat (first | refine blk_drewN ?_ _ | refine blk_drew ?_ | refine blk_alloc ?_ _)); exact BK1198.out) hb); have n8_ := Aside0.mk (blk_below (g := gb1205) (o := .cells #[.int .i64 t1199, .int .i64 t1200, .slice Ao38 t1201.length co38] 37 (0, 0)) (by (with_reducible repeat (first | refine blk_drewN ?_ _ | refine blk_drew ?_ | refine blk_alloc ?_ _)); exact BK1205.out) hb); have n9_ := Aside0.mk (below_step (by repeat (first | (with_reducible first | exact HB.out | apply below_alloc | apply pw_below_drewN | apply below_drew1 | refine below_set ?_ GE1179.out | refine below_set ?_ GE1192.out | refine below_set ?_ GE1198.out | refine below_set ?_ GE1205.out) | exact HB.out)) hb); have n10_ := Aside0.mk (hbox); have n11_ := Aside0.mk ((by rw [hg]; exact (below_size (by repeat (first | (with_reducible first | exact HB.out | apply below_alloc | apply pw_below_drewN | apply below_drew1 | refine below_set ?_ GE1179.out | refine below_set ?_ GE1192.out | refine below_set ?_ GE1198.out | refine below_set ?_ GE1205.out) | exact HB.out))) : w.heap.size ≤ gb1230)); have n12_ := Aside0.mk ((by rw [hg]; exact (below_size (by repeat (first | (with_reducible first | exact HB.out | apply below_alloc | apply pw_below_drewN | apply below_drew1 | refine below_set ?_ GE1179.out | refine below_set ?_ GE1192.out | refine below_set ?_ GE1198.out | refine below_set ?_ GE1205.out) | exact HB.out))) : w.heap.size ≤ gb1230)); have n13_ := Aside0.mk ((by rw [hg]; exact Nat.ne_of_lt (blk_lt (g := gb1179) (o := .cells #[.int .i64 a0_0, .int .i64 a0_1, .slice A0_2 l0_2.length c0_2] 34 (0, 0)) (by (with_reducible repeat (first | refine blk_drewN ?_ _ | refine blk_drew ?_ | refine blk_alloc ?_ _)); exact BK1179.out)) : gb1179 ≠ gb1230)); have n14_ := Aside0.mk ((by rw [hg]; exact Nat.ne_of_gt (blk_lt (g := gb1179) (o := .cells #[.int .i64 a0_0, .int .i64 a0_1, .slice A0_2 l0_2.length c0_2] 34 (0, 0)) (by (with_reducible repeat (first | refine blk_drewN ?_ _ | refine blk_drew ?_ | refine blk_alloc ?_ _)); exact BK1179.out)) : gb1230 ≠ gb1179)); have n15_ := Aside0.mk ((by rw [hg]; exact Nat.ne_of_lt (blk_lt (g := gb1192) (o := .cells #[.int .i64 t1186, .int .i64 t1187, .slice Ao24 t1188.length co24] 37 (0, 0)) (by (with_reducible repeat (first | refine blk_drewN ?_ _ | refine blk_drew ?_ | refine blk_alloc ?_ _)); exact BK1192.out)) : gb1192 ≠ gb1230)); have n16_ := Aside0.mk ((by rw [hg]; exact Nat.ne_of_gt (blk_lt (g := gb1192) (o := .cells #[.int .i64 t1186, .int .i64 t1187, .slice Ao24 t1188.length co24] 37 (0, 0)) (by (with_reducible repeat (first | refine blk_drewN ?_ _ | refine blk_drew ?_ | refine blk_alloc ?_ _)); exact BK1192.out)) : gb1230 ≠ gb1192)); have n17_ := Aside0.mk ((by rw [hg]; exact Nat.ne_of_lt (blk_lt (g := gb1198) (o := .cells #[.int .i64 t1193, .int .i64 t1194, .slice Ao31 t1214.length co31] 37 (0, 0)) (by (with_reducible repeat (first | refine blk_drewN ?_ _ | refine blk_drew ?_ | refine blk_alloc ?_ _)); exact BK1198.out)) : gb1198 ≠ gb1230)); have n18_ := Aside0.mk ((by rw [hg]; exact Nat.ne_of_gt (blk_lt (g := gb1198) (o := .cells #[.int .i64 t1193, .int .i64 t1194, .slice Ao31 t1214.length co31] 37 (0, 0)) (by (with_reducible repeat (first | refine blk_drewN ?_ _ | refine blk_drew ?_ | refine blk_alloc ?_ _)); exact BK1198.out)) : gb1230 ≠ gb1198)); have n19_ := Aside0.mk ((by rw [hg]; exact Nat.ne_of_lt (blk_lt (g := gb1205) (o := .cells #[.int .i64 t1199, .int .i64 t1200, .slice Ao38 t1201.length co38] 37 (0, 0)) (by (with_reducible repeat (first | refine blk_drewN ?_ _ | refine blk_drew ?_ | refine blk_alloc ?_ _)); exact BK1205.out)) : gb1205 ≠ gb1230)); have n20_ := Aside0.mk ((by rw [hg]; exact Nat.ne_of_gt (blk_lt (g := gb1205) (o := .cells #[.int .i64 t1199, .int .i64 t1200, .slice Ao38 t1201.length co38] 37 (0, 0)) (by (with_reducible repeat (first | refine blk_drewN ?_ _ | refine blk_drew ?_ | refine blk_alloc ?_ _)); exact BK1205.out)) : gb1230 ≠ gb1205)); clear HO_1193002; clear HO_1199002; clear HO_1206002; clear HO1223; clear HO1228; clear BK1179; clear BK1192; clear BK1198; clear BK1205; clear HB; have HO_1193002 := n0_; have HO_1199002 := n1_; have HO_1206002 := n2_; have HO1223 := n3_; have HO1228 := n4_; have BK1179 := n5_; have BK1192 := n6_; have BK1198 := n7_; have BK1205 := n8_; have HB := n9_; have BK1230 := n10_; have GW1230 := n11_; have GE1230 := n12_; have NB1179_1230 := n13_; have NB1230_1179 := n14_; have NB1192_1230 := n15_; have NB1230_1192 := n16_; have NB1198_1230 := n17_; have NB1230_1198 := n18_; have NB1205_1230 := n19_; have NB1230_1205 := n20_; clear n0_ n1_ n2_ n3_ n4_ n5_ n6_ n7_ n8_ n9_ n10_ n11_ n12_ n13_ n14_ n15_ n16_ n17_ n18_ n19_ n20_; clear hb hbox hg; have hnb113 := NB1230_1179.out; have hnc113 := NB1179_1230.out; have hnb114 := NB1230_1192.out; have hnc114 := NB1192_1230.out; have hnb115 := NB1230_1198.out; have hnc115 := NB1198_1230.out; have hnb116 := NB1230_1205.out; have hnc116 := NB1205_1230.out; have hcz117_0 : w112.cell? ⟨gb1230, 0, none⟩ = some (.int .i64 0) := (blk_cell BK1230.out 0).trans rfl; have hcz117_1 : w112.cell? ⟨gb1230, 1, none⟩ = some (.int .i64 0) := (blk_cell BK1230.out 1).trans rfl; have hcz117_2 : w112.cell? ⟨gb1230, 2, none⟩ = some (.slice none 0 0) := (blk_cell BK1230.out 2).trans rfl; have hfz117_0 := blk_frozen BK1230.out 0; have hfz117_1 := blk_frozen BK1230.out 1; have hfz117_2 := blk_frozen BK1230.out 2; obtain ⟨Ao118, co118, eo118⟩ := Kd.R_slice HO1228.out; subst eo118))
                      (try simp only [Act.put, List.setIfInBounds_toArray, List.set_cons_zero, List.set_cons_succ])
                      go_cut [97] (fun v97 wc => ∃ (kq : Nat) (x97_97 : Bool), v97 = .bool x97_97 ∧ Aside0 (laws_FnExactTilePicture.j2 kq t1216 x97_97 t1199 t1200 t1217 = some r) ∧ Aside0 (kq ≤ kj61) ∧ Aside0 (Kd.R (Kd.int .i64) 3 wc w.heap.size (fun k_ => some k_ ≠ ((.slice Ao31 t1214.length co31) : Value).ownBlock ∧ some k_ ≠ ((.slice Ao38 t1201.length co38) : Value).ownBlock ∧ some k_ ≠ ((.slice Ao118 t1226.length co118) : Value).ownBlock) (.slice Ao24 t1188.length co24) t1188) ∧ Aside0 (Kd.R (Kd.int .i64) 3 wc w.heap.size (fun k_ => some k_ ≠ ((.slice Ao24 t1188.length co24) : Value).ownBlock ∧ some k_ ≠ ((.slice Ao38 t1201.length co38) : Value).ownBlock ∧ some k_ ≠ ((.slice Ao118 t1226.length co118) : Value).ownBlock) (.slice Ao31 t1214.length co31) t1214) ∧ Aside0 (Kd.R (Kd.int .i64) 3 wc w.heap.size (fun k_ => some k_ ≠ ((.slice Ao24 t1188.length co24) : Value).ownBlock ∧ some k_ ≠ ((.slice Ao31 t1214.length co31) : Value).ownBlock ∧ some k_ ≠ ((.slice Ao118 t1226.length co118) : Value).ownBlock) (.slice Ao38 t1201.length co38) t1217) ∧ Aside0 (Kd.R (Kd.int .i64) 3 wc w.heap.size (fun k_ => some k_ ≠ ((.slice Ao24 t1188.length co24) : Value).ownBlock ∧ some k_ ≠ ((.slice Ao31 t1214.length co31) : Value).ownBlock ∧ some k_ ≠ ((.slice Ao38 t1201.length co38) : Value).ownBlock) (.slice Ao118 t1226.length co118) t1226) ∧ Aside0 (wc.heap[gb1179]? = some (.cells #[.int .i64 a0_0, .int .i64 a0_1, (.slice A0_2 l0_2.length c0_2)] 34 (0, 0))) ∧ Aside0 (wc.heap[gb1192]? = some (.cells #[.int .i64 t1186, .int .i64 t1187, (.slice Ao24 t1188.length co24)] 37 (0, 0))) ∧ Aside0 (wc.heap[gb1198]? = some (.cells #[.int .i64 t1193, .int .i64 t1194, (.slice Ao31 t1214.length co31)] 37 (0, 0))) ∧ Aside0 (wc.heap[gb1205]? = some (.cells #[.int .i64 t1199, .int .i64 t1200, (.slice Ao38 t1201.length co38)] 37 (0, 0))) ∧ Aside0 (wc.heap[gb1230]? = some (.cells #[.int .i64 t1224, .int .i64 t1225, (.slice Ao118 t1226.length co118)] 37 (0, 0))) ∧ Aside0 (Below w.heap.size w wc))
                      case first =>
                        have H := HC98.out
                        clear HC98
                        replace H := Option.bind_eq_some_iff.mp H
                        obtain ⟨t1231, A1190, H⟩ := H
                        replace H : (if t1231 = true then (laws_FnExactTilePicture.j2 kj61 t1216 (t1229 != t1191) t1199 t1200 t1217) else (laws_FnExactTilePicture.j2 kj61 t1216 true t1199 t1200 t1217)) = some r := H
                        have A119 := Aside0.mk A1190
                        clear A1190
                        by_cases c120 : t1231 = true
                        · subst c120
                          have H1 : (laws_FnExactTilePicture.j2 kj61 t1216 (t1229 != t1191) t1199 t1200 t1217) = some r := by rw [if_pos rfl] at H; exact H
                          clear H
                          have H := H1
                          clear H1
                          have H' := Aside0.mk H
                          clear H
                          have hnb121 := NB1230_1179.out
                          have hnc121 := NB1179_1230.out
                          have hnb122 := NB1230_1192.out
                          have hnc122 := NB1192_1230.out
                          have hnb123 := NB1230_1198.out
                          have hnc123 := NB1198_1230.out
                          have hnb124 := NB1230_1205.out
                          have hnc124 := NB1205_1230.out
                          have hcz125_0 : w112.cell? ⟨gb1230, 0, none⟩ = some (.int .i64 0) := (blk_cell BK1230.out 0).trans rfl
                          have hcz125_1 : w112.cell? ⟨gb1230, 1, none⟩ = some (.int .i64 0) := (blk_cell BK1230.out 1).trans rfl
                          have hcz125_2 : w112.cell? ⟨gb1230, 2, none⟩ = some (.slice none 0 0) := (blk_cell BK1230.out 2).trans rfl
                          have hfz125_0 := blk_frozen BK1230.out 0
                          have hfz125_1 := blk_frozen BK1230.out 1
                          have hfz125_2 := blk_frozen BK1230.out 2
                          have hnb126 := NB1192_1179.out
                          have hnc126 := NB1179_1192.out
                          have hnb127 := NB1192_1198.out
                          have hnc127 := NB1198_1192.out
                          have hnb128 := NB1192_1205.out
                          have hnc128 := NB1205_1192.out
                          have hcz129_0 : w112.cell? ⟨gb1192, 0, none⟩ = some (.int .i64 t1186) := (blk_cell BK1192.out 0).trans rfl
                          have hcz129_1 : w112.cell? ⟨gb1192, 1, none⟩ = some (.int .i64 t1187) := (blk_cell BK1192.out 1).trans rfl
                          have hcz129_2 : w112.cell? ⟨gb1192, 2, none⟩ = some (.slice Ao24 t1188.length co24) := (blk_cell BK1192.out 2).trans rfl
                          have hfz129_0 := blk_frozen BK1192.out 0
                          have hfz129_1 := blk_frozen BK1192.out 1
                          have hfz129_2 := blk_frozen BK1192.out 2
                          go_wp2_with (first | ((with_reducible refine gate_callee (f := 50) rfl ?_); refine goesL_ (some 91) rfl rfl Try.func50 (by kernel_rfl) rfl #[.agg #[.int .i64 t1224, .int .i64 t1225, .slice Ao118 t1226.length co118], .agg #[.int .i64 t1186, .int .i64 t1187, .slice Ao24 t1188.length co24]] rfl (by (try simp only [List.map_toArray, List.map_cons, List.map_nil]); first | done | rfl | (simp only [List.length_drop, List.length_take]; rfl)) ?_; (with_reducible refine (laws_eqPicture.calls kj61 t1224 t1225 _ _ t1226 t1186 t1187 _ _ t1188 true _ ?side1 ?side2 ?side3 ?side4 A119.out).mono ?_); (case side1 => refine (Kd.R_reads' (e := 3) (base := w.heap.size) (ok := fun k_ => ((((True ∧ some k_ ≠ (.slice Ao24 t1188.length co24 : Value).ownBlock) ∧ some k_ ≠ (.slice Ao31 t1214.length co31 : Value).ownBlock) ∧ some k_ ≠ (.slice Ao38 t1201.length co38 : Value).ownBlock) ∧ some k_ ≠ (.slice Ao110 t1221.length co110 : Value).ownBlock)) (n := t1226.length) (c := co118) ?_).2.2; exact (by (with_reducible repeat (first | apply Kd.R_alloc | apply Kd.R_drewN | apply Kd.R_drew)); exact (Kd.R_mono (Kd.R_far (p := ⟨gb1230, 2, none⟩) (Kd.R_far (p := ⟨gb1230, 1, none⟩) (Kd.R_far (p := ⟨gb1230, 0, none⟩) (Kd.R_types HO1228.out BK1230.out (by decide)) (fun _ hk => hk.2) (.int .i64 t1224)) (fun _ hk => hk.2) (.int .i64 t1225)) (fun _ hk => hk.2) (.slice Ao118 t1226.length co118)) (fun _ h_ => h_.1)))); (case side2 => exact (Kd.R_reads' HO1228.out).2.1); (case side3 => refine (Kd.R_reads' (e := 3) (base := w.heap.size) (ok := fun k_ => (((some k_ ≠ (.slice Ao31 t1214.length co31 : Value).ownBlock ∧ some k_ ≠ (.slice Ao38 t1201.length co38 : Value).ownBlock) ∧ some k_ ≠ (.slice Ao110 t1221.length co110 : Value).ownBlock) ∧ some k_ ≠ (.slice Ao118 t1226.length co118 : Value).ownBlock)) (n := t1188.length) (c := co24) ?_).2.2; exact (by (with_reducible repeat (first | apply Kd.R_alloc | apply Kd.R_drewN | apply Kd.R_drew)); exact (Kd.R_mono (Kd.R_far (p := ⟨gb1230, 2, none⟩) (Kd.R_far (p := ⟨gb1230, 1, none⟩) (Kd.R_far (p := ⟨gb1230, 0, none⟩) (Kd.R_types HO_1193002.out BK1230.out (by decide)) (fun _ hk => hk.2) (.int .i64 t1224)) (fun _ hk => hk.2) (.int .i64 t1225)) (fun _ hk => hk.2) (.slice Ao118 t1226.length co118)) (fun _ h_ => h_.1)))); (case side4 => exact (Kd.R_reads' HO_1193002.out).2.1); rintro e w130 ⟨rfl, hb⟩; refine ⟨_, rfl, ?_⟩; have n0_ := Aside0.mk (Kd.R_below (by (with_reducible repeat (first | apply Kd.R_alloc | apply Kd.R_drewN | apply Kd.R_drew)); exact (Kd.R_mono (Kd.R_far (p := ⟨gb1230, 2, none⟩) (Kd.R_far (p := ⟨gb1230, 1, none⟩) (Kd.R_far (p := ⟨gb1230, 0, none⟩) (Kd.R_types HO_1193002.out BK1230.out (by decide)) (fun _ hk => hk.2) (.int .i64 t1224)) (fun _ hk => hk.2) (.int .i64 t1225)) (fun _ hk => hk.2) (.slice Ao118 t1226.length co118)) (fun _ h_ => h_.1))) hb); have n1_ := Aside0.mk (Kd.R_below (by (with_reducible repeat (first | apply Kd.R_alloc | apply Kd.R_drewN | apply Kd.R_drew)); exact (Kd.R_mono (Kd.R_far (p := ⟨gb1230, 2, none⟩) (Kd.R_far (p := ⟨gb1230, 1, none⟩) (Kd.R_far (p := ⟨gb1230, 0, none⟩) (Kd.R_types HO_1199002.out BK1230.out (by decide)) (fun _ hk => hk.2) (.int .i64 t1224)) (fun _ hk => hk.2) (.int .i64 t1225)) (fun _ hk => hk.2) (.slice Ao118 t1226.length co118)) (fun _ h_ => h_.1))) hb); have n2_ := Aside0.mk (Kd.R_below (by (with_reducible repeat (first | apply Kd.R_alloc | apply Kd.R_drewN | apply Kd.R_drew)); exact (Kd.R_mono (Kd.R_far (p := ⟨gb1230, 2, none⟩) (Kd.R_far (p := ⟨gb1230, 1, none⟩) (Kd.R_far (p := ⟨gb1230, 0, none⟩) (Kd.R_types HO_1206002.out BK1230.out (by decide)) (fun _ hk => hk.2) (.int .i64 t1224)) (fun _ hk => hk.2) (.int .i64 t1225)) (fun _ hk => hk.2) (.slice Ao118 t1226.length co118)) (fun _ h_ => h_.1))) hb); have n3_ := Aside0.mk (Kd.R_below (by (with_reducible repeat (first | apply Kd.R_alloc | apply Kd.R_drewN | apply Kd.R_drew)); exact (Kd.R_mono (Kd.R_far (p := ⟨gb1230, 2, none⟩) (Kd.R_far (p := ⟨gb1230, 1, none⟩) (Kd.R_far (p := ⟨gb1230, 0, none⟩) (Kd.R_types HO1223.out BK1230.out (by decide)) (fun _ hk => hk.2) (.int .i64 t1224)) (fun _ hk => hk.2) (.int .i64 t1225)) (fun _ hk => hk.2) (.slice Ao118 t1226.length co118)) (fun _ h_ => h_.1))) hb); have n4_ := Aside0.mk (Kd.R_below (by (with_reducible repeat (first | apply Kd.R_alloc | apply Kd.R_drewN | apply Kd.R_drew)); exact (Kd.R_mono (Kd.R_far (p := ⟨gb1230, 2, none⟩) (Kd.R_far (p := ⟨gb1230, 1, none⟩) (Kd.R_far (p := ⟨gb1230, 0, none⟩) (Kd.R_types HO1228.out BK1230.out (by decide)) (fun _ hk => hk.2) (.int .i64 t1224)) (fun _ hk => hk.2) (.int .i64 t1225)) (fun _ hk => hk.2) (.slice Ao118 t1226.length co118)) (fun _ h_ => h_.1))) hb); have n5_ := Aside0.mk (blk_below (g := gb1179) (o := .cells #[.int .i64 a0_0, .int .i64 a0_1, .slice A0_2 l0_2.length c0_2] 34 (0, 0)) (by (with_reducible repeat (first | refine blk_drewN ?_ _ | refine blk_drew ?_ | refine blk_alloc ?_ _)); refine blk_far ?_ NB1179_1230.out _; (with_reducible repeat (first | refine blk_drewN ?_ _ | refine blk_drew ?_ | refine blk_alloc ?_ _)); refine blk_far ?_ NB1179_1230.out _; (with_reducible repeat (first | refine blk_drewN ?_ _ | refine blk_drew ?_ | refine blk_alloc ?_ _)); refine blk_far ?_ NB1179_1230.out _; (with_reducible repeat (first | refine blk_drewN ?_ _ | refine blk_drew ?_ | refine blk_alloc ?_ _)); exact BK1179.out) hb); have n6_ := Aside0.mk (blk_below (g := gb1192) (o := .cells #[.int .i64 t1186, .int .i64 t1187, .slice Ao24 t1188.length co24] 37 (0, 0)) (by (with_reducible repeat (first | refine blk_drewN ?_ _ | refine blk_drew ?_ | refine blk_alloc ?_ _)); refine blk_far ?_ NB1192_1230.out _; (with_reducible repeat (first | refine blk_drewN ?_ _ | refine blk_drew ?_ | refine blk_alloc ?_ _)); refine blk_far ?_ NB1192_1230.out _; (with_reducible repeat (first | refine blk_drewN ?_ _ | refine blk_drew ?_ | refine blk_alloc ?_ _)); refine blk_far ?_ NB1192_1230.out _; (with_reducible repeat (first | refine blk_drewN ?_ _ | refine blk_drew ?_ | refine blk_alloc ?_ _)); exact BK1192.out) hb); have n7_ := Aside0.mk (blk_below (g := gb1198) (o := .cells #[.int .i64 t1193, .int .i64 t1194, .slice Ao31 t1214.length co31] 37 (0, 0)) (by (with_reducible repeat (first | refine blk_drewN ?_ _ | refine blk_drew ?_ | refine blk_alloc ?_ _)); refine blk_far ?_ NB1198_1230.out _; (with_reducible repeat (first | refine blk_drewN ?_ _ | refine blk_drew ?_ | refine blk_alloc ?_ _)); refine blk_far ?_ NB1198_1230.out _; (with_reducible repeat (first | refine blk_drewN ?_ _ | refine blk_drew ?_ | refine blk_alloc ?_ _)); refine blk_far ?_ NB1198_1230.out _; (with_reducible repeat (first | refine blk_drewN ?_ _ | refine blk_drew ?_ | refine blk_alloc ?_ _)); exact BK1198.out) hb); have n8_ := Aside0.mk (blk_below (g := gb1205) (o := .cells #[.int .i64 t1199, .int .i64 t1200, .slice Ao38 t1201.length co38] 37 (0, 0)) (by (with_reducible repeat (first | refine blk_drewN ?_ _ | refine blk_drew ?_ | refine blk_alloc ?_ _)); refine blk_far ?_ NB1205_1230.out _; (with_reducible repeat (first | refine blk_drewN ?_ _ | refine blk_drew ?_ | refine blk_alloc ?_ _)); refine blk_far ?_ NB1205_1230.out _; (with_reducible repeat (first | refine blk_drewN ?_ _ | refine blk_drew ?_ | refine blk_alloc ?_ _)); refine blk_far ?_ NB1205_1230.out _; (with_reducible repeat (first | refine blk_drewN ?_ _ | refine blk_drew ?_ | refine blk_alloc ?_ _)); exact BK1205.out) hb); have n9_ := Aside0.mk (blk_below (g := gb1230) (o := .cells #[.int .i64 t1224, .int .i64 t1225, .slice Ao118 t1226.length co118] 37 (0, 0)) (by (with_reducible repeat (first | refine blk_drewN ?_ _ | refine blk_drew ?_ | refine blk_alloc ?_ _)); refine blk_put (cs := #[.int .i64 t1224, .int .i64 t1225, .slice none 0 0]) ?_ 2 _ rfl; (with_reducible repeat (first | refine blk_drewN ?_ _ | refine blk_drew ?_ | refine blk_alloc ?_ _)); refine blk_put (cs := #[.int .i64 t1224, .int .i64 0, .slice none 0 0]) ?_ 1 _ rfl; (with_reducible repeat (first | refine blk_drewN ?_ _ | refine blk_drew ?_ | refine blk_alloc ?_ _)); refine blk_put (cs := #[.int .i64 0, .int .i64 0, .slice none 0 0]) ?_ 0 _ rfl; (with_reducible repeat (first | refine blk_drewN ?_ _ | refine blk_drew ?_ | refine blk_alloc ?_ _)); exact BK1230.out) hb); have n10_ := Aside0.mk (below_step (by repeat (first | (with_reducible first | exact HB.out | apply below_alloc | apply pw_below_drewN | apply below_drew1 | refine below_set ?_ GE1179.out | refine below_set ?_ GE1192.out | refine below_set ?_ GE1198.out | refine below_set ?_ GE1205.out | refine below_set ?_ GE1230.out) | exact HB.out)) hb); clear HO_1193002; clear HO_1199002; clear HO_1206002; clear HO1223; clear HO1228; clear BK1179; clear BK1192; clear BK1198; clear BK1205; clear BK1230; clear HB; have HO_1193002 := n0_; have HO_1199002 := n1_; have HO_1206002 := n2_; have HO1223 := n3_; have HO1228 := n4_; have BK1179 := n5_; have BK1192 := n6_; have BK1198 := n7_; have BK1205 := n8_; have BK1230 := n9_; have HB := n10_; clear n0_ n1_ n2_ n3_ n4_ n5_ n6_ n7_ n8_ n9_ n10_; (try clear hb); (try clear hb2); (try clear hk); (try clear hi)))
                          go_meet
                          case rel => exact ⟨_, ((t1229 != t1191)), (by first | rfl | (simp; done) | (simp [*]; done)), H', ⟨by have := HJ12.out; have := HJ61.out; first | omega | exact Nat.le_refl _⟩, ⟨by (try simp only [hl1199002_61]); (with_reducible repeat (first | apply Kd.R_alloc | apply Kd.R_drewN | apply Kd.R_drew)); exact Kd.R_mono HO_1193002.out (fun _ hk => ⟨hk.1.1.1, ⟨hk.1.1.2, hk.2⟩⟩)⟩, ⟨by (try simp only [hl1199002_61]); (with_reducible repeat (first | apply Kd.R_alloc | apply Kd.R_drewN | apply Kd.R_drew)); exact Kd.R_mono HO_1199002.out (fun _ hk => ⟨hk.1.1.1, ⟨hk.1.1.2, hk.2⟩⟩)⟩, ⟨by (try simp only [hl1199002_61]); (with_reducible repeat (first | apply Kd.R_alloc | apply Kd.R_drewN | apply Kd.R_drew)); exact Kd.R_mono HO_1206002.out (fun _ hk => ⟨hk.1.1.1, ⟨hk.1.1.2, hk.2⟩⟩)⟩, ⟨by (try simp only [hl1199002_61]); (with_reducible repeat (first | apply Kd.R_alloc | apply Kd.R_drewN | apply Kd.R_drew)); exact Kd.R_mono HO1228.out (fun _ hk => ⟨hk.1.1.1.2, ⟨hk.1.1.2, hk.1.2⟩⟩)⟩, ⟨by (try simp only [hl1199002_61]); (with_reducible repeat (first | refine blk_drewN ?_ _ | refine blk_drew ?_ | refine blk_alloc ?_ _)); exact BK1179.out⟩, ⟨by (try simp only [hl1199002_61]); (with_reducible repeat (first | refine blk_drewN ?_ _ | refine blk_drew ?_ | refine blk_alloc ?_ _)); exact BK1192.out⟩, ⟨by (try simp only [hl1199002_61]); (with_reducible repeat (first | refine blk_drewN ?_ _ | refine blk_drew ?_ | refine blk_alloc ?_ _)); exact BK1198.out⟩, ⟨by (try simp only [hl1199002_61]); (with_reducible repeat (first | refine blk_drewN ?_ _ | refine blk_drew ?_ | refine blk_alloc ?_ _)); exact BK1205.out⟩, ⟨by (try simp only [hl1199002_61]); (with_reducible repeat (first | refine blk_drewN ?_ _ | refine blk_drew ?_ | refine blk_alloc ?_ _)); exact BK1230.out⟩, ⟨by repeat (first | (with_reducible first | exact HB.out | apply below_alloc | apply pw_below_drewN | apply below_drew1 | refine below_set ?_ GE1179.out | refine below_set ?_ GE1192.out | refine below_set ?_ GE1198.out | refine below_set ?_ GE1205.out | refine below_set ?_ GE1230.out) | exact HB.out)⟩⟩
                        · replace c120 := Bool.eq_false_iff.mpr c120
                          subst c120
                          have H1 : (laws_FnExactTilePicture.j2 kj61 t1216 true t1199 t1200 t1217) = some r := by rw [if_neg (show ¬ (false = true) by decide)] at H; exact H
                          clear H
                          have H := H1
                          clear H1
                          have H' := Aside0.mk H
                          clear H
                          have hnb131 := NB1230_1179.out
                          have hnc131 := NB1179_1230.out
                          have hnb132 := NB1230_1192.out
                          have hnc132 := NB1192_1230.out
                          have hnb133 := NB1230_1198.out
                          have hnc133 := NB1198_1230.out
                          have hnb134 := NB1230_1205.out
                          have hnc134 := NB1205_1230.out
                          have hcz135_0 : w112.cell? ⟨gb1230, 0, none⟩ = some (.int .i64 0) := (blk_cell BK1230.out 0).trans rfl
                          have hcz135_1 : w112.cell? ⟨gb1230, 1, none⟩ = some (.int .i64 0) := (blk_cell BK1230.out 1).trans rfl
                          have hcz135_2 : w112.cell? ⟨gb1230, 2, none⟩ = some (.slice none 0 0) := (blk_cell BK1230.out 2).trans rfl
                          have hfz135_0 := blk_frozen BK1230.out 0
                          have hfz135_1 := blk_frozen BK1230.out 1
                          have hfz135_2 := blk_frozen BK1230.out 2
                          have hnb136 := NB1192_1179.out
                          have hnc136 := NB1179_1192.out
                          have hnb137 := NB1192_1198.out
                          have hnc137 := NB1198_1192.out
                          have hnb138 := NB1192_1205.out
                          have hnc138 := NB1205_1192.out
                          have hcz139_0 : w112.cell? ⟨gb1192, 0, none⟩ = some (.int .i64 t1186) := (blk_cell BK1192.out 0).trans rfl
                          have hcz139_1 : w112.cell? ⟨gb1192, 1, none⟩ = some (.int .i64 t1187) := (blk_cell BK1192.out 1).trans rfl
                          have hcz139_2 : w112.cell? ⟨gb1192, 2, none⟩ = some (.slice Ao24 t1188.length co24) := (blk_cell BK1192.out 2).trans rfl
                          have hfz139_0 := blk_frozen BK1192.out 0
                          have hfz139_1 := blk_frozen BK1192.out 1
                          have hfz139_2 := blk_frozen BK1192.out 2
                          go_wp2_with (first | ((with_reducible refine gate_callee (f := 50) rfl ?_); refine goesL_ (some 91) rfl rfl Try.func50 (by kernel_rfl) rfl #[.agg #[.int .i64 t1224, .int .i64 t1225, .slice Ao118 t1226.length co118], .agg #[.int .i64 t1186, .int .i64 t1187, .slice Ao24 t1188.length co24]] rfl (by (try simp only [List.map_toArray, List.map_cons, List.map_nil]); first | done | rfl | (simp only [List.length_drop, List.length_take]; rfl)) ?_; (with_reducible refine (laws_eqPicture.calls kj61 t1224 t1225 _ _ t1226 t1186 t1187 _ _ t1188 false _ ?side1 ?side2 ?side3 ?side4 A119.out).mono ?_); (case side1 => refine (Kd.R_reads' (e := 3) (base := w.heap.size) (ok := fun k_ => ((((True ∧ some k_ ≠ (.slice Ao24 t1188.length co24 : Value).ownBlock) ∧ some k_ ≠ (.slice Ao31 t1214.length co31 : Value).ownBlock) ∧ some k_ ≠ (.slice Ao38 t1201.length co38 : Value).ownBlock) ∧ some k_ ≠ (.slice Ao110 t1221.length co110 : Value).ownBlock)) (n := t1226.length) (c := co118) ?_).2.2; exact (by (with_reducible repeat (first | apply Kd.R_alloc | apply Kd.R_drewN | apply Kd.R_drew)); exact (Kd.R_mono (Kd.R_far (p := ⟨gb1230, 2, none⟩) (Kd.R_far (p := ⟨gb1230, 1, none⟩) (Kd.R_far (p := ⟨gb1230, 0, none⟩) (Kd.R_types HO1228.out BK1230.out (by decide)) (fun _ hk => hk.2) (.int .i64 t1224)) (fun _ hk => hk.2) (.int .i64 t1225)) (fun _ hk => hk.2) (.slice Ao118 t1226.length co118)) (fun _ h_ => h_.1)))); (case side2 => exact (Kd.R_reads' HO1228.out).2.1); (case side3 => refine (Kd.R_reads' (e := 3) (base := w.heap.size) (ok := fun k_ => (((some k_ ≠ (.slice Ao31 t1214.length co31 : Value).ownBlock ∧ some k_ ≠ (.slice Ao38 t1201.length co38 : Value).ownBlock) ∧ some k_ ≠ (.slice Ao110 t1221.length co110 : Value).ownBlock) ∧ some k_ ≠ (.slice Ao118 t1226.length co118 : Value).ownBlock)) (n := t1188.length) (c := co24) ?_).2.2; exact (by (with_reducible repeat (first | apply Kd.R_alloc | apply Kd.R_drewN | apply Kd.R_drew)); exact (Kd.R_mono (Kd.R_far (p := ⟨gb1230, 2, none⟩) (Kd.R_far (p := ⟨gb1230, 1, none⟩) (Kd.R_far (p := ⟨gb1230, 0, none⟩) (Kd.R_types HO_1193002.out BK1230.out (by decide)) (fun _ hk => hk.2) (.int .i64 t1224)) (fun _ hk => hk.2) (.int .i64 t1225)) (fun _ hk => hk.2) (.slice Ao118 t1226.length co118)) (fun _ h_ => h_.1)))); (case side4 => exact (Kd.R_reads' HO_1193002.out).2.1); rintro e w140 ⟨rfl, hb⟩; refine ⟨_, rfl, ?_⟩; have n0_ := Aside0.mk (Kd.R_below (by (with_reducible repeat (first | apply Kd.R_alloc | apply Kd.R_drewN | apply Kd.R_drew)); exact (Kd.R_mono (Kd.R_far (p := ⟨gb1230, 2, none⟩) (Kd.R_far (p := ⟨gb1230, 1, none⟩) (Kd.R_far (p := ⟨gb1230, 0, none⟩) (Kd.R_types HO_1193002.out BK1230.out (by decide)) (fun _ hk => hk.2) (.int .i64 t1224)) (fun _ hk => hk.2) (.int .i64 t1225)) (fun _ hk => hk.2) (.slice Ao118 t1226.length co118)) (fun _ h_ => h_.1))) hb); have n1_ := Aside0.mk (Kd.R_below (by (with_reducible repeat (first | apply Kd.R_alloc | apply Kd.R_drewN | apply Kd.R_drew)); exact (Kd.R_mono (Kd.R_far (p := ⟨gb1230, 2, none⟩) (Kd.R_far (p := ⟨gb1230, 1, none⟩) (Kd.R_far (p := ⟨gb1230, 0, none⟩) (Kd.R_types HO_1199002.out BK1230.out (by decide)) (fun _ hk => hk.2) (.int .i64 t1224)) (fun _ hk => hk.2) (.int .i64 t1225)) (fun _ hk => hk.2) (.slice Ao118 t1226.length co118)) (fun _ h_ => h_.1))) hb); have n2_ := Aside0.mk (Kd.R_below (by (with_reducible repeat (first | apply Kd.R_alloc | apply Kd.R_drewN | apply Kd.R_drew)); exact (Kd.R_mono (Kd.R_far (p := ⟨gb1230, 2, none⟩) (Kd.R_far (p := ⟨gb1230, 1, none⟩) (Kd.R_far (p := ⟨gb1230, 0, none⟩) (Kd.R_types HO_1206002.out BK1230.out (by decide)) (fun _ hk => hk.2) (.int .i64 t1224)) (fun _ hk => hk.2) (.int .i64 t1225)) (fun _ hk => hk.2) (.slice Ao118 t1226.length co118)) (fun _ h_ => h_.1))) hb); have n3_ := Aside0.mk (Kd.R_below (by (with_reducible repeat (first | apply Kd.R_alloc | apply Kd.R_drewN | apply Kd.R_drew)); exact (Kd.R_mono (Kd.R_far (p := ⟨gb1230, 2, none⟩) (Kd.R_far (p := ⟨gb1230, 1, none⟩) (Kd.R_far (p := ⟨gb1230, 0, none⟩) (Kd.R_types HO1223.out BK1230.out (by decide)) (fun _ hk => hk.2) (.int .i64 t1224)) (fun _ hk => hk.2) (.int .i64 t1225)) (fun _ hk => hk.2) (.slice Ao118 t1226.length co118)) (fun _ h_ => h_.1))) hb); have n4_ := Aside0.mk (Kd.R_below (by (with_reducible repeat (first | apply Kd.R_alloc | apply Kd.R_drewN | apply Kd.R_drew)); exact (Kd.R_mono (Kd.R_far (p := ⟨gb1230, 2, none⟩) (Kd.R_far (p := ⟨gb1230, 1, none⟩) (Kd.R_far (p := ⟨gb1230, 0, none⟩) (Kd.R_types HO1228.out BK1230.out (by decide)) (fun _ hk => hk.2) (.int .i64 t1224)) (fun _ hk => hk.2) (.int .i64 t1225)) (fun _ hk => hk.2) (.slice Ao118 t1226.length co118)) (fun _ h_ => h_.1))) hb); have n5_ := Aside0.mk (blk_below (g := gb1179) (o := .cells #[.int .i64 a0_0, .int .i64 a0_1, .slice A0_2 l0_2.length c0_2] 34 (0, 0)) (by (with_reducible repeat (first | refine blk_drewN ?_ _ | refine blk_drew ?_ | refine blk_alloc ?_ _)); refine blk_far ?_ NB1179_1230.out _; (with_reducible repeat (first | refine blk_drewN ?_ _ | refine blk_drew ?_ | refine blk_alloc ?_ _)); refine blk_far ?_ NB1179_1230.out _; (with_reducible repeat (first | refine blk_drewN ?_ _ | refine blk_drew ?_ | refine blk_alloc ?_ _)); refine blk_far ?_ NB1179_1230.out _; (with_reducible repeat (first | refine blk_drewN ?_ _ | refine blk_drew ?_ | refine blk_alloc ?_ _)); exact BK1179.out) hb); have n6_ := Aside0.mk (blk_below (g := gb1192) (o := .cells #[.int .i64 t1186, .int .i64 t1187, .slice Ao24 t1188.length co24] 37 (0, 0)) (by (with_reducible repeat (first | refine blk_drewN ?_ _ | refine blk_drew ?_ | refine blk_alloc ?_ _)); refine blk_far ?_ NB1192_1230.out _; (with_reducible repeat (first | refine blk_drewN ?_ _ | refine blk_drew ?_ | refine blk_alloc ?_ _)); refine blk_far ?_ NB1192_1230.out _; (with_reducible repeat (first | refine blk_drewN ?_ _ | refine blk_drew ?_ | refine blk_alloc ?_ _)); refine blk_far ?_ NB1192_1230.out _; (with_reducible repeat (first | refine blk_drewN ?_ _ | refine blk_drew ?_ | refine blk_alloc ?_ _)); exact BK1192.out) hb); have n7_ := Aside0.mk (blk_below (g := gb1198) (o := .cells #[.int .i64 t1193, .int .i64 t1194, .slice Ao31 t1214.length co31] 37 (0, 0)) (by (with_reducible repeat (first | refine blk_drewN ?_ _ | refine blk_drew ?_ | refine blk_alloc ?_ _)); refine blk_far ?_ NB1198_1230.out _; (with_reducible repeat (first | refine blk_drewN ?_ _ | refine blk_drew ?_ | refine blk_alloc ?_ _)); refine blk_far ?_ NB1198_1230.out _; (with_reducible repeat (first | refine blk_drewN ?_ _ | refine blk_drew ?_ | refine blk_alloc ?_ _)); refine blk_far ?_ NB1198_1230.out _; (with_reducible repeat (first | refine blk_drewN ?_ _ | refine blk_drew ?_ | refine blk_alloc ?_ _)); exact BK1198.out) hb); have n8_ := Aside0.mk (blk_below (g := gb1205) (o := .cells #[.int .i64 t1199, .int .i64 t1200, .slice Ao38 t1201.length co38] 37 (0, 0)) (by (with_reducible repeat (first | refine blk_drewN ?_ _ | refine blk_drew ?_ | refine blk_alloc ?_ _)); refine blk_far ?_ NB1205_1230.out _; (with_reducible repeat (first | refine blk_drewN ?_ _ | refine blk_drew ?_ | refine blk_alloc ?_ _)); refine blk_far ?_ NB1205_1230.out _; (with_reducible repeat (first | refine blk_drewN ?_ _ | refine blk_drew ?_ | refine blk_alloc ?_ _)); refine blk_far ?_ NB1205_1230.out _; (with_reducible repeat (first | refine blk_drewN ?_ _ | refine blk_drew ?_ | refine blk_alloc ?_ _)); exact BK1205.out) hb); have n9_ := Aside0.mk (blk_below (g := gb1230) (o := .cells #[.int .i64 t1224, .int .i64 t1225, .slice Ao118 t1226.length co118] 37 (0, 0)) (by (with_reducible repeat (first | refine blk_drewN ?_ _ | refine blk_drew ?_ | refine blk_alloc ?_ _)); refine blk_put (cs := #[.int .i64 t1224, .int .i64 t1225, .slice none 0 0]) ?_ 2 _ rfl; (with_reducible repeat (first | refine blk_drewN ?_ _ | refine blk_drew ?_ | refine blk_alloc ?_ _)); refine blk_put (cs := #[.int .i64 t1224, .int .i64 0, .slice none 0 0]) ?_ 1 _ rfl; (with_reducible repeat (first | refine blk_drewN ?_ _ | refine blk_drew ?_ | refine blk_alloc ?_ _)); refine blk_put (cs := #[.int .i64 0, .int .i64 0, .slice none 0 0]) ?_ 0 _ rfl; (with_reducible repeat (first | refine blk_drewN ?_ _ | refine blk_drew ?_ | refine blk_alloc ?_ _)); exact BK1230.out) hb); have n10_ := Aside0.mk (below_step (by repeat (first | (with_reducible first | exact HB.out | apply below_alloc | apply pw_below_drewN | apply below_drew1 | refine below_set ?_ GE1179.out | refine below_set ?_ GE1192.out | refine below_set ?_ GE1198.out | refine below_set ?_ GE1205.out | refine below_set ?_ GE1230.out) | exact HB.out)) hb); clear HO_1193002; clear HO_1199002; clear HO_1206002; clear HO1223; clear HO1228; clear BK1179; clear BK1192; clear BK1198; clear BK1205; clear BK1230; clear HB; have HO_1193002 := n0_; have HO_1199002 := n1_; have HO_1206002 := n2_; have HO1223 := n3_; have HO1228 := n4_; have BK1179 := n5_; have BK1192 := n6_; have BK1198 := n7_; have BK1205 := n8_; have BK1230 := n9_; have HB := n10_; clear n0_ n1_ n2_ n3_ n4_ n5_ n6_ n7_ n8_ n9_ n10_; (try clear hb); (try clear hb2); (try clear hk); (try clear hi)))
                          go_meet
                          case rel => exact ⟨_, (true), (by first | rfl | (simp; done) | (simp [*]; done)), H', ⟨by have := HJ12.out; have := HJ61.out; first | omega | exact Nat.le_refl _⟩, ⟨by (try simp only [hl1199002_61]); (with_reducible repeat (first | apply Kd.R_alloc | apply Kd.R_drewN | apply Kd.R_drew)); exact Kd.R_mono HO_1193002.out (fun _ hk => ⟨hk.1.1.1, ⟨hk.1.1.2, hk.2⟩⟩)⟩, ⟨by (try simp only [hl1199002_61]); (with_reducible repeat (first | apply Kd.R_alloc | apply Kd.R_drewN | apply Kd.R_drew)); exact Kd.R_mono HO_1199002.out (fun _ hk => ⟨hk.1.1.1, ⟨hk.1.1.2, hk.2⟩⟩)⟩, ⟨by (try simp only [hl1199002_61]); (with_reducible repeat (first | apply Kd.R_alloc | apply Kd.R_drewN | apply Kd.R_drew)); exact Kd.R_mono HO_1206002.out (fun _ hk => ⟨hk.1.1.1, ⟨hk.1.1.2, hk.2⟩⟩)⟩, ⟨by (try simp only [hl1199002_61]); (with_reducible repeat (first | apply Kd.R_alloc | apply Kd.R_drewN | apply Kd.R_drew)); exact Kd.R_mono HO1228.out (fun _ hk => ⟨hk.1.1.1.2, ⟨hk.1.1.2, hk.1.2⟩⟩)⟩, ⟨by (try simp only [hl1199002_61]); (with_reducible repeat (first | refine blk_drewN ?_ _ | refine blk_drew ?_ | refine blk_alloc ?_ _)); exact BK1179.out⟩, ⟨by (try simp only [hl1199002_61]); (with_reducible repeat (first | refine blk_drewN ?_ _ | refine blk_drew ?_ | refine blk_alloc ?_ _)); exact BK1192.out⟩, ⟨by (try simp only [hl1199002_61]); (with_reducible repeat (first | refine blk_drewN ?_ _ | refine blk_drew ?_ | refine blk_alloc ?_ _)); exact BK1198.out⟩, ⟨by (try simp only [hl1199002_61]); (with_reducible repeat (first | refine blk_drewN ?_ _ | refine blk_drew ?_ | refine blk_alloc ?_ _)); exact BK1205.out⟩, ⟨by (try simp only [hl1199002_61]); (with_reducible repeat (first | refine blk_drewN ?_ _ | refine blk_drew ?_ | refine blk_alloc ?_ _)); exact BK1230.out⟩, ⟨by repeat (first | (with_reducible first | exact HB.out | apply below_alloc | apply pw_below_drewN | apply below_drew1 | refine below_set ?_ GE1179.out | refine below_set ?_ GE1192.out | refine below_set ?_ GE1198.out | refine below_set ?_ GE1205.out | refine below_set ?_ GE1230.out) | exact HB.out)⟩⟩
                      case rest =>
                        clear HC98
                        try clear c1
                        try clear c2
                        try clear p2
                        try clear c3
                        try clear c4
                        try clear c5
                        try clear c5b0
                        try clear c6
                        try clear c7
                        try clear c8
                        try clear c9
                        try clear c10
                        try clear c11
                        try clear c12
                        try clear c13
                        try clear c22
                        try clear c26
                        try clear c28
                        try clear c29
                        try clear c34
                        try clear c35
                        try clear c36
                        try clear c40
                        try clear c41
                        try clear c42
                        try clear c43
                        try clear c45
                        try clear c46
                        try clear c48
                        try clear c49
                        try clear c50
                        try clear c51
                        try clear c53
                        try clear c54
                        try clear c57
                        try clear c58
                        try clear c59
                        try clear c60
                        try clear c67
                        try clear c68
                        try clear c69
                        try clear c72
                        try clear c72b0
                        try clear c74
                        try clear c75
                        try clear c76
                        try clear c77
                        try clear c79
                        try clear c80
                        try clear c83
                        try clear c84
                        try clear c85
                        try clear c87
                        try clear c88
                        try clear c91
                        try clear c94
                        try clear c94b0
                        try clear c95
                        try clear c95b0
                        try clear c95b1
                        try clear c99
                        try clear c100
                        try clear c101
                        try clear c106
                        try clear c107
                        try clear c113
                        try clear c114
                        try clear c115
                        try clear c116
                        try clear c120
                        try clear c121
                        try clear c122
                        try clear c123
                        try clear c124
                        try clear c126
                        try clear c127
                        try clear c128
                        try clear c131
                        try clear c132
                        try clear c133
                        try clear c134
                        try clear c136
                        try clear c137
                        try clear c138
                        try clear hcz102_0
                        try clear hcz102_1
                        try clear hcz102_2
                        try clear hcz104_0
                        try clear hcz104_1
                        try clear hcz104_2
                        try clear hcz108_0
                        try clear hcz108_1
                        try clear hcz108_2
                        try clear hcz117_0
                        try clear hcz117_1
                        try clear hcz117_2
                        try clear hcz125_0
                        try clear hcz125_1
                        try clear hcz125_2
                        try clear hcz129_0
                        try clear hcz129_1
                        try clear hcz129_2
                        try clear hcz135_0
                        try clear hcz135_1
                        try clear hcz135_2
                        try clear hcz139_0
                        try clear hcz139_1
                        try clear hcz139_2
                        try clear hcz15_0
                        try clear hcz15_1
                        try clear hcz15_2
                        try clear hcz17_0
                        try clear hcz17_1
                        try clear hcz17_2
                        try clear hcz23_0
                        try clear hcz23_1
                        try clear hcz23_2
                        try clear hcz25_0
                        try clear hcz25_1
                        try clear hcz25_2
                        try clear hcz30_0
                        try clear hcz30_1
                        try clear hcz30_2
                        try clear hcz37_0
                        try clear hcz37_1
                        try clear hcz37_2
                        try clear hcz44_0
                        try clear hcz44_1
                        try clear hcz44_2
                        try clear hcz47_0
                        try clear hcz47_1
                        try clear hcz47_2
                        try clear hcz52_0
                        try clear hcz52_1
                        try clear hcz52_2
                        try clear hcz55_0
                        try clear hcz55_1
                        try clear hcz55_2
                        try clear hcz70_0
                        try clear hcz70_1
                        try clear hcz70_2
                        try clear hcz78_0
                        try clear hcz78_1
                        try clear hcz78_2
                        try clear hcz7_0
                        try clear hcz7_1
                        try clear hcz7_2
                        try clear hcz81_0
                        try clear hcz81_1
                        try clear hcz81_2
                        try clear hcz86_0
                        try clear hcz86_1
                        try clear hcz86_2
                        try clear hcz89_0
                        try clear hcz89_1
                        try clear hcz89_2
                        try clear hfz102_0
                        try clear hfz102_1
                        try clear hfz102_2
                        try clear hfz104_0
                        try clear hfz104_1
                        try clear hfz104_2
                        try clear hfz108_0
                        try clear hfz108_1
                        try clear hfz108_2
                        try clear hfz117_0
                        try clear hfz117_1
                        try clear hfz117_2
                        try clear hfz125_0
                        try clear hfz125_1
                        try clear hfz125_2
                        try clear hfz129_0
                        try clear hfz129_1
                        try clear hfz129_2
                        try clear hfz135_0
                        try clear hfz135_1
                        try clear hfz135_2
                        try clear hfz139_0
                        try clear hfz139_1
                        try clear hfz139_2
                        try clear hfz15_0
                        try clear hfz15_1
                        try clear hfz15_2
                        try clear hfz17_0
                        try clear hfz17_1
                        try clear hfz17_2
                        try clear hfz23_0
                        try clear hfz23_1
                        try clear hfz23_2
                        try clear hfz25_0
                        try clear hfz25_1
                        try clear hfz25_2
                        try clear hfz30_0
                        try clear hfz30_1
                        try clear hfz30_2
                        try clear hfz37_0
                        try clear hfz37_1
                        try clear hfz37_2
                        try clear hfz44_0
                        try clear hfz44_1
                        try clear hfz44_2
                        try clear hfz47_0
                        try clear hfz47_1
                        try clear hfz47_2
                        try clear hfz52_0
                        try clear hfz52_1
                        try clear hfz52_2
                        try clear hfz55_0
                        try clear hfz55_1
                        try clear hfz55_2
                        try clear hfz70_0
                        try clear hfz70_1
                        try clear hfz70_2
                        try clear hfz78_0
                        try clear hfz78_1
                        try clear hfz78_2
                        try clear hfz7_0
                        try clear hfz7_1
                        try clear hfz7_2
                        try clear hfz81_0
                        try clear hfz81_1
                        try clear hfz81_2
                        try clear hfz86_0
                        try clear hfz86_1
                        try clear hfz86_2
                        try clear hfz89_0
                        try clear hfz89_1
                        try clear hfz89_2
                        try clear p2
                        obtain ⟨kq, x97_97, rfl, HA, HJ97, HO_1193002, HO_1199002, HO_1206002, HO_1231002, BK1179, BK1192, BK1198, BK1205, BK1230, HB⟩ := hcut
                        have hl1206002_97 := (Kd.R_reads' HO_1206002.out).1
                        rw [hl1206002_97] at HO_1206002
                        (try simp only [hl1206002_97])
                        (try simp only [hl1206002_97] at BK1179)
                        (try simp only [hl1206002_97] at BK1192)
                        (try simp only [hl1206002_97] at BK1198)
                        (try simp only [hl1206002_97] at BK1205)
                        (try simp only [hl1206002_97] at BK1230)
                        (try simp only [hl1206002_97] at HO_1193002)
                        (try simp only [hl1206002_97] at HO_1199002)
                        (try simp only [hl1206002_97] at HO_1231002)
                        cases kq with
                        | zero => exact absurd HA.out (by simp [laws_FnExactTilePicture.j2])
                        | succ kj97 =>
                          have H := HA.out
                          clear HA
                          simp only [laws_FnExactTilePicture.j2] at H
                          by_cases c141 : x97_97 = true
                          · subst c141
                            have H1 : (some false) = some r := by rw [if_pos rfl] at H; exact H
                            clear H
                            have H := H1
                            clear H1
                            exact absurd ((Option.some.inj H).trans hT.out) (by decide)
                          · replace c141 := Bool.eq_false_iff.mpr c141
                            subst c141
                            have H1 : ((laws_heldPicture.f kj97 t1199 t1200 t1217 1).bind fun t1232 => (if t1232 < 0 then (some false) else (if t1232 = t1216 then (some true) else (some false)))) = some r := by rw [if_neg (show ¬ (false = true) by decide)] at H; exact H
                            clear H
                            have H := H1
                            clear H1
                            replace H := Option.bind_eq_some_iff.mp H
                            obtain ⟨t1232, A1420, H⟩ := H
                            replace H : (if t1232 < 0 then (some false) else (if t1232 = t1216 then (some true) else (some false))) = some r := H
                            have A142 := Aside0.mk A1420
                            clear A1420
                            by_cases c143 : t1232 < 0
                            · rw [if_pos c143] at H
                              have c143b0 : decide (t1232 < 0) = true := decide_eq_true c143
                              clear c143
                              exact absurd ((Option.some.inj H).trans hT.out) (by decide)
                            · rw [if_neg c143] at H
                              have c143b0 : decide (t1232 < 0) = false := decide_eq_false c143
                              clear c143
                              by_cases c144 : t1232 = t1216
                              · rw [if_pos c144] at H
                                have c144b0 : (t1232 == t1216) = true := beq_iff_eq.mpr c144
                                have c144b1 : (t1232 != t1216) = false := bne_eq_false_iff_eq.mpr c144
                                clear c144
                                obtain rfl := Option.some.inj H
                                have hnb145 := NB1205_1179.out
                                have hnc145 := NB1179_1205.out
                                have hnb146 := NB1205_1192.out
                                have hnc146 := NB1192_1205.out
                                have hnb147 := NB1205_1198.out
                                have hnc147 := NB1198_1205.out
                                have hnb148 := NB1205_1230.out
                                have hnc148 := NB1230_1205.out
                                have hcz149_0 : wc.cell? ⟨gb1205, 0, none⟩ = some (.int .i64 t1199) := (blk_cell BK1205.out 0).trans rfl
                                have hcz149_1 : wc.cell? ⟨gb1205, 1, none⟩ = some (.int .i64 t1200) := (blk_cell BK1205.out 1).trans rfl
                                have hcz149_2 : wc.cell? ⟨gb1205, 2, none⟩ = some (.slice Ao38 t1217.length co38) := (blk_cell BK1205.out 2).trans rfl
                                have hfz149_0 := blk_frozen BK1205.out 0
                                have hfz149_1 := blk_frozen BK1205.out 1
                                have hfz149_2 := blk_frozen BK1205.out 2
                                go_wp2_with (first | ((with_reducible refine gate_callee (f := 59) rfl ?_); refine goesL_ (some 100) rfl rfl Try.func59 (by kernel_rfl) rfl #[.agg #[.int .i64 t1199, .int .i64 t1200, .slice Ao38 t1217.length co38], .int .i64 1] rfl (by (try simp only [List.map_toArray, List.map_cons, List.map_nil]); first | done | rfl | (simp only [List.length_drop, List.length_take]; rfl)) ?_; (with_reducible refine (laws_heldPicture.calls kj97 t1199 t1200 _ _ t1217 1 t1232 _ ?side1 ?side2 A142.out).mono ?_); (case side1 => repeat (first | exact (Kd.R_reads' HO_1206002.out).2.2 | (with_reducible refine Kd.C_alloc ?_ _) | (with_reducible refine Kd.C_drewN ?_ _) | (with_reducible refine Kd.C_drew ?_))); (case side2 => exact (Kd.R_reads' HO_1206002.out).2.1); rintro e w150 ⟨rfl, hb⟩; refine ⟨_, rfl, ?_⟩; have n0_ := Aside0.mk (Kd.R_below (by (with_reducible repeat (first | apply Kd.R_alloc | apply Kd.R_drewN | apply Kd.R_drew)); exact HO_1193002.out) hb); have n1_ := Aside0.mk (Kd.R_below (by (with_reducible repeat (first | apply Kd.R_alloc | apply Kd.R_drewN | apply Kd.R_drew)); exact HO_1199002.out) hb); have n2_ := Aside0.mk (Kd.R_below (by (with_reducible repeat (first | apply Kd.R_alloc | apply Kd.R_drewN | apply Kd.R_drew)); exact HO_1206002.out) hb); have n3_ := Aside0.mk (Kd.R_below (by (with_reducible repeat (first | apply Kd.R_alloc | apply Kd.R_drewN | apply Kd.R_drew)); exact HO_1231002.out) hb); have n4_ := Aside0.mk (blk_below (g := gb1179) (o := .cells #[.int .i64 a0_0, .int .i64 a0_1, .slice A0_2 l0_2.length c0_2] 34 (0, 0)) (by (with_reducible repeat (first | refine blk_drewN ?_ _ | refine blk_drew ?_ | refine blk_alloc ?_ _)); exact BK1179.out) hb); have n5_ := Aside0.mk (blk_below (g := gb1192) (o := .cells #[.int .i64 t1186, .int .i64 t1187, .slice Ao24 t1188.length co24] 37 (0, 0)) (by (with_reducible repeat (first | refine blk_drewN ?_ _ | refine blk_drew ?_ | refine blk_alloc ?_ _)); exact BK1192.out) hb); have n6_ := Aside0.mk (blk_below (g := gb1198) (o := .cells #[.int .i64 t1193, .int .i64 t1194, .slice Ao31 t1214.length co31] 37 (0, 0)) (by (with_reducible repeat (first | refine blk_drewN ?_ _ | refine blk_drew ?_ | refine blk_alloc ?_ _)); exact BK1198.out) hb); have n7_ := Aside0.mk (blk_below (g := gb1205) (o := .cells #[.int .i64 t1199, .int .i64 t1200, .slice Ao38 t1217.length co38] 37 (0, 0)) (by (with_reducible repeat (first | refine blk_drewN ?_ _ | refine blk_drew ?_ | refine blk_alloc ?_ _)); exact BK1205.out) hb); have n8_ := Aside0.mk (blk_below (g := gb1230) (o := .cells #[.int .i64 t1224, .int .i64 t1225, .slice Ao118 t1226.length co118] 37 (0, 0)) (by (with_reducible repeat (first | refine blk_drewN ?_ _ | refine blk_drew ?_ | refine blk_alloc ?_ _)); exact BK1230.out) hb); have n9_ := Aside0.mk (below_step (by repeat (first | (with_reducible first | exact HB.out | apply below_alloc | apply pw_below_drewN | apply below_drew1 | refine below_set ?_ GE1179.out | refine below_set ?_ GE1192.out | refine below_set ?_ GE1198.out | refine below_set ?_ GE1205.out | refine below_set ?_ GE1230.out) | exact HB.out)) hb); clear HO_1193002; clear HO_1199002; clear HO_1206002; clear HO_1231002; clear BK1179; clear BK1192; clear BK1198; clear BK1205; clear BK1230; clear HB; have HO_1193002 := n0_; have HO_1199002 := n1_; have HO_1206002 := n2_; have HO_1231002 := n3_; have BK1179 := n4_; have BK1192 := n5_; have BK1198 := n6_; have BK1205 := n7_; have BK1230 := n8_; have HB := n9_; clear n0_ n1_ n2_ n3_ n4_ n5_ n6_ n7_ n8_ n9_; (try clear hb); (try clear hb2); (try clear hk); (try clear hi)))
                                go_ret
                                exact ⟨by first | rfl | (simp [errW_none, errW_some] <;> rfl) | (simp [*, errW_none, errW_some] <;> rfl), by repeat (first | (with_reducible first | exact HB.out | apply below_alloc | apply pw_below_drewN | apply below_drew1 | refine below_set ?_ GE1179.out | refine below_set ?_ GE1192.out | refine below_set ?_ GE1198.out | refine below_set ?_ GE1205.out | refine below_set ?_ GE1230.out) | exact HB.out)⟩
                              · rw [if_neg c144] at H
                                have c144b0 : (t1232 == t1216) = false := beq_eq_false_iff_ne.mpr c144
                                have c144b1 : (t1232 != t1216) = true := bne_iff_ne.mpr c144
                                exact absurd ((Option.some.inj H).trans hT.out) (by decide)
                    · rw [if_neg c95] at H
                      have c95b0 : (t1218 == t1216) = false := beq_eq_false_iff_ne.mpr c95
                      have c95b1 : (t1218 != t1216) = true := bne_iff_ne.mpr c95
                      exact absurd ((Option.some.inj H).trans hT.out) (by decide)
          · replace c60 := Bool.eq_false_iff.mpr c60
            subst c60
            have H1 : (some false) = some r := by rw [if_neg (show ¬ (false = true) by decide)] at H; exact H
            clear H
            have H := H1
            clear H1
            exact absurd ((Option.some.inj H).trans hT.out) (by decide)

end Go.Proofs.Ytbgbbfdmgpcgmaa.P
