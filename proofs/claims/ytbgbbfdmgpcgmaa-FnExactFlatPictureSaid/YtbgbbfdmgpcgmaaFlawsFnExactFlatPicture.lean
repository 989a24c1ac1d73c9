-- Written by tools/seatprint.py (over the kit's print, changed in memory). Not trusted: Lean checks it.
import Derived.Test.YtbgbbfdmgpcgmaaP0
import Derived.Test.YtbgbbfdmgpcgmaaFlawseqPicture
import Derived.Test.YtbgbbfdmgpcgmaaFspecFlatPicture
import Derived.Test.YtbgbbfdmgpcgmaaFimplFlatPicture
import Derived.Test.YtbgbbfdmgpcgmaaFlawsmarkPicture
import Derived.Test.YtbgbbfdmgpcgmaaFlawsheldPicture
namespace Go.Proofs.Ytbgbbfdmgpcgmaa.P
open Go.RowKit Go.Proofs.YtbgbbfdmgpcgmaaW.PrintWords Go.Proofs.YtbgbbfdmgpcgmaaW.PrintLast Go.Proofs.YtbgbbfdmgpcgmaaW.PrintMore
attribute [local go_sem] max2_int min2_int max_two min_two max_three min_three max_four min_four   -- for this text's walks alone
set_option linter.unusedVariables false
set_option linter.unusedSimpArgs false

/-! ### laws_FnExactFlatPicture: function 8 -/
mutual
def laws_FnExactFlatPicture.j0 : Nat → Int → Int → Int → Bool → Bool → Int → Int → List Int → Int → Int → List Int → Option (Bool)
  | 0, _, _, _, _, _, _, _, _, _, _, _ => none
  | k + 1, x0, x1, x2, x8, x37, x406000, x406001, x406002, x413000, x413001, x413002 => if x37 = true then (some false) else ((laws_markPicture.f k x413000 x413001 x413002 1).bind fun bt414 => ((laws_heldPicture.f k x413000 x413001 bt414.2 1).bind fun t416 => (if t416 < 0 then (some false) else (if t416 = bt414.1 then ((impl_FlatPicture.f x0 x1 x2).bind fun bt417 => ((laws_eqPicture.f k bt417.1 bt417.2.1 bt417.2.2.1 x406000 x406001 x406002).bind fun t424 => (if t424 = true then (laws_FnExactFlatPicture.j1 k bt414.1 (bt417.2.2.2 != x8) x413000 x413001 bt414.2) else (laws_FnExactFlatPicture.j1 k bt414.1 true x413000 x413001 bt414.2)))) else (some false)))))
def laws_FnExactFlatPicture.j1 : Nat → Int → Bool → Int → Int → List Int → Option (Bool)
  | 0, _, _, _, _, _ => none
  | k + 1, x11, x64, x413000, x413001, x413002 => if x64 = true then (some false) else ((laws_heldPicture.f k x413000 x413001 x413002 1).bind fun t425 => (if t425 < 0 then (some false) else (if t425 = x11 then (some true) else (some false))))
end
def laws_FnExactFlatPicture.f (k : Nat) (a0 : Int) (a1 : Int) (a2 : Int) : Option (Bool) := (spec_FlatPicture.f k a0 a1 a2).bind fun bt399 => ((impl_FlatPicture.f a0 a1 a2).bind fun bt406 => ((laws_eqPicture.f k bt406.1 bt406.2.1 bt406.2.2.1 bt399.1 bt399.2.1 bt399.2.2.1).bind fun t413 => (if t413 = true then (laws_FnExactFlatPicture.j0 k a0 a1 a2 bt399.2.2.2 (bt406.2.2.2 != bt399.2.2.2) bt399.1 bt399.2.1 bt399.2.2.1 bt406.1 bt406.2.1 bt406.2.2.1) else (laws_FnExactFlatPicture.j0 k a0 a1 a2 bt399.2.2.2 true bt399.1 bt399.2.1 bt399.2.2.1 bt406.1 bt406.2.1 bt406.2.2.1))))
theorem laws_FnExactFlatPicture.mono_l : ∀ k, (∀ y0 y1 y2 y3 y4 y5 y6 y7 y8 y9 y10, LeO (laws_FnExactFlatPicture.j0 k y0 y1 y2 y3 y4 y5 y6 y7 y8 y9 y10) (laws_FnExactFlatPicture.j0 (k + 1) y0 y1 y2 y3 y4 y5 y6 y7 y8 y9 y10)) ∧ (∀ y0 y1 y2 y3 y4, LeO (laws_FnExactFlatPicture.j1 k y0 y1 y2 y3 y4) (laws_FnExactFlatPicture.j1 (k + 1) y0 y1 y2 y3 y4))
  | 0 => ⟨fun _ _ _ _ _ _ _ _ _ _ _ r h => by simp [laws_FnExactFlatPicture.j0] at h, fun _ _ _ _ _ r h => by simp [laws_FnExactFlatPicture.j1] at h⟩
  | k + 1 => by
    obtain ⟨ih0, ih1⟩ := laws_FnExactFlatPicture.mono_l k
    refine ⟨?_, ?_⟩
    · intro y0 y1 y2 y3 y4 y5 y6 y7 y8 y9 y10
      unfold laws_FnExactFlatPicture.j0
      repeat' first
      | (with_reducible exact ih0 _ _ _ _ _ _ _ _ _ _ _)
      | (with_reducible exact ih1 _ _ _ _ _)
      | (with_reducible exact laws_eqPicture.mono _ _ _ _ _ _ _)
      | (with_reducible exact laws_heldPicture.mono _ _ _ _ _)
      | (with_reducible exact laws_markPicture.mono _ _ _ _ _)
      | (with_reducible exact spec_FlatPicture.mono _ _ _ _)
      | (with_reducible exact LeO.refl _)
      | (with_reducible exact LeO.none _)
      | (with_reducible refine LeO.ite ?_ ?_)
      | (with_reducible refine LeO.bind ?_ (fun _ => ?_))
      | exact ih0 _ _ _ _ _ _ _ _ _ _ _
      | exact ih1 _ _ _ _ _
      | exact laws_eqPicture.mono _ _ _ _ _ _ _
      | exact laws_heldPicture.mono _ _ _ _ _
      | exact laws_markPicture.mono _ _ _ _ _
      | exact spec_FlatPicture.mono _ _ _ _
      | exact LeO.none _
      | refine LeO.ite ?_ ?_
      | refine LeO.bind ?_ (fun _ => ?_)
    · intro y0 y1 y2 y3 y4
      unfold laws_FnExactFlatPicture.j1
      repeat' first
      | (with_reducible exact ih0 _ _ _ _ _ _ _ _ _ _ _)
      | (with_reducible exact ih1 _ _ _ _ _)
      | (with_reducible exact laws_eqPicture.mono _ _ _ _ _ _ _)
      | (with_reducible exact laws_heldPicture.mono _ _ _ _ _)
      | (with_reducible exact laws_markPicture.mono _ _ _ _ _)
      | (with_reducible exact spec_FlatPicture.mono _ _ _ _)
      | (with_reducible exact LeO.refl _)
      | (with_reducible exact LeO.none _)
      | (with_reducible refine LeO.ite ?_ ?_)
      | (with_reducible refine LeO.bind ?_ (fun _ => ?_))
      | exact ih0 _ _ _ _ _ _ _ _ _ _ _
      | exact ih1 _ _ _ _ _
      | exact laws_eqPicture.mono _ _ _ _ _ _ _
      | exact laws_heldPicture.mono _ _ _ _ _
      | exact laws_markPicture.mono _ _ _ _ _
      | exact spec_FlatPicture.mono _ _ _ _
      | exact LeO.none _
      | refine LeO.ite ?_ ?_
      | refine LeO.bind ?_ (fun _ => ?_)
theorem laws_FnExactFlatPicture.mono : ∀ a0 a1 a2 k, LeO (laws_FnExactFlatPicture.f k a0 a1 a2) (laws_FnExactFlatPicture.f (k + 1) a0 a1 a2) := by
  intro a0 a1 a2 k
  obtain ⟨ih0, ih1⟩ := laws_FnExactFlatPicture.mono_l k
  unfold laws_FnExactFlatPicture.f
  repeat' first
      | (with_reducible exact ih0 _ _ _ _ _ _ _ _ _ _ _)
      | (with_reducible exact ih1 _ _ _ _ _)
      | (with_reducible exact laws_eqPicture.mono _ _ _ _ _ _ _)
      | (with_reducible exact laws_heldPicture.mono _ _ _ _ _)
      | (with_reducible exact laws_markPicture.mono _ _ _ _ _)
      | (with_reducible exact spec_FlatPicture.mono _ _ _ _)
      | (with_reducible exact LeO.refl _)
      | (with_reducible exact LeO.none _)
      | (with_reducible refine LeO.ite ?_ ?_)
      | (with_reducible refine LeO.bind ?_ (fun _ => ?_))
      | exact ih0 _ _ _ _ _ _ _ _ _ _ _
      | exact ih1 _ _ _ _ _
      | exact laws_eqPicture.mono _ _ _ _ _ _ _
      | exact laws_heldPicture.mono _ _ _ _ _
      | exact laws_markPicture.mono _ _ _ _ _
      | exact spec_FlatPicture.mono _ _ _ _
      | exact LeO.none _
      | refine LeO.ite ?_ ?_
      | refine LeO.bind ?_ (fun _ => ?_)
set_option maxHeartbeats 8000000 in
set_option maxRecDepth 100000 in
theorem laws_FnExactFlatPicture.calls (k : Nat) (a0 : Int) (a1 : Int) (a2 : Int) (r : Bool) (w : World) (hT : Aside0 (r = true)) (h : laws_FnExactFlatPicture.f k a0 a1 a2 = some r) :
    Calls Try.prog 8 #[.int .i64 a0, .int .i64 a1, .int .i64 a2] w fun e w' => e = .returned (.bool r) ∧ Below w.heap.size w w' := by
  have hu37 := Try.underlying37
  have HB := Aside0.mk (Below.refl w.heap.size w)
  have H : ((spec_FlatPicture.f k a0 a1 a2).bind fun bt399 => ((impl_FlatPicture.f a0 a1 a2).bind fun bt406 => ((laws_eqPicture.f k bt406.1 bt406.2.1 bt406.2.2.1 bt399.1 bt399.2.1 bt399.2.2.1).bind fun t413 => (if t413 = true then (laws_FnExactFlatPicture.j0 k a0 a1 a2 bt399.2.2.2 (bt406.2.2.2 != bt399.2.2.2) bt399.1 bt399.2.1 bt399.2.2.1 bt406.1 bt406.2.1 bt406.2.2.1) else (laws_FnExactFlatPicture.j0 k a0 a1 a2 bt399.2.2.2 true bt399.1 bt399.2.1 bt399.2.2.1 bt406.1 bt406.2.1 bt406.2.2.1))))) = some r := h
  clear h
  replace H := Option.bind_eq_some_iff.mp H
  obtain ⟨⟨t399, t400, t401, t404⟩, A40, H⟩ := H
  replace H : ((impl_FlatPicture.f a0 a1 a2).bind fun bt406 => ((laws_eqPicture.f k bt406.1 bt406.2.1 bt406.2.2.1 t399 t400 t401).bind fun t413 => (if t413 = true then (laws_FnExactFlatPicture.j0 k a0 a1 a2 t404 (bt406.2.2.2 != t404) t399 t400 t401 bt406.1 bt406.2.1 bt406.2.2.1) else (laws_FnExactFlatPicture.j0 k a0 a1 a2 t404 true t399 t400 t401 bt406.1 bt406.2.1 bt406.2.2.1)))) = some r := H
  have A4 := Aside0.mk A40
  clear A40
  replace H := Option.bind_eq_some_iff.mp H
  obtain ⟨⟨t406, t407, t408, t411⟩, A50, H⟩ := H
  replace H : ((laws_eqPicture.f k t406 t407 t408 t399 t400 t401).bind fun t413 => (if t413 = true then (laws_FnExactFlatPicture.j0 k a0 a1 a2 t404 (t411 != t404) t399 t400 t401 t406 t407 t408) else (laws_FnExactFlatPicture.j0 k a0 a1 a2 t404 true t399 t400 t401 t406 t407 t408))) = some r := H
  have A5 := Aside0.mk A50
  clear A50
  have HC6 := Aside0.mk H
  clear H
  go_enter Try.func8, Try.ntmps8
  go_upto_region 3 with (first | ((with_reducible refine gate_callee (f := 56) rfl ?_); refine goesL_ (some 19) rfl rfl Try.func56 (by kernel_rfl) rfl #[.int .i64 a0, .int .i64 a1, .int .i64 a2] rfl (by (try simp only [List.map_toArray, List.map_cons, List.map_nil]); first | done | rfl | (simp only [List.length_drop, List.length_take]; rfl)) ?_; (with_reducible refine (spec_FlatPicture.calls k a0 a1 a2 t399 t400 t401 t404 _ A4.out).mono ?_); rintro e w7 ⟨v402, rfl, ho0, hb⟩; refine ⟨_, rfl, ?_⟩; have n0_ := Aside0.mk (Kd.R_lower ho0 (below_size (by repeat (first | (with_reducible first | exact HB.out | apply below_alloc | apply pw_below_drewN | apply below_drew1) | exact HB.out)))); have n1_ := Aside0.mk (below_step (by repeat (first | (with_reducible first | exact HB.out | apply below_alloc | apply pw_below_drewN | apply below_drew1) | exact HB.out)) hb); clear HB; have HO403 := n0_; have HB := n1_; clear n0_ n1_; (try clear hb); (try clear hb2); (try clear hk); (try clear hi); (try clear ho0)) | ((with_reducible refine gate_dst (N := 7) rfl ?_); refine box_event ?hg (N := 7) ?hd (cs := #[.int .i64 0, .int .i64 0, .slice none 0 0]) (t := 37) ?hr ?_; (case hd => rfl); (case hg => rfl); (case hr => first | (go_simp; done) | (go_simp; rfl)); intro gb405 hg w8 hbox hb; have n0_ := Aside0.mk (Kd.R_below (by (with_reducible repeat (first | apply Kd.R_alloc | apply Kd.R_drewN | apply Kd.R_drew)); exact HO403.out) hb); have n1_ := Aside0.mk (below_step (by repeat (first | (with_reducible first | exact HB.out | apply below_alloc | apply pw_below_drewN | apply below_drew1) | exact HB.out)) hb); have n2_ := Aside0.mk (hbox); have n3_ := Aside0.mk ((by rw [hg]; exact (below_size (by repeat (first | (with_reducible first | exact HB.out | apply below_alloc | apply pw_below_drewN | apply below_drew1) | exact HB.out))) : w.heap.size ≤ gb405)); have n4_ := Aside0.mk ((by rw [hg]; exact (below_size (by repeat (first | (with_reducible first | exact HB.out | apply below_alloc | apply pw_below_drewN | apply below_drew1) | exact HB.out))) : w.heap.size ≤ gb405)); clear HO403; clear HB; have HO403 := n0_; have HB := n1_; have BK405 := n2_; have GW405 := n3_; have GE405 := n4_; clear n0_ n1_ n2_ n3_ n4_; clear hb hbox hg; have hcz9_0 : w8.cell? ⟨gb405, 0, none⟩ = some (.int .i64 0) := (blk_cell BK405.out 0).trans rfl; have hcz9_1 : w8.cell? ⟨gb405, 1, none⟩ = some (.int .i64 0) := (blk_cell BK405.out 1).trans rfl; have hcz9_2 : w8.cell? ⟨gb405, 2, none⟩ = some (.slice none 0 0) := (blk_cell BK405.out 2).trans rfl; have hfz9_0 := blk_frozen BK405.out 0; have hfz9_1 := blk_frozen BK405.out 1; have hfz9_2 := blk_frozen BK405.out 2; obtain ⟨Ao10, co10, eo10⟩ := Kd.R_slice HO403.out; subst eo10) | ((with_reducible refine gate_callee (f := 57) rfl ?_); refine goesL_ (some 26) rfl rfl Try.func57 (by kernel_rfl) rfl #[.int .i64 a0, .int .i64 a1, .int .i64 a2] rfl (by (try simp only [List.map_toArray, List.map_cons, List.map_nil]); first | done | rfl | (simp only [List.length_drop, List.length_take]; rfl)) ?_; (with_reducible refine (impl_FlatPicture.calls a0 a1 a2 t406 t407 t408 t411 _ A5.out).mono ?_); rintro e w11 ⟨v409, rfl, ho0, hb⟩; refine ⟨_, rfl, ?_⟩; have n0_ := Aside0.mk (Kd.R_elder' (by (with_reducible repeat (first | apply Kd.R_alloc | apply Kd.R_drewN | apply Kd.R_drew)); exact (Kd.R_mono (Kd.R_far (p := ⟨gb405, 2, none⟩) (Kd.R_far (p := ⟨gb405, 1, none⟩) (Kd.R_far (p := ⟨gb405, 0, none⟩) (Kd.R_types HO403.out BK405.out (by decide)) (fun _ hk => hk.2) (.int .i64 t399)) (fun _ hk => hk.2) (.int .i64 t400)) (fun _ hk => hk.2) (.slice Ao10 t401.length co10)) (fun _ h_ => h_.1))) (Kd.R_base ho0) hb); have n1_ := Aside0.mk (Kd.R_lower (Kd.R_new' ho0 (Kd.R_lt (by (with_reducible repeat (first | apply Kd.R_alloc | apply Kd.R_drewN | apply Kd.R_drew)); exact (Kd.R_mono (Kd.R_far (p := ⟨gb405, 2, none⟩) (Kd.R_far (p := ⟨gb405, 1, none⟩) (Kd.R_far (p := ⟨gb405, 0, none⟩) (Kd.R_types HO403.out BK405.out (by decide)) (fun _ hk => hk.2) (.int .i64 t399)) (fun _ hk => hk.2) (.int .i64 t400)) (fun _ hk => hk.2) (.slice Ao10 t401.length co10)) (fun _ h_ => h_.1))))) (below_size (by repeat (first | (with_reducible first | exact HB.out | apply below_alloc | apply pw_below_drewN | apply below_drew1 | refine below_set ?_ GE405.out) | exact HB.out)))); have n2_ := Aside0.mk (blk_below (g := gb405) (o := .cells #[.int .i64 t399, .int .i64 t400, .slice Ao10 t401.length co10] 37 (0, 0)) (by (with_reducible repeat (first | refine blk_drewN ?_ _ | refine blk_drew ?_ | refine blk_alloc ?_ _)); refine blk_put (cs := #[.int .i64 t399, .int .i64 t400, .slice none 0 0]) ?_ 2 _ rfl; (with_reducible repeat (first | refine blk_drewN ?_ _ | refine blk_drew ?_ | refine blk_alloc ?_ _)); refine blk_put (cs := #[.int .i64 t399, .int .i64 0, .slice none 0 0]) ?_ 1 _ rfl; (with_reducible repeat (first | refine blk_drewN ?_ _ | refine blk_drew ?_ | refine blk_alloc ?_ _)); refine blk_put (cs := #[.int .i64 0, .int .i64 0, .slice none 0 0]) ?_ 0 _ rfl; (with_reducible repeat (first | refine blk_drewN ?_ _ | refine blk_drew ?_ | refine blk_alloc ?_ _)); exact BK405.out) hb); have n3_ := Aside0.mk (below_step (by repeat (first | (with_reducible first | exact HB.out | apply below_alloc | apply pw_below_drewN | apply below_drew1 | refine below_set ?_ GE405.out) | exact HB.out)) hb); clear HO403; clear BK405; clear HB; have HO403 := n0_; have HO410 := n1_; have BK405 := n2_; have HB := n3_; clear n0_ n1_ n2_ n3_; (try clear hb); (try clear hb2); (try clear hk); (try clear hi); (try clear ho0)) | ((with_reducible refine gate_dst (N := 9) rfl ?_); refine box_event ?hg (N := 9) ?hd (cs := #[.int .i64 0, .int .i64 0, .slice none 0 0]) (t := 37) ?hr ?_; (case hd => rfl); (case hg => rfl); (case hr => first | (go_simp; done) | (go_simp; rfl)); intro gb412 hg w12 hbox hb; have n0_ := Aside0.mk (Kd.R_below (by (with_reducible repeat (first | apply Kd.R_alloc | apply Kd.R_drewN | apply Kd.R_drew)); exact HO403.out) hb); have n1_ := Aside0.mk (Kd.R_below (by (with_reducible repeat (first | apply Kd.R_alloc | apply Kd.R_drewN | apply Kd.R_drew)); exact HO410.out) hb); have n2_ := Aside0.mk (blk_below (g := gb405) (o := .cells #[.int .i64 t399, .int .i64 t400, .slice Ao10 t401.length co10] 37 (0, 0)) (by (with_reducible repeat (first | refine blk_drewN ?_ _ | refine blk_drew ?_ | refine blk_alloc ?_ _)); exact BK405.out) hb); have n3_ := Aside0.mk (below_step (by repeat (first | (with_reducible first | exact HB.out | apply below_alloc | apply pw_below_drewN | apply below_drew1 | refine below_set ?_ GE405.out) | exact HB.out)) hb); have n4_ := Aside0.mk (hbox); have n5_ := Aside0.mk ((by rw [hg]; exact (below_size (by repeat (first | (with_reducible first | exact HB.out | apply below_alloc | apply pw_below_drewN | apply below_drew1 | refine below_set ?_ GE405.out) | exact HB.out))) : w.heap.size ≤ gb412)); have n6_ := Aside0.mk ((by rw [hg]; exact (below_size (by repeat (first | (with_reducible first | exact HB.out | apply below_alloc | apply pw_below_drewN | apply below_drew1 | refine below_set ?_ GE405.out) | exact HB.out))) : w.heap.size ≤ gb412)); have n7_ := Aside0.mk ((by rw [hg]; exact Nat.ne_of_lt (blk_lt (g := gb405) (o := .cells #[.int .i64 t399, .int .i64 t400, .slice Ao10 t401.length co10] 37 (0, 0)) (by (with_reducible repeat (first | refine blk_drewN ?_ _ | refine blk_drew ?_ | refine blk_alloc ?_ _)); exact BK405.out)) : gb405 ≠ gb412)); have n8_ := Aside0.mk ((by rw [hg]; exact Nat.ne_of_gt (blk_lt (g := gb405) (o := .cells #[.int .i64 t399, .int .i64 t400, .slice Ao10 t401.length co10] 37 (0, 0)) (by (with_reducible repeat (first | refine blk_drewN ?_ _ | refine blk_drew ?_ | refine blk_alloc ?_ _)); exact BK405.out)) : gb412 ≠ gb405)); clear HO403; clear HO410; clear BK405; clear HB; have HO403 := n0_; have HO410 := n1_; have BK405 := n2_; have HB := n3_; have BK412 := n4_; have GW412 := n5_; have GE412 := n6_; have NB405_412 := n7_; have NB412_405 := n8_; clear n0_ n1_ n2_ n3_ n4_ n5_ n6_ n7_ n8_; clear hb hbox hg; have hnb13 := NB412_405.out; have hnc13 := NB405_412.out; have hcz14_0 : w12.cell? ⟨gb412, 0, none⟩ = some (.int .i64 0) := (blk_cell BK412.out 0).trans rfl; have hcz14_1 : w12.cell? ⟨gb412, 1, none⟩ = some (.int .i64 0) := (blk_cell BK412.out 1).trans rfl; have hcz14_2 : w12.cell? ⟨gb412, 2, none⟩ = some (.slice none 0 0) := (blk_cell BK412.out 2).trans rfl; have hfz14_0 := blk_frozen BK412.out 0; have hfz14_1 := blk_frozen BK412.out 1; have hfz14_2 := blk_frozen BK412.out 2; obtain ⟨Ao15, co15, eo15⟩ := Kd.R_slice HO410.out; subst eo15))
  (try simp only [Act.put, List.setIfInBounds_toArray, List.set_cons_zero, List.set_cons_succ])
  go_cut [37] (fun v37 wc => ∃ (kq : Nat) (x37_5 : Bool), v37 = .bool x37_5 ∧ Aside0 (laws_FnExactFlatPicture.j0 kq a0 a1 a2 t404 x37_5 t399 t400 t401 t406 t407 t408 = some r) ∧ Aside0 (kq ≤ k) ∧ Aside0 (Kd.R (Kd.int .i64) 3 wc w.heap.size (fun k_ => some k_ ≠ ((.slice Ao15 t408.length co15) : Value).ownBlock) (.slice Ao10 t401.length co10) t401) ∧ Aside0 (Kd.R (Kd.int .i64) 3 wc w.heap.size (fun k_ => some k_ ≠ ((.slice Ao10 t401.length co10) : Value).ownBlock) (.slice Ao15 t408.length co15) t408) ∧ Aside0 (wc.heap[gb405]? = some (.cells #[.int .i64 t399, .int .i64 t400, (.slice Ao10 t401.length co10)] 37 (0, 0))) ∧ Aside0 (wc.heap[gb412]? = some (.cells #[.int .i64 t406, .int .i64 t407, (.slice Ao15 t408.length co15)] 37 (0, 0))) ∧ Aside0 (Below w.heap.size w wc))
  case first =>
    have H := HC6.out
    clear HC6
    replace H := Option.bind_eq_some_iff.mp H
    obtain ⟨t413, A160, H⟩ := H
    replace H : (if t413 = true then (laws_FnExactFlatPicture.j0 k a0 a1 a2 t404 (t411 != t404) t399 t400 t401 t406 t407 t408) else (laws_FnExactFlatPicture.j0 k a0 a1 a2 t404 true t399 t400 t401 t406 t407 t408)) = some r := H
    have A16 := Aside0.mk A160
    clear A160
    by_cases c17 : t413 = true
    · subst c17
      have H1 : (laws_FnExactFlatPicture.j0 k a0 a1 a2 t404 (t411 != t404) t399 t400 t401 t406 t407 t408) = some r := by rw [if_pos rfl] at H; exact H
      clear H
      have H := H1
      clear H1
      have H' := Aside0.mk H
      clear H
      have hnb18 := NB412_405.out
      have hnc18 := NB405_412.out
      have hcz19_0 : w12.cell? ⟨gb412, 0, none⟩ = some (.int .i64 0) := (blk_cell BK412.out 0).trans rfl
      have hcz19_1 : w12.cell? ⟨gb412, 1, none⟩ = some (.int .i64 0) := (blk_cell BK412.out 1).trans rfl
      have hcz19_2 : w12.cell? ⟨gb412, 2, none⟩ = some (.slice none 0 0) := (blk_cell BK412.out 2).trans rfl
      have hfz19_0 := blk_frozen BK412.out 0
      have hfz19_1 := blk_frozen BK412.out 1
      have hfz19_2 := blk_frozen BK412.out 2
      have hcz20_0 : w12.cell? ⟨gb405, 0, none⟩ = some (.int .i64 t399) := (blk_cell BK405.out 0).trans rfl
      have hcz20_1 : w12.cell? ⟨gb405, 1, none⟩ = some (.int .i64 t400) := (blk_cell BK405.out 1).trans rfl
      have hcz20_2 : w12.cell? ⟨gb405, 2, none⟩ = some (.slice Ao10 t401.length co10) := (blk_cell BK405.out 2).trans rfl
      have hfz20_0 := blk_frozen BK405.out 0
      have hfz20_1 := blk_frozen BK405.out 1
      have hfz20_2 := blk_frozen BK405.out 2
      go_wp2_with (first | ((with_reducible refine gate_callee (f := 50) rfl ?_); refine goesL_ (some 31) rfl rfl Try.func50 (by kernel_rfl) rfl #[.agg #[.int .i64 t406, .int .i64 t407, .slice Ao15 t408.length co15], .agg #[.int .i64 t399, .int .i64 t400, .slice Ao10 t401.length co10]] rfl (by (try simp only [List.map_toArray, List.map_cons, List.map_nil]); first | done | rfl | (simp only [List.length_drop, List.length_take]; rfl)) ?_; (with_reducible refine (laws_eqPicture.calls k t406 t407 _ _ t408 t399 t400 _ _ t401 true _ ?side1 ?side2 ?side3 ?side4 A16.out).mono ?_); (case side1 => refine (Kd.R_reads' (e := 3) (base := w.heap.size) (ok := fun k_ => (True ∧ some k_ ≠ (.slice Ao10 t401.length co10 : Value).ownBlock)) (n := t408.length) (c := co15) ?_).2.2; exact (by (with_reducible repeat (first | apply Kd.R_alloc | apply Kd.R_drewN | apply Kd.R_drew)); exact (Kd.R_mono (Kd.R_far (p := ⟨gb412, 2, none⟩) (Kd.R_far (p := ⟨gb412, 1, none⟩) (Kd.R_far (p := ⟨gb412, 0, none⟩) (Kd.R_types HO410.out BK412.out (by decide)) (fun _ hk => hk.2) (.int .i64 t406)) (fun _ hk => hk.2) (.int .i64 t407)) (fun _ hk => hk.2) (.slice Ao15 t408.length co15)) (fun _ h_ => h_.1)))); (case side2 => exact (Kd.R_reads' HO410.out).2.1); (case side3 => refine (Kd.R_reads' (e := 3) (base := w.heap.size) (ok := fun k_ => (True ∧ some k_ ≠ (.slice Ao15 t408.length co15 : Value).ownBlock)) (n := t401.length) (c := co10) ?_).2.2; exact (by (with_reducible repeat (first | apply Kd.R_alloc | apply Kd.R_drewN | apply Kd.R_drew)); exact (Kd.R_mono (Kd.R_far (p := ⟨gb412, 2, none⟩) (Kd.R_far (p := ⟨gb412, 1, none⟩) (Kd.R_far (p := ⟨gb412, 0, none⟩) (Kd.R_types HO403.out BK412.out (by decide)) (fun _ hk => hk.2) (.int .i64 t406)) (fun _ hk => hk.2) (.int .i64 t407)) (fun _ hk => hk.2) (.slice Ao15 t408.length co15)) (fun _ h_ => h_.1)))); (case side4 => exact (Kd.R_reads' HO403.out).2.1); rintro e w21 ⟨rfl, hb⟩; refine ⟨_, rfl, ?_⟩; have n0_ := Aside0.mk (Kd.R_below (by (with_reducible repeat (first | apply Kd.R_alloc | apply Kd.R_drewN | apply Kd.R_drew)); exact (Kd.R_mono (Kd.R_far (p := ⟨gb412, 2, none⟩) (Kd.R_far (p := ⟨gb412, 1, none⟩) (Kd.R_far (p := ⟨gb412, 0, none⟩) (Kd.R_types HO403.out BK412.out (by decide)) (fun _ hk => hk.2) (.int .i64 t406)) (fun _ hk => hk.2) (.int .i64 t407)) (fun _ hk => hk.2) (.slice Ao15 t408.length co15)) (fun _ h_ => h_.1))) hb); have n1_ := Aside0.mk (Kd.R_below (by (with_reducible repeat (first | apply Kd.R_alloc | apply Kd.R_drewN | apply Kd.R_drew)); exact (Kd.R_mono (Kd.R_far (p := ⟨gb412, 2, none⟩) (Kd.R_far (p := ⟨gb412, 1, none⟩) (Kd.R_far (p := ⟨gb412, 0, none⟩) (Kd.R_types HO410.out BK412.out (by decide)) (fun _ hk => hk.2) (.int .i64 t406)) (fun _ hk => hk.2) (.int .i64 t407)) (fun _ hk => hk.2) (.slice Ao15 t408.length co15)) (fun _ h_ => h_.1))) hb); have n2_ := Aside0.mk (blk_below (g := gb405) (o := .cells #[.int .i64 t399, .int .i64 t400, .slice Ao10 t401.length co10] 37 (0, 0)) (by (with_reducible repeat (first | refine blk_drewN ?_ _ | refine blk_drew ?_ | refine blk_alloc ?_ _)); refine blk_far ?_ NB405_412.out _; (with_reducible repeat (first | refine blk_drewN ?_ _ | refine blk_drew ?_ | refine blk_alloc ?_ _)); refine blk_far ?_ NB405_412.out _; (with_reducible repeat (first | refine blk_drewN ?_ _ | refine blk_drew ?_ | refine blk_alloc ?_ _)); refine blk_far ?_ NB405_412.out _; (with_reducible repeat (first | refine blk_drewN ?_ _ | refine blk_drew ?_ | refine blk_alloc ?_ _)); exact BK405.out) hb); have n3_ := Aside0.mk (blk_below (g := gb412) (o := .cells #[.int .i64 t406, .int .i64 t407, .slice Ao15 t408.length co15] 37 (0, 0)) (by (with_reducible repeat (first | refine blk_drewN ?_ _ | refine blk_drew ?_ | refine blk_alloc ?_ _)); refine blk_put (cs := #[.int .i64 t406, .int .i64 t407, .slice none 0 0]) ?_ 2 _ rfl; (with_reducible repeat (first | refine blk_drewN ?_ _ | refine blk_drew ?_ | refine blk_alloc ?_ _)); refine blk_put (cs := #[.int .i64 t406, .int .i64 0, .slice none 0 0]) ?_ 1 _ rfl; (with_reducible repeat (first | refine blk_drewN ?_ _ | refine blk_drew ?_ | refine blk_alloc ?_ _)); refine blk_put (cs := #[.int .i64 0, .int .i64 0, .slice none 0 0]) ?_ 0 _ rfl; (with_reducible repeat (first | refine blk_drewN ?_ _ | refine blk_drew ?_ | refine blk_alloc ?_ _)); exact BK412.out) hb); have n4_ := Aside0.mk (below_step (by repeat (first | (with_reducible first | exact HB.out | apply below_alloc | apply pw_below_drewN | apply below_drew1 | refine below_set ?_ GE405.out | refine below_set ?_ GE412.out) | exact HB.out)) hb); clear HO403; clear HO410; clear BK405; clear BK412; clear HB; have HO403 := n0_; have HO410 := n1_; have BK405 := n2_; have BK412 := n3_; have HB := n4_; clear n0_ n1_ n2_ n3_ n4_; (try clear hb); (try clear hb2); (try clear hk); (try clear hi)))
      go_meet
      case rel => exact ⟨_, ((t411 != t404)), (by first | rfl | (simp; done) | (simp [*]; done)), H', ⟨by first | omega | exact Nat.le_refl _⟩, ⟨by (with_reducible repeat (first | apply Kd.R_alloc | apply Kd.R_drewN | apply Kd.R_drew)); exact Kd.R_mono HO403.out (fun _ hk => hk.2)⟩, ⟨by (with_reducible repeat (first | apply Kd.R_alloc | apply Kd.R_drewN | apply Kd.R_drew)); exact Kd.R_mono HO410.out (fun _ hk => hk.2)⟩, ⟨by (with_reducible repeat (first | refine blk_drewN ?_ _ | refine blk_drew ?_ | refine blk_alloc ?_ _)); exact BK405.out⟩, ⟨by (with_reducible repeat (first | refine blk_drewN ?_ _ | refine blk_drew ?_ | refine blk_alloc ?_ _)); exact BK412.out⟩, ⟨by repeat (first | (with_reducible first | exact HB.out | apply below_alloc | apply pw_below_drewN | apply below_drew1 | refine below_set ?_ GE405.out | refine below_set ?_ GE412.out) | exact HB.out)⟩⟩
    · replace c17 := Bool.eq_false_iff.mpr c17
      subst c17
      have H1 : (laws_FnExactFlatPicture.j0 k a0 a1 a2 t404 true t399 t400 t401 t406 t407 t408) = some r := by rw [if_neg (show ¬ (false = true) by decide)] at H; exact H
      clear H
      have H := H1
      clear H1
      have H' := Aside0.mk H
      clear H
      have hnb22 := NB412_405.out
      have hnc22 := NB405_412.out
      have hcz23_0 : w12.cell? ⟨gb412, 0, none⟩ = some (.int .i64 0) := (blk_cell BK412.out 0).trans rfl
      have hcz23_1 : w12.cell? ⟨gb412, 1, none⟩ = some (.int .i64 0) := (blk_cell BK412.out 1).trans rfl
      have hcz23_2 : w12.cell? ⟨gb412, 2, none⟩ = some (.slice none 0 0) := (blk_cell BK412.out 2).trans rfl
      have hfz23_0 := blk_frozen BK412.out 0
      have hfz23_1 := blk_frozen BK412.out 1
      have hfz23_2 := blk_frozen BK412.out 2
      have hcz24_0 : w12.cell? ⟨gb405, 0, none⟩ = some (.int .i64 t399) := (blk_cell BK405.out 0).trans rfl
      have hcz24_1 : w12.cell? ⟨gb405, 1, none⟩ = some (.int .i64 t400) := (blk_cell BK405.out 1).trans rfl
      have hcz24_2 : w12.cell? ⟨gb405, 2, none⟩ = some (.slice Ao10 t401.length co10) := (blk_cell BK405.out 2).trans rfl
      have hfz24_0 := blk_frozen BK405.out 0
      have hfz24_1 := blk_frozen BK405.out 1
      have hfz24_2 := blk_frozen BK405.out 2
      go_wp2_with (first | ((with_reducible refine gate_callee (f := 50) rfl ?_); refine goesL_ (some 31) rfl rfl Try.func50 (by kernel_rfl) rfl #[.agg #[.int .i64 t406, .int .i64 t407, .slice Ao15 t408.length co15], .agg #[.int .i64 t399, .int .i64 t400, .slice Ao10 t401.length co10]] rfl (by (try simp only [List.map_toArray, List.map_cons, List.map_nil]); first | done | rfl | (simp only [List.length_drop, List.length_take]; rfl)) ?_; (with_reducible refine (laws_eqPicture.calls k t406 t407 _ _ t408 t399 t400 _ _ t401 false _ ?side1 ?side2 ?side3 ?side4 A16.out).mono ?_); (case side1 => refine (Kd.R_reads' (e := 3) (base := w.heap.size) (ok := fun k_ => (True ∧ some k_ ≠ (.slice Ao10 t401.length co10 : Value).ownBlock)) (n := t408.length) (c := co15) ?_).2.2; exact (by (with_reducible repeat (first | apply Kd.R_alloc | apply Kd.R_drewN | apply Kd.R_drew)); exact (Kd.R_mono (Kd.R_far (p := ⟨gb412, 2, none⟩) (Kd.R_far (p := ⟨gb412, 1, none⟩) (Kd.R_far (p := ⟨gb412, 0, none⟩) (Kd.R_types HO410.out BK412.out (by decide)) (fun _ hk => hk.2) (.int .i64 t406)) (fun _ hk => hk.2) (.int .i64 t407)) (fun _ hk => hk.2) (.slice Ao15 t408.length co15)) (fun _ h_ => h_.1)))); (case side2 => exact (Kd.R_reads' HO410.out).2.1); (case side3 => refine (Kd.R_reads' (e := 3) (base := w.heap.size) (ok := fun k_ => (True ∧ some k_ ≠ (.slice Ao15 t408.length co15 : Value).ownBlock)) (n := t401.length) (c := co10) ?_).2.2; exact (by (with_reducible repeat (first | apply Kd.R_alloc | apply Kd.R_drewN | apply Kd.R_drew)); exact (Kd.R_mono (Kd.R_far (p := ⟨gb412, 2, none⟩) (Kd.R_far (p := ⟨gb412, 1, none⟩) (Kd.R_far (p := ⟨gb412, 0, none⟩) (Kd.R_types HO403.out BK412.out (by decide)) (fun _ hk => hk.2) (.int .i64 t406)) (fun _ hk => hk.2) (.int .i64 t407)) (fun _ hk => hk.2) (.slice Ao15 t408.length co15)) (fun _ h_ => h_.1)))); (case side4 => exact (Kd.R_reads' HO403.out).2.1); rintro e w25 ⟨rfl, hb⟩; refine ⟨_, rfl, ?_⟩; have n0_ := Aside0.mk (Kd.R_below (by (with_reducible repeat (first | apply Kd.R_alloc | apply Kd.R_drewN | apply Kd.R_drew)); exact (Kd.R_mono (Kd.R_far (p := ⟨gb412, 2, none⟩) (Kd.R_far (p := ⟨gb412, 1, none⟩) (Kd.R_far (p := ⟨gb412, 0, none⟩) (Kd.R_types HO403.out BK412.out (by decide)) (fun _ hk => hk.2) (.int .i64 t406)) (fun _ hk => hk.2) (.int .i64 t407)) (fun _ hk => hk.2) (.slice Ao15 t408.length co15)) (fun _ h_ => h_.1))) hb); have n1_ := Aside0.mk (Kd.R_below (by (with_reducible repeat (first | apply Kd.R_alloc | apply Kd.R_drewN | apply Kd.R_drew)); exact (Kd.R_mono (Kd.R_far (p := ⟨gb412, 2, none⟩) (Kd.R_far (p := ⟨gb412, 1, none⟩) (Kd.R_far (p := ⟨gb412, 0, none⟩) (Kd.R_types HO410.out BK412.out (by decide)) (fun _ hk => hk.2) (.int .i64 t406)) (fun _ hk => hk.2) (.int .i64 t407)) (fun _ hk => hk.2) (.slice Ao15 t408.length co15)) (fun _ h_ => h_.1))) hb); have n2_ := Aside0.mk (blk_below (g := gb405) (o := .cells #[.int .i64 t399, .int .i64 t400, .slice Ao10 t401.length co10] 37 (0, 0)) (by (with_reducible repeat (first | refine blk_drewN ?_ _ | refine blk_drew ?_ | refine blk_alloc ?_ _)); refine blk_far ?_ NB405_412.out _; (with_reducible repeat (first | refine blk_drewN ?_ _ | refine blk_drew ?_ | refine blk_alloc ?_ _)); refine blk_far ?_ NB405_412.out _; (with_reducible repeat (first | refine blk_drewN ?_ _ | refine blk_drew ?_ | refine blk_alloc ?_ _)); refine blk_far ?_ NB405_412.out _; (with_reducible repeat (first | refine blk_drewN ?_ _ | refine blk_drew ?_ | refine blk_alloc ?_ _)); exact BK405.out) hb); have n3_ := Aside0.mk (blk_below (g := gb412) (o := .cells #[.int .i64 t406, .int .i64 t407, .slice Ao15 t408.length co15] 37 (0, 0)) (by (with_reducible repeat (first | refine blk_drewN ?_ _ | refine blk_drew ?_ | refine blk_alloc ?_ _)); refine blk_put (cs := #[.int .i64 t406, .int .i64 t407, .slice none 0 0]) ?_ 2 _ rfl; (with_reducible repeat (first | refine blk_drewN ?_ _ | refine blk_drew ?_ | refine blk_alloc ?_ _)); refine blk_put (cs := #[.int .i64 t406, .int .i64 0, .slice none 0 0]) ?_ 1 _ rfl; (with_reducible repeat (first | refine blk_drewN ?_ _ | refine blk_drew ?_ | refine blk_alloc ?_ _)); refine blk_put (cs := #[.int .i64 0, .int .i64 0, .slice none 0 0]) ?_ 0 _ rfl; (with_reducible repeat (first | refine blk_drewN ?_ _ | refine blk_drew ?_ | refine blk_alloc ?_ _)); exact BK412.out) hb); have n4_ := Aside0.mk (below_step (by repeat (first | (with_reducible first | exact HB.out | apply below_alloc | apply pw_below_drewN | apply below_drew1 | refine below_set ?_ GE405.out | refine below_set ?_ GE412.out) | exact HB.out)) hb); clear HO403; clear HO410; clear BK405; clear BK412; clear HB; have HO403 := n0_; have HO410 := n1_; have BK405 := n2_; have BK412 := n3_; have HB := n4_; clear n0_ n1_ n2_ n3_ n4_; (try clear hb); (try clear hb2); (try clear hk); (try clear hi)))
      go_meet
      case rel => exact ⟨_, (true), (by first | rfl | (simp; done) | (simp [*]; done)), H', ⟨by first | omega | exact Nat.le_refl _⟩, ⟨by (with_reducible repeat (first | apply Kd.R_alloc | apply Kd.R_drewN | apply Kd.R_drew)); exact Kd.R_mono HO403.out (fun _ hk => hk.2)⟩, ⟨by (with_reducible repeat (first | apply Kd.R_alloc | apply Kd.R_drewN | apply Kd.R_drew)); exact Kd.R_mono HO410.out (fun _ hk => hk.2)⟩, ⟨by (with_reducible repeat (first | refine blk_drewN ?_ _ | refine blk_drew ?_ | refine blk_alloc ?_ _)); exact BK405.out⟩, ⟨by (with_reducible repeat (first | refine blk_drewN ?_ _ | refine blk_drew ?_ | refine blk_alloc ?_ _)); exact BK412.out⟩, ⟨by repeat (first | (with_reducible first | exact HB.out | apply below_alloc | apply pw_below_drewN | apply below_drew1 | refine below_set ?_ GE405.out | refine below_set ?_ GE412.out) | exact HB.out)⟩⟩
  case rest =>
    clear HC6
    try clear c1
    try clear c2
    try clear p2
    try clear c5
    try clear c8
    try clear c13
    try clear c17
    try clear c18
    try clear c22
    try clear hcz14_0
    try clear hcz14_1
    try clear hcz14_2
    try clear hcz19_0
    try clear hcz19_1
    try clear hcz19_2
    try clear hcz20_0
    try clear hcz20_1
    try clear hcz20_2
    try clear hcz23_0
    try clear hcz23_1
    try clear hcz23_2
    try clear hcz24_0
    try clear hcz24_1
    try clear hcz24_2
    try clear hcz9_0
    try clear hcz9_1
    try clear hcz9_2
    try clear hfz14_0
    try clear hfz14_1
    try clear hfz14_2
    try clear hfz19_0
    try clear hfz19_1
    try clear hfz19_2
    try clear hfz20_0
    try clear hfz20_1
    try clear hfz20_2
    try clear hfz23_0
    try clear hfz23_1
    try clear hfz23_2
    try clear hfz24_0
    try clear hfz24_1
    try clear hfz24_2
    try clear hfz9_0
    try clear hfz9_1
    try clear hfz9_2
    obtain ⟨kq, x37_5, rfl, HA, HJ5, HO_406002, HO_413002, BK405, BK412, HB⟩ := hcut
    cases kq with
    | zero => exact absurd HA.out (by simp [laws_FnExactFlatPicture.j0])
    | succ kj5 =>
      have H := HA.out
      clear HA
      simp only [laws_FnExactFlatPicture.j0] at H
      by_cases c26 : x37_5 = true
      · subst c26
        have H1 : (some false) = some r := by rw [if_pos rfl] at H; exact H
        clear H
        have H := H1
        clear H1
        exact absurd ((Option.some.inj H).trans hT.out) (by decide)
      · replace c26 := Bool.eq_false_iff.mpr c26
        subst c26
        have H1 : ((laws_markPicture.f kj5 t406 t407 t408 1).bind fun bt414 => ((laws_heldPicture.f kj5 t406 t407 bt414.2 1).bind fun t416 => (if t416 < 0 then (some false) else (if t416 = bt414.1 then ((impl_FlatPicture.f a0 a1 a2).bind fun bt417 => ((laws_eqPicture.f kj5 bt417.1 bt417.2.1 bt417.2.2.1 t399 t400 t401).bind fun t424 => (if t424 = true then (laws_FnExactFlatPicture.j1 kj5 bt414.1 (bt417.2.2.2 != t404) t406 t407 bt414.2) else (laws_FnExactFlatPicture.j1 kj5 bt414.1 true t406 t407 bt414.2)))) else (some false))))) = some r := by rw [if_neg (show ¬ (false = true) by decide)] at H; exact H
        clear H
        have H := H1
        clear H1
        replace H := Option.bind_eq_some_iff.mp H
        obtain ⟨⟨t414, t415⟩, A270, H⟩ := H
        replace H : ((laws_heldPicture.f kj5 t406 t407 t415 1).bind fun t416 => (if t416 < 0 then (some false) else (if t416 = t414 then ((impl_FlatPicture.f a0 a1 a2).bind fun bt417 => ((laws_eqPicture.f kj5 bt417.1 bt417.2.1 bt417.2.2.1 t399 t400 t401).bind fun t424 => (if t424 = true then (laws_FnExactFlatPicture.j1 kj5 t414 (bt417.2.2.2 != t404) t406 t407 t415) else (laws_FnExactFlatPicture.j1 kj5 t414 true t406 t407 t415)))) else (some false)))) = some r := H
        have A27 := Aside0.mk A270
        clear A270
        replace H := Option.bind_eq_some_iff.mp H
        obtain ⟨t416, A280, H⟩ := H
        replace H : (if t416 < 0 then (some false) else (if t416 = t414 then ((impl_FlatPicture.f a0 a1 a2).bind fun bt417 => ((laws_eqPicture.f kj5 bt417.1 bt417.2.1 bt417.2.2.1 t399 t400 t401).bind fun t424 => (if t424 = true then (laws_FnExactFlatPicture.j1 kj5 t414 (bt417.2.2.2 != t404) t406 t407 t415) else (laws_FnExactFlatPicture.j1 kj5 t414 true t406 t407 t415)))) else (some false))) = some r := H
        have A28 := Aside0.mk A280
        clear A280
        by_cases c29 : t416 < 0
        · rw [if_pos c29] at H
          have c29b0 : decide (t416 < 0) = true := decide_eq_true c29
          clear c29
          exact absurd ((Option.some.inj H).trans hT.out) (by decide)
        · rw [if_neg c29] at H
          have c29b0 : decide (t416 < 0) = false := decide_eq_false c29
          clear c29
          by_cases c30 : t416 = t414
          · rw [if_pos c30] at H
            have c30b0 : (t416 == t414) = true := beq_iff_eq.mpr c30
            have c30b1 : (t416 != t414) = false := bne_eq_false_iff_eq.mpr c30
            clear c30
            replace H := Option.bind_eq_some_iff.mp H
            obtain ⟨⟨t417, t418, t419, t422⟩, A310, H⟩ := H
            replace H : ((laws_eqPicture.f kj5 t417 t418 t419 t399 t400 t401).bind fun t424 => (if t424 = true then (laws_FnExactFlatPicture.j1 kj5 t414 (t422 != t404) t406 t407 t415) else (laws_FnExactFlatPicture.j1 kj5 t414 true t406 t407 t415))) = some r := H
            have A31 := Aside0.mk A310
            clear A310
            have HC32 := Aside0.mk H
            clear H
            have hnb33 := NB412_405.out
            have hnc33 := NB405_412.out
            have hcz34_0 : wc.cell? ⟨gb412, 0, none⟩ = some (.int .i64 t406) := (blk_cell BK412.out 0).trans rfl
            have hcz34_1 : wc.cell? ⟨gb412, 1, none⟩ = some (.int .i64 t407) := (blk_cell BK412.out 1).trans rfl
            have hcz34_2 : wc.cell? ⟨gb412, 2, none⟩ = some (.slice Ao15 t408.length co15) := (blk_cell BK412.out 2).trans rfl
            have hfz34_0 := blk_frozen BK412.out 0
            have hfz34_1 := blk_frozen BK412.out 1
            have hfz34_2 := blk_frozen BK412.out 2
            go_upto_region 14 with (first | ((with_reducible refine gate_callee (f := 58) rfl ?_); refine goesL_ (some 40) rfl rfl Try.func58 (by kernel_rfl) rfl #[.agg #[.int .i64 t406, .int .i64 t407, .slice Ao15 t408.length co15], .int .i64 1] rfl (by (try simp only [List.map_toArray, List.map_cons, List.map_nil]); first | done | rfl | (simp only [List.length_drop, List.length_take]; rfl)) ?_; (with_reducible refine (laws_markPicture.calls kj5 t406 t407 (fun k_ => some k_ = (.slice Ao15 t408.length co15 : Value).ownBlock) (.slice Ao15 t408.length co15) t408 1 t414 t415 w _ ?side1 ?side2 A27.out).mono ?_); (case side1 => repeat (first | (with_reducible first | exact HB.out | apply below_alloc | apply pw_below_drewN | apply below_drew1 | refine below_set ?_ GE405.out | refine below_set ?_ GE412.out) | exact HB.out)); (case side2 => exact Kd.R_tight rfl HO_413002.out); rintro e w35 ⟨rfl, hy0, hb, hkp⟩; refine ⟨_, rfl, ?_⟩; have n0_ := Aside0.mk (Kd.R_mono (ok' := fun k_ => some k_ ≠ (.slice Ao15 t408.length co15 : Value).ownBlock) (Kd.R_keptB (HO_406002.out) hkp (fun k_ hk_ hs_ => (hk_) hs_)) (fun k_ hk_ => hk_.1)); have n1_ := Aside0.mk (Kd.R_reok rfl hy0 (fun k_ e_ => HO_413002.out.1 k_ e_)); have n2_ := Aside0.mk (blk_kept (by (with_reducible repeat (first | refine blk_drewN ?_ _ | refine blk_drew ?_ | refine blk_alloc ?_ _)); exact BK405.out) hkp (fun hs_ => (fun e_ => (Kd.R_ne HO_413002.out BK405.out (by decide)) e_) hs_)); have n3_ := Aside0.mk (blk_kept (by (with_reducible repeat (first | refine blk_drewN ?_ _ | refine blk_drew ?_ | refine blk_alloc ?_ _)); exact BK412.out) hkp (fun hs_ => (fun e_ => (Kd.R_ne HO_413002.out BK412.out (by decide)) e_) hs_)); have n4_ := Aside0.mk (hb); clear HO_406002; clear HO_413002; clear BK405; clear BK412; clear HB; have HO_406002 := n0_; have HO_413002 := n1_; have BK405 := n2_; have BK412 := n3_; have HB := n4_; clear n0_ n1_ n2_ n3_ n4_; (try clear hb); (try clear hkp); (try clear hy0); have hcz36_0 : w35.cell? ⟨gb412, 0, none⟩ = some (.int .i64 t406) := (blk_cell BK412.out 0).trans rfl; have hcz36_1 : w35.cell? ⟨gb412, 1, none⟩ = some (.int .i64 t407) := (blk_cell BK412.out 1).trans rfl; have hcz36_2 : w35.cell? ⟨gb412, 2, none⟩ = some (.slice Ao15 t408.length co15) := (blk_cell BK412.out 2).trans rfl; have hfz36_0 := blk_frozen BK412.out 0; have hfz36_1 := blk_frozen BK412.out 1; have hfz36_2 := blk_frozen BK412.out 2) | ((with_reducible refine gate_callee (f := 59) rfl ?_); refine goesL_ (some 43) rfl rfl Try.func59 (by kernel_rfl) rfl #[.agg #[.int .i64 t406, .int .i64 t407, .slice Ao15 t415.length co15], .int .i64 1] rfl (by (try simp only [List.map_toArray, List.map_cons, List.map_nil]); first | done | (rw [show t415.length = t408.length from (Kd.R_reads' HO_413002.out).1.symm] <;> rfl) | rfl | (simp only [List.length_drop, List.length_take]; rfl)) ?_; (with_reducible refine (laws_heldPicture.calls kj5 t406 t407 _ _ t415 1 t416 _ ?side1 ?side2 A28.out).mono ?_); (case side1 => repeat (first | exact (Kd.R_reads' HO_413002.out).2.2 | (with_reducible refine Kd.C_alloc ?_ _) | (with_reducible refine Kd.C_drewN ?_ _) | (with_reducible refine Kd.C_drew ?_))); (case side2 => rw [show t415.length = t408.length from (Kd.R_reads' HO_413002.out).1.symm]; exact (Kd.R_reads' HO_413002.out).2.1); rintro e w37 ⟨rfl, hb⟩; refine ⟨_, rfl, ?_⟩; have n0_ := Aside0.mk (Kd.R_below (by (with_reducible repeat (first | apply Kd.R_alloc | apply Kd.R_drewN | apply Kd.R_drew)); exact HO_406002.out) hb); have n1_ := Aside0.mk (Kd.R_below (by (with_reducible repeat (first | apply Kd.R_alloc | apply Kd.R_drewN | apply Kd.R_drew)); exact HO_413002.out) hb); have n2_ := Aside0.mk (blk_below (g := gb405) (o := .cells #[.int .i64 t399, .int .i64 t400, .slice Ao10 t401.length co10] 37 (0, 0)) (by (with_reducible repeat (first | refine blk_drewN ?_ _ | refine blk_drew ?_ | refine blk_alloc ?_ _)); exact BK405.out) hb); have n3_ := Aside0.mk (blk_below (g := gb412) (o := .cells #[.int .i64 t406, .int .i64 t407, .slice Ao15 t408.length co15] 37 (0, 0)) (by (with_reducible repeat (first | refine blk_drewN ?_ _ | refine blk_drew ?_ | refine blk_alloc ?_ _)); exact BK412.out) hb); have n4_ := Aside0.mk (below_step (by repeat (first | (with_reducible first | exact HB.out | apply below_alloc | apply pw_below_drewN | apply below_drew1 | refine below_set ?_ GE405.out | refine below_set ?_ GE412.out) | exact HB.out)) hb); clear HO_406002; clear HO_413002; clear BK405; clear BK412; clear HB; have HO_406002 := n0_; have HO_413002 := n1_; have BK405 := n2_; have BK412 := n3_; have HB := n4_; clear n0_ n1_ n2_ n3_ n4_; (try clear hb); (try clear hb2); (try clear hk); (try clear hi)) | ((with_reducible refine gate_callee (f := 57) rfl ?_); refine goesL_ (some 53) rfl rfl Try.func57 (by kernel_rfl) rfl #[.int .i64 a0, .int .i64 a1, .int .i64 a2] rfl (by (try simp only [List.map_toArray, List.map_cons, List.map_nil]); first | done | rfl | (simp only [List.length_drop, List.length_take]; rfl)) ?_; (with_reducible refine (impl_FlatPicture.calls a0 a1 a2 t417 t418 t419 t422 _ A31.out).mono ?_); rintro e w38 ⟨v420, rfl, ho0, hb⟩; refine ⟨_, rfl, ?_⟩; have n0_ := Aside0.mk (Kd.R_elder' (by (with_reducible repeat (first | apply Kd.R_alloc | apply Kd.R_drewN | apply Kd.R_drew)); exact HO_406002.out) (Kd.R_base ho0) hb); have n1_ := Aside0.mk (Kd.R_elder' (by (with_reducible repeat (first | apply Kd.R_alloc | apply Kd.R_drewN | apply Kd.R_drew)); exact HO_413002.out) (Kd.R_base ho0) hb); have n2_ := Aside0.mk (Kd.R_lower (Kd.R_new' (Kd.R_new' ho0 (Kd.R_lt (by (with_reducible repeat (first | apply Kd.R_alloc | apply Kd.R_drewN | apply Kd.R_drew)); exact HO_406002.out))) (Kd.R_lt (by (with_reducible repeat (first | apply Kd.R_alloc | apply Kd.R_drewN | apply Kd.R_drew)); exact HO_413002.out))) (below_size (by repeat (first | (with_reducible first | exact HB.out | apply below_alloc | apply pw_below_drewN | apply below_drew1 | refine below_set ?_ GE405.out | refine below_set ?_ GE412.out) | exact HB.out)))); have n3_ := Aside0.mk (blk_below (g := gb405) (o := .cells #[.int .i64 t399, .int .i64 t400, .slice Ao10 t401.length co10] 37 (0, 0)) (by (with_reducible repeat (first | refine blk_drewN ?_ _ | refine blk_drew ?_ | refine blk_alloc ?_ _)); exact BK405.out) hb); have n4_ := Aside0.mk (blk_below (g := gb412) (o := .cells #[.int .i64 t406, .int .i64 t407, .slice Ao15 t408.length co15] 37 (0, 0)) (by (with_reducible repeat (first | refine blk_drewN ?_ _ | refine blk_drew ?_ | refine blk_alloc ?_ _)); exact BK412.out) hb); have n5_ := Aside0.mk (below_step (by repeat (first | (with_reducible first | exact HB.out | apply below_alloc | apply pw_below_drewN | apply below_drew1 | refine below_set ?_ GE405.out | refine below_set ?_ GE412.out) | exact HB.out)) hb); clear HO_406002; clear HO_413002; clear BK405; clear BK412; clear HB; have HO_406002 := n0_; have HO_413002 := n1_; have HO421 := n2_; have BK405 := n3_; have BK412 := n4_; have HB := n5_; clear n0_ n1_ n2_ n3_ n4_ n5_; (try clear hb); (try clear hb2); (try clear hk); (try clear hi); (try clear ho0)) | ((with_reducible refine gate_dst (N := 13) rfl ?_); refine box_event ?hg (N := 13) ?hd (cs := #[.int .i64 0, .int .i64 0, .slice none 0 0]) (t := 37) ?hr ?_; (case hd => rfl); (case hg => rfl); (case hr => first | (go_simp; done) | (go_simp; rfl)); intro gb423 hg w39 hbox hb; have n0_ := Aside0.mk (Kd.R_below (by (with_reducible repeat (first | apply Kd.R_alloc | apply Kd.R_drewN | apply Kd.R_drew)); exact HO_406002.out) hb); have n1_ := Aside0.mk (Kd.R_below (by (with_reducible repeat (first | apply Kd.R_alloc | apply Kd.R_drewN | apply Kd.R_drew)); exact HO_413002.out) hb); have n2_ := Aside0.mk (Kd.R_below (by (with_reducible repeat (first | apply Kd.R_alloc | apply Kd.R_drewN | apply Kd.R_drew)); exact HO421.out) hb); have n3_ := Aside0.mk (blk_below (g := gb405) (o := .cells #[.int .i64 t399, .int .i64 t400, .slice Ao10 t401.length co10] 37 (0, 0)) (by (with_reducible repeat (first | refine blk_drewN ?_ _ | refine blk_drew ?_ | refine blk_alloc ?_ _)); exact BK405.out) hb); have n4_ := Aside0.mk (blk_below (g := gb412) (o := .cells #[.int .i64 t406, .int .i64 t407, .slice Ao15 t408.length co15] 37 (0, 0)) (by (with_reducible repeat (first | refine blk_drewN ?_ _ | refine blk_drew ?_ | refine blk_alloc ?_ _)); exact BK412.out) hb); have n5_ := Aside0.mk (below_step (by repeat (first | (with_reducible first | exact HB.out | apply below_alloc | apply pw_below_drewN | apply below_drew1 | refine below_set ?_ GE405.out | refine below_set ?_ GE412.out) | exact HB.out)) hb); have n6_ := Aside0.mk (hbox); have n7_ := Aside0.mk ((by rw [hg]; exact (below_size (by repeat (first | (with_reducible first | exact HB.out | apply below_alloc | apply pw_below_drewN | apply below_drew1 | refine below_set ?_ GE405.out | refine below_set ?_ GE412.out) | exact HB.out))) : w.heap.size ≤ gb423)); have n8_ := Aside0.mk ((by rw [hg]; exact (below_size (by repeat (first | (with_reducible first | exact HB.out | apply below_alloc | apply pw_below_drewN | apply below_drew1 | refine below_set ?_ GE405.out | refine below_set ?_ GE412.out) | exact HB.out))) : w.heap.size ≤ gb423)); have n9_ := Aside0.mk ((by rw [hg]; exact Nat.ne_of_lt (blk_lt (g := gb405) (o := .cells #[.int .i64 t399, .int .i64 t400, .slice Ao10 t401.length co10] 37 (0, 0)) (by (with_reducible repeat (first | refine blk_drewN ?_ _ | refine blk_drew ?_ | refine blk_alloc ?_ _)); exact BK405.out)) : gb405 ≠ gb423)); have n10_ := Aside0.mk ((by rw [hg]; exact Nat.ne_of_gt (blk_lt (g := gb405) (o := .cells #[.int .i64 t399, .int .i64 t400, .slice Ao10 t401.length co10] 37 (0, 0)) (by (with_reducible repeat (first | refine blk_drewN ?_ _ | refine blk_drew ?_ | refine blk_alloc ?_ _)); exact BK405.out)) : gb423 ≠ gb405)); have n11_ := Aside0.mk ((by rw [hg]; exact Nat.ne_of_lt (blk_lt (g := gb412) (o := .cells #[.int .i64 t406, .int .i64 t407, .slice Ao15 t408.length co15] 37 (0, 0)) (by (with_reducible repeat (first | refine blk_drewN ?_ _ | refine blk_drew ?_ | refine blk_alloc ?_ _)); exact BK412.out)) : gb412 ≠ gb423)); have n12_ := Aside0.mk ((by rw [hg]; exact Nat.ne_of_gt (blk_lt (g := gb412) (o := .cells #[.int .i64 t406, .int .i64 t407, .slice Ao15 t408.length co15] 37 (0, 0)) (by (with_reducible repeat (first | refine blk_drewN ?_ _ | refine blk_drew ?_ | refine blk_alloc ?_ _)); exact BK412.out)) : gb423 ≠ gb412)); clear HO_406002; clear HO_413002; clear HO421; clear BK405; clear BK412; clear HB; have HO_406002 := n0_; have HO_413002 := n1_; have HO421 := n2_; have BK405 := n3_; have BK412 := n4_; have HB := n5_; have BK423 := n6_; have GW423 := n7_; have GE423 := n8_; have NB405_423 := n9_; have NB423_405 := n10_; have NB412_423 := n11_; have NB423_412 := n12_; clear n0_ n1_ n2_ n3_ n4_ n5_ n6_ n7_ n8_ n9_ n10_ n11_ n12_; clear hb hbox hg; have hnb40 := NB423_405.out; have hnc40 := NB405_423.out; have hnb41 := NB423_412.out; have hnc41 := NB412_423.out; have hcz42_0 : w39.cell? ⟨gb423, 0, none⟩ = some (.int .i64 0) := (blk_cell BK423.out 0).trans rfl; have hcz42_1 : w39.cell? ⟨gb423, 1, none⟩ = some (.int .i64 0) := (blk_cell BK423.out 1).trans rfl; have hcz42_2 : w39.cell? ⟨gb423, 2, none⟩ = some (.slice none 0 0) := (blk_cell BK423.out 2).trans rfl; have hfz42_0 := blk_frozen BK423.out 0; have hfz42_1 := blk_frozen BK423.out 1; have hfz42_2 := blk_frozen BK423.out 2; obtain ⟨Ao43, co43, eo43⟩ := Kd.R_slice HO421.out; subst eo43))
            (try simp only [Act.put, List.setIfInBounds_toArray, List.set_cons_zero, List.set_cons_succ])
            go_cut [64] (fun v64 wc => ∃ (kq : Nat) (x64_31 : Bool), v64 = .bool x64_31 ∧ Aside0 (laws_FnExactFlatPicture.j1 kq t414 x64_31 t406 t407 t415 = some r) ∧ Aside0 (kq ≤ kj5) ∧ Aside0 (Kd.R (Kd.int .i64) 3 wc w.heap.size (fun k_ => some k_ ≠ ((.slice Ao15 t408.length co15) : Value).ownBlock ∧ some k_ ≠ ((.slice Ao43 t419.length co43) : Value).ownBlock) (.slice Ao10 t401.length co10) t401) ∧ Aside0 (Kd.R (Kd.int .i64) 3 wc w.heap.size (fun k_ => some k_ ≠ ((.slice Ao10 t401.length co10) : Value).ownBlock ∧ some k_ ≠ ((.slice Ao43 t419.length co43) : Value).ownBlock) (.slice Ao15 t408.length co15) t415) ∧ Aside0 (Kd.R (Kd.int .i64) 3 wc w.heap.size (fun k_ => some k_ ≠ ((.slice Ao10 t401.length co10) : Value).ownBlock ∧ some k_ ≠ ((.slice Ao15 t408.length co15) : Value).ownBlock) (.slice Ao43 t419.length co43) t419) ∧ Aside0 (wc.heap[gb405]? = some (.cells #[.int .i64 t399, .int .i64 t400, (.slice Ao10 t401.length co10)] 37 (0, 0))) ∧ Aside0 (wc.heap[gb412]? = some (.cells #[.int .i64 t406, .int .i64 t407, (.slice Ao15 t408.length co15)] 37 (0, 0))) ∧ Aside0 (wc.heap[gb423]? = some (.cells #[.int .i64 t417, .int .i64 t418, (.slice Ao43 t419.length co43)] 37 (0, 0))) ∧ Aside0 (Below w.heap.size w wc))
            case first =>
              have H := HC32.out
              clear HC32
              replace H := Option.bind_eq_some_iff.mp H
              obtain ⟨t424, A440, H⟩ := H
              replace H : (if t424 = true then (laws_FnExactFlatPicture.j1 kj5 t414 (t422 != t404) t406 t407 t415) else (laws_FnExactFlatPicture.j1 kj5 t414 true t406 t407 t415)) = some r := H
              have A44 := Aside0.mk A440
              clear A440
              by_cases c45 : t424 = true
              · subst c45
                have H1 : (laws_FnExactFlatPicture.j1 kj5 t414 (t422 != t404) t406 t407 t415) = some r := by rw [if_pos rfl] at H; exact H
                clear H
                have H := H1
                clear H1
                have H' := Aside0.mk H
                clear H
                have hnb46 := NB423_405.out
                have hnc46 := NB405_423.out
                have hnb47 := NB423_412.out
                have hnc47 := NB412_423.out
                have hcz48_0 : w39.cell? ⟨gb423, 0, none⟩ = some (.int .i64 0) := (blk_cell BK423.out 0).trans rfl
                have hcz48_1 : w39.cell? ⟨gb423, 1, none⟩ = some (.int .i64 0) := (blk_cell BK423.out 1).trans rfl
                have hcz48_2 : w39.cell? ⟨gb423, 2, none⟩ = some (.slice none 0 0) := (blk_cell BK423.out 2).trans rfl
                have hfz48_0 := blk_frozen BK423.out 0
                have hfz48_1 := blk_frozen BK423.out 1
                have hfz48_2 := blk_frozen BK423.out 2
                have hnb49 := NB405_412.out
                have hnc49 := NB412_405.out
                have hcz50_0 : w39.cell? ⟨gb405, 0, none⟩ = some (.int .i64 t399) := (blk_cell BK405.out 0).trans rfl
                have hcz50_1 : w39.cell? ⟨gb405, 1, none⟩ = some (.int .i64 t400) := (blk_cell BK405.out 1).trans rfl
                have hcz50_2 : w39.cell? ⟨gb405, 2, none⟩ = some (.slice Ao10 t401.length co10) := (blk_cell BK405.out 2).trans rfl
                have hfz50_0 := blk_frozen BK405.out 0
                have hfz50_1 := blk_frozen BK405.out 1
                have hfz50_2 := blk_frozen BK405.out 2
                go_wp2_with (first | ((with_reducible refine gate_callee (f := 50) rfl ?_); refine goesL_ (some 58) rfl rfl Try.func50 (by kernel_rfl) rfl #[.agg #[.int .i64 t417, .int .i64 t418, .slice Ao43 t419.length co43], .agg #[.int .i64 t399, .int .i64 t400, .slice Ao10 t401.length co10]] rfl (by (try simp only [List.map_toArray, List.map_cons, List.map_nil]); first | done | rfl | (simp only [List.length_drop, List.length_take]; rfl)) ?_; (with_reducible refine (laws_eqPicture.calls kj5 t417 t418 _ _ t419 t399 t400 _ _ t401 true _ ?side1 ?side2 ?side3 ?side4 A44.out).mono ?_); (case side1 => refine (Kd.R_reads' (e := 3) (base := w.heap.size) (ok := fun k_ => ((True ∧ some k_ ≠ (.slice Ao10 t401.length co10 : Value).ownBlock) ∧ some k_ ≠ (.slice Ao15 t408.length co15 : Value).ownBlock)) (n := t419.length) (c := co43) ?_).2.2; exact (by (with_reducible repeat (first | apply Kd.R_alloc | apply Kd.R_drewN | apply Kd.R_drew)); exact (Kd.R_mono (Kd.R_far (p := ⟨gb423, 2, none⟩) (Kd.R_far (p := ⟨gb423, 1, none⟩) (Kd.R_far (p := ⟨gb423, 0, none⟩) (Kd.R_types HO421.out BK423.out (by decide)) (fun _ hk => hk.2) (.int .i64 t417)) (fun _ hk => hk.2) (.int .i64 t418)) (fun _ hk => hk.2) (.slice Ao43 t419.length co43)) (fun _ h_ => h_.1)))); (case side2 => exact (Kd.R_reads' HO421.out).2.1); (case side3 => refine (Kd.R_reads' (e := 3) (base := w.heap.size) (ok := fun k_ => (some k_ ≠ (.slice Ao15 t408.length co15 : Value).ownBlock ∧ some k_ ≠ (.slice Ao43 t419.length co43 : Value).ownBlock)) (n := t401.length) (c := co10) ?_).2.2; exact (by (with_reducible repeat (first | apply Kd.R_alloc | apply Kd.R_drewN | apply Kd.R_drew)); exact (Kd.R_mono (Kd.R_far (p := ⟨gb423, 2, none⟩) (Kd.R_far (p := ⟨gb423, 1, none⟩) (Kd.R_far (p := ⟨gb423, 0, none⟩) (Kd.R_types HO_406002.out BK423.out (by decide)) (fun _ hk => hk.2) (.int .i64 t417)) (fun _ hk => hk.2) (.int .i64 t418)) (fun _ hk => hk.2) (.slice Ao43 t419.length co43)) (fun _ h_ => h_.1)))); (case side4 => exact (Kd.R_reads' HO_406002.out).2.1); rintro e w51 ⟨rfl, hb⟩; refine ⟨_, rfl, ?_⟩; have n0_ := Aside0.mk (Kd.R_below (by (with_reducible repeat (first | apply Kd.R_alloc | apply Kd.R_drewN | apply Kd.R_drew)); exact (Kd.R_mono (Kd.R_far (p := ⟨gb423, 2, none⟩) (Kd.R_far (p := ⟨gb423, 1, none⟩) (Kd.R_far (p := ⟨gb423, 0, none⟩) (Kd.R_types HO_406002.out BK423.out (by decide)) (fun _ hk => hk.2) (.int .i64 t417)) (fun _ hk => hk.2) (.int .i64 t418)) (fun _ hk => hk.2) (.slice Ao43 t419.length co43)) (fun _ h_ => h_.1))) hb); have n1_ := Aside0.mk (Kd.R_below (by (with_reducible repeat (first | apply Kd.R_alloc | apply Kd.R_drewN | apply Kd.R_drew)); exact (Kd.R_mono (Kd.R_far (p := ⟨gb423, 2, none⟩) (Kd.R_far (p := ⟨gb423, 1, none⟩) (Kd.R_far (p := ⟨gb423, 0, none⟩) (Kd.R_types HO_413002.out BK423.out (by decide)) (fun _ hk => hk.2) (.int .i64 t417)) (fun _ hk => hk.2) (.int .i64 t418)) (fun _ hk => hk.2) (.slice Ao43 t419.length co43)) (fun _ h_ => h_.1))) hb); have n2_ := Aside0.mk (Kd.R_below (by (with_reducible repeat (first | apply Kd.R_alloc | apply Kd.R_drewN | apply Kd.R_drew)); exact (Kd.R_mono (Kd.R_far (p := ⟨gb423, 2, none⟩) (Kd.R_far (p := ⟨gb423, 1, none⟩) (Kd.R_far (p := ⟨gb423, 0, none⟩) (Kd.R_types HO421.out BK423.out (by decide)) (fun _ hk => hk.2) (.int .i64 t417)) (fun _ hk => hk.2) (.int .i64 t418)) (fun _ hk => hk.2) (.slice Ao43 t419.length co43)) (fun _ h_ => h_.1))) hb); have n3_ := Aside0.mk (blk_below (g := gb405) (o := .cells #[.int .i64 t399, .int .i64 t400, .slice Ao10 t401.length co10] 37 (0, 0)) (by (with_reducible repeat (first | refine blk_drewN ?_ _ | refine blk_drew ?_ | refine blk_alloc ?_ _)); refine blk_far ?_ NB405_423.out _; (with_reducible repeat (first | refine blk_drewN ?_ _ | refine blk_drew ?_ | refine blk_alloc ?_ _)); refine blk_far ?_ NB405_423.out _; (with_reducible repeat (first | refine blk_drewN ?_ _ | refine blk_drew ?_ | refine blk_alloc ?_ _)); refine blk_far ?_ NB405_423.out _; (with_reducible repeat (first | refine blk_drewN ?_ _ | refine blk_drew ?_ | refine blk_alloc ?_ _)); exact BK405.out) hb); have n4_ := Aside0.mk (blk_below (g := gb412) (o := .cells #[.int .i64 t406, .int .i64 t407, .slice Ao15 t408.length co15] 37 (0, 0)) (by (with_reducible repeat (first | refine blk_drewN ?_ _ | refine blk_drew ?_ | refine blk_alloc ?_ _)); refine blk_far ?_ NB412_423.out _; (with_reducible repeat (first | refine blk_drewN ?_ _ | refine blk_drew ?_ | refine blk_alloc ?_ _)); refine blk_far ?_ NB412_423.out _; (with_reducible repeat (first | refine blk_drewN ?_ _ | refine blk_drew ?_ | refine blk_alloc ?_ _)); refine blk_far ?_ NB412_423.out _; (with_reducible repeat (first | refine blk_drewN ?_ _ | refine blk_drew ?_ | refine blk_alloc ?_ _)); exact BK412.out) hb); have n5_ := Aside0.mk (blk_below (g := gb423) (o := .cells #[.int .i64 t417, .int .i64 t418, .slice Ao43 t419.length co43] 37 (0, 0)) (by (with_reducible repeat (first | refine blk_drewN ?_ _ | refine blk_drew ?_ | refine blk_alloc ?_ _)); refine blk_put (cs := #[.int .i64 t417, .int .i64 t418, .slice none 0 0]) ?_ 2 _ rfl; (with_reducible repeat (first | refine blk_drewN ?_ _ | refine blk_drew ?_ | refine blk_alloc ?_ _)); refine blk_put (cs := #[.int .i64 t417, .int .i64 0, .slice none 0 0]) ?_ 1 _ rfl; (with_reducible repeat (first | refine blk_drewN ?_ _ | refine blk_drew ?_ | refine blk_alloc ?_ _)); refine blk_put (cs := #[.int .i64 0, .int .i64 0, .slice none 0 0]) ?_ 0 _ rfl; (with_reducible repeat (first | refine blk_drewN ?_ _ | refine blk_drew ?_ | refine blk_alloc ?_ _)); exact BK423.out) hb); have n6_ := Aside0.mk (below_step (by repeat (first | (with_reducible first | exact HB.out | apply below_alloc | apply pw_below_drewN | apply below_drew1 | refine below_set ?_ GE405.out | refine below_set ?_ GE412.out | refine below_set ?_ GE423.out) | exact HB.out)) hb); clear HO_406002; clear HO_413002; clear HO421; clear BK405; clear BK412; clear BK423; clear HB; have HO_406002 := n0_; have HO_413002 := n1_; have HO421 := n2_; have BK405 := n3_; have BK412 := n4_; have BK423 := n5_; have HB := n6_; clear n0_ n1_ n2_ n3_ n4_ n5_ n6_; (try clear hb); (try clear hb2); (try clear hk); (try clear hi)))
                go_meet
                case rel => exact ⟨_, ((t422 != t404)), (by first | rfl | (simp; done) | (simp [*]; done)), H', ⟨by have := HJ5.out; first | omega | exact Nat.le_refl _⟩, ⟨by (with_reducible repeat (first | apply Kd.R_alloc | apply Kd.R_drewN | apply Kd.R_drew)); exact HO_406002.out⟩, ⟨by (with_reducible repeat (first | apply Kd.R_alloc | apply Kd.R_drewN | apply Kd.R_drew)); exact HO_413002.out⟩, ⟨by (with_reducible repeat (first | apply Kd.R_alloc | apply Kd.R_drewN | apply Kd.R_drew)); exact Kd.R_mono HO421.out (fun _ hk => ⟨hk.1.2, hk.2⟩)⟩, ⟨by (with_reducible repeat (first | refine blk_drewN ?_ _ | refine blk_drew ?_ | refine blk_alloc ?_ _)); exact BK405.out⟩, ⟨by (with_reducible repeat (first | refine blk_drewN ?_ _ | refine blk_drew ?_ | refine blk_alloc ?_ _)); exact BK412.out⟩, ⟨by (with_reducible repeat (first | refine blk_drewN ?_ _ | refine blk_drew ?_ | refine blk_alloc ?_ _)); exact BK423.out⟩, ⟨by repeat (first | (with_reducible first | exact HB.out | apply below_alloc | apply pw_below_drewN | apply below_drew1 | refine below_set ?_ GE405.out | refine below_set ?_ GE412.out | refine below_set ?_ GE423.out) | exact HB.out)⟩⟩
              · replace c45 := Bool.eq_false_iff.mpr c45
                subst c45
                have H1 : (laws_FnExactFlatPicture.j1 kj5 t414 true t406 t407 t415) = some r := by rw [if_neg (show ¬ (false = true) by decide)] at H; exact H
                clear H
                have H := H1
                clear H1
                have H' := Aside0.mk H
                clear H
                have hnb52 := NB423_405.out
                have hnc52 := NB405_423.out
                have hnb53 := NB423_412.out
                have hnc53 := NB412_423.out
                have hcz54_0 : w39.cell? ⟨gb423, 0, none⟩ = some (.int .i64 0) := (blk_cell BK423.out 0).trans rfl
                have hcz54_1 : w39.cell? ⟨gb423, 1, none⟩ = some (.int .i64 0) := (blk_cell BK423.out 1).trans rfl
                have hcz54_2 : w39.cell? ⟨gb423, 2, none⟩ = some (.slice none 0 0) := (blk_cell BK423.out 2).trans rfl
                have hfz54_0 := blk_frozen BK423.out 0
                have hfz54_1 := blk_frozen BK423.out 1
                have hfz54_2 := blk_frozen BK423.out 2
                have hnb55 := NB405_412.out
                have hnc55 := NB412_405.out
                have hcz56_0 : w39.cell? ⟨gb405, 0, none⟩ = some (.int .i64 t399) := (blk_cell BK405.out 0).trans rfl
                have hcz56_1 : w39.cell? ⟨gb405, 1, none⟩ = some (.int .i64 t400) := (blk_cell BK405.out 1).trans rfl
                have hcz56_2 : w39.cell? ⟨gb405, 2, none⟩ = some (.slice Ao10 t401.length co10) := (blk_cell BK405.out 2).trans rfl
                have hfz56_0 := blk_frozen BK405.out 0
                have hfz56_1 := blk_frozen BK405.out 1
                have hfz56_2 := blk_frozen BK405.out 2
                go_wp2_with (first | ((with_reducible refine gate_callee (f := 50) rfl ?_); refine goesL_ (some 58) rfl rfl Try.func50 (by kernel_rfl) rfl #[.agg #[.int .i64 t417, .int .i64 t418, .slice Ao43 t419.length co43], .agg #[.int .i64 t399, .int .i64 t400, .slice Ao10 t401.length co10]] rfl (by (try simp only [List.map_toArray, List.map_cons, List.map_nil]); first | done | rfl | (simp only [List.length_drop, List.length_take]; rfl)) ?_; (with_reducible refine (laws_eqPicture.calls kj5 t417 t418 _ _ t419 t399 t400 _ _ t401 false _ ?side1 ?side2 ?side3 ?side4 A44.out).mono ?_); (case side1 => refine (Kd.R_reads' (e := 3) (base := w.heap.size) (ok := fun k_ => ((True ∧ some k_ ≠ (.slice Ao10 t401.length co10 : Value).ownBlock) ∧ some k_ ≠ (.slice Ao15 t408.length co15 : Value).ownBlock)) (n := t419.length) (c := co43) ?_).2.2; exact (by (with_reducible repeat (first | apply Kd.R_alloc | apply Kd.R_drewN | apply Kd.R_drew)); exact (Kd.R_mono (Kd.R_far (p := ⟨gb423, 2, none⟩) (Kd.R_far (p := ⟨gb423, 1, none⟩) (Kd.R_far (p := ⟨gb423, 0, none⟩) (Kd.R_types HO421.out BK423.out (by decide)) (fun _ hk => hk.2) (.int .i64 t417)) (fun _ hk => hk.2) (.int .i64 t418)) (fun _ hk => hk.2) (.slice Ao43 t419.length co43)) (fun _ h_ => h_.1)))); (case side2 => exact (Kd.R_reads' HO421.out).2.1); (case side3 => refine (Kd.R_reads' (e := 3) (base := w.heap.size) (ok := fun k_ => (some k_ ≠ (.slice Ao15 t408.length co15 : Value).ownBlock ∧ some k_ ≠ (.slice Ao43 t419.length co43 : Value).ownBlock)) (n := t401.length) (c := co10) ?_).2.2; exact (by (with_reducible repeat (first | apply Kd.R_alloc | apply Kd.R_drewN | apply Kd.R_drew)); exact (Kd.R_mono (Kd.R_far (p := ⟨gb423, 2, none⟩) (Kd.R_far (p := ⟨gb423, 1, none⟩) (Kd.R_far (p := ⟨gb423, 0, none⟩) (Kd.R_types HO_406002.out BK423.out (by decide)) (fun _ hk => hk.2) (.int .i64 t417)) (fun _ hk => hk.2) (.int .i64 t418)) (fun _ hk => hk.2) (.slice Ao43 t419.length co43)) (fun _ h_ => h_.1)))); (case side4 => exact (Kd.R_reads' HO_406002.out).2.1); rintro e w57 ⟨rfl, hb⟩; refine ⟨_, rfl, ?_⟩; have n0_ := Aside0.mk (Kd.R_below (by (with_reducible repeat (first | apply Kd.R_alloc | apply Kd.R_drewN | apply Kd.R_drew)); exact (Kd.R_mono (Kd.R_far (p := ⟨gb423, 2, none⟩) (Kd.R_far (p := ⟨gb423, 1, none⟩) (Kd.R_far (p := ⟨gb423, 0, none⟩) (Kd.R_types HO_406002.out BK423.out (by decide)) (fun _ hk => hk.2) (.int .i64 t417)) (fun _ hk => hk.2) (.int .i64 t418)) (fun _ hk => hk.2) (.slice Ao43 t419.length co43)) (fun _ h_ => h_.1))) hb); have n1_ := Aside0.mk (Kd.R_below (by (with_reducible repeat (first | apply Kd.R_alloc | apply Kd.R_drewN | apply Kd.R_drew)); exact (Kd.R_mono (Kd.R_far (p := ⟨gb423, 2, none⟩) (Kd.R_far (p := ⟨gb423, 1, none⟩) (Kd.R_far (p := ⟨gb423, 0, none⟩) (Kd.R_types HO_413002.out BK423.out (by decide)) (fun _ hk => hk.2) (.int .i64 t417)) (fun _ hk => hk.2) (.int .i64 t418)) (fun _ hk => hk.2) (.slice Ao43 t419.length co43)) (fun _ h_ => h_.1))) hb); have n2_ := Aside0.mk (Kd.R_below (by (with_reducible repeat (first | apply Kd.R_alloc | apply Kd.R_drewN | apply Kd.R_drew)); exact (Kd.R_mono (Kd.R_far (p := ⟨gb423, 2, none⟩) (Kd.R_far (p := ⟨gb423, 1, none⟩) (Kd.R_far (p := ⟨gb423, 0, none⟩) (Kd.R_types HO421.out BK423.out (by decide)) (fun _ hk => hk.2) (.int .i64 t417)) (fun _ hk => hk.2) (.int .i64 t418)) (fun _ hk => hk.2) (.slice Ao43 t419.length co43)) (fun _ h_ => h_.1))) hb); have n3_ := Aside0.mk (blk_below (g := gb405) (o := .cells #[.int .i64 t399, .int .i64 t400, .slice Ao10 t401.length co10] 37 (0, 0)) (by (with_reducible repeat (first | refine blk_drewN ?_ _ | refine blk_drew ?_ | refine blk_alloc ?_ _)); refine blk_far ?_ NB405_423.out _; (with_reducible repeat (first | refine blk_drewN ?_ _ | refine blk_drew ?_ | refine blk_alloc ?_ _)); refine blk_far ?_ NB405_423.out _; (with_reducible repeat (first | refine blk_drewN ?_ _ | refine blk_drew ?_ | refine blk_alloc ?_ _)); refine blk_far ?_ NB405_423.out _; (with_reducible repeat (first | refine blk_drewN ?_ _ | refine blk_drew ?_ | refine blk_alloc ?_ _)); exact BK405.out) hb); have n4_ := Aside0.mk (blk_below (g := gb412) (o := .cells #[.int .i64 t406, .int .i64 t407, .slice Ao15 t408.length co15] 37 (0, 0)) (by (with_reducible repeat (first | refine blk_drewN ?_ _ | refine blk_drew ?_ | refine blk_alloc ?_ _)); refine blk_far ?_ NB412_423.out _; (with_reducible repeat (first | refine blk_drewN ?_ _ | refine blk_drew ?_ | refine blk_alloc ?_ _)); refine blk_far ?_ NB412_423.out _; (with_reducible repeat (first | refine blk_drewN ?_ _ | refine blk_drew ?_ | refine blk_alloc ?_ _)); refine blk_far ?_ NB412_423.out _; (with_reducible repeat (first | refine blk_drewN ?_ _ | refine blk_drew ?_ | refine blk_alloc ?_ _)); exact BK412.out) hb); have n5_ := Aside0.mk (blk_below (g := gb423) (o := .cells #[.int .i64 t417, .int .i64 t418, .slice Ao43 t419.length co43] 37 (0, 0)) (by (with_reducible repeat (first | refine blk_drewN ?_ _ | refine blk_drew ?_ | refine blk_alloc ?_ _)); refine blk_put (cs := #[.int .i64 t417, .int .i64 t418, .slice none 0 0]) ?_ 2 _ rfl; (with_reducible repeat (first | refine blk_drewN ?_ _ | refine blk_drew ?_ | refine blk_alloc ?_ _)); refine blk_put (cs := #[.int .i64 t417, .int .i64 0, .slice none 0 0]) ?_ 1 _ rfl; (with_reducible repeat (first | refine blk_drewN ?_ _ | refine blk_drew ?_ | refine blk_alloc ?_ _)); refine blk_put (cs := #[.int .i64 0, .int .i64 0, .slice none 0 0]) ?_ 0 _ rfl; (with_reducible repeat (first | refine blk_drewN ?_ _ | refine blk_drew ?_ | refine blk_alloc ?_ _)); exact BK423.out) hb); have n6_ := Aside0.mk (below_step (by repeat (first | (with_reducible first | exact HB.out | apply below_alloc | apply pw_below_drewN | apply below_drew1 | refine below_set ?_ GE405.out | refine below_set ?_ GE412.out | refine below_set ?_ GE423.out) | exact HB.out)) hb); clear HO_406002; clear HO_413002; clear HO421; clear BK405; clear BK412; clear BK423; clear HB; have HO_406002 := n0_; have HO_413002 := n1_; have HO421 := n2_; have BK405 := n3_; have BK412 := n4_; have BK423 := n5_; have HB := n6_; clear n0_ n1_ n2_ n3_ n4_ n5_ n6_; (try clear hb); (try clear hb2); (try clear hk); (try clear hi)))
                go_meet
                case rel => exact ⟨_, (true), (by first | rfl | (simp; done) | (simp [*]; done)), H', ⟨by have := HJ5.out; first | omega | exact Nat.le_refl _⟩, ⟨by (with_reducible repeat (first | apply Kd.R_alloc | apply Kd.R_drewN | apply Kd.R_drew)); exact HO_406002.out⟩, ⟨by (with_reducible repeat (first | apply Kd.R_alloc | apply Kd.R_drewN | apply Kd.R_drew)); exact HO_413002.out⟩, ⟨by (with_reducible repeat (first | apply Kd.R_alloc | apply Kd.R_drewN | apply Kd.R_drew)); exact Kd.R_mono HO421.out (fun _ hk => ⟨hk.1.2, hk.2⟩)⟩, ⟨by (with_reducible repeat (first | refine blk_drewN ?_ _ | refine blk_drew ?_ | refine blk_alloc ?_ _)); exact BK405.out⟩, ⟨by (with_reducible repeat (first | refine blk_drewN ?_ _ | refine blk_drew ?_ | refine blk_alloc ?_ _)); exact BK412.out⟩, ⟨by (with_reducible repeat (first | refine blk_drewN ?_ _ | refine blk_drew ?_ | refine blk_alloc ?_ _)); exact BK423.out⟩, ⟨by repeat (first | (with_reducible first | exact HB.out | apply below_alloc | apply pw_below_drewN | apply below_drew1 | refine below_set ?_ GE405.out | refine below_set ?_ GE412.out | refine below_set ?_ GE423.out) | exact HB.out)⟩⟩
            case rest =>
              clear HC32
              try clear c1
              try clear c2
              try clear p2
              try clear c3
              try clear c4
              try clear c5
              try clear c8
              try clear c13
              try clear c17
              try clear c18
              try clear c22
              try clear c26
              try clear c29
              try clear c29b0
              try clear c30
              try clear c30b0
              try clear c30b1
              try clear c33
              try clear c40
              try clear c41
              try clear c45
              try clear c46
              try clear c47
              try clear c49
              try clear c50
              try clear c52
              try clear c53
              try clear c55
              try clear c56
              try clear c57
              try clear hcz14_0
              try clear hcz14_1
              try clear hcz14_2
              try clear hcz19_0
              try clear hcz19_1
              try clear hcz19_2
              try clear hcz20_0
              try clear hcz20_1
              try clear hcz20_2
              try clear hcz23_0
              try clear hcz23_1
              try clear hcz23_2
              try clear hcz24_0
              try clear hcz24_1
              try clear hcz24_2
              try clear hcz34_0
              try clear hcz34_1
              try clear hcz34_2
              try clear hcz36_0
              try clear hcz36_1
              try clear hcz36_2
              try clear hcz42_0
              try clear hcz42_1
              try clear hcz42_2
              try clear hcz48_0
              try clear hcz48_1
              try clear hcz48_2
              try clear hcz50_0
              try clear hcz50_1
              try clear hcz50_2
              try clear hcz54_0
              try clear hcz54_1
              try clear hcz54_2
              try clear hcz56_0
              try clear hcz56_1
              try clear hcz56_2
              try clear hcz9_0
              try clear hcz9_1
              try clear hcz9_2
              try clear hfz14_0
              try clear hfz14_1
              try clear hfz14_2
              try clear hfz19_0
              try clear hfz19_1
              try clear hfz19_2
              try clear hfz20_0
              try clear hfz20_1
              try clear hfz20_2
              try clear hfz23_0
              try clear hfz23_1
              try clear hfz23_2
              try clear hfz24_0
              try clear hfz24_1
              try clear hfz24_2
              try clear hfz34_0
              try clear hfz34_1
              try clear hfz34_2
              try clear hfz36_0
              try clear hfz36_1
              try clear hfz36_2
              try clear hfz42_0
              try clear hfz42_1
              try clear hfz42_2
              try clear hfz48_0
              try clear hfz48_1
              try clear hfz48_2
              try clear hfz50_0
              try clear hfz50_1
              try clear hfz50_2
              try clear hfz54_0
              try clear hfz54_1
              try clear hfz54_2
              try clear hfz56_0
              try clear hfz56_1
              try clear hfz56_2
              try clear hfz9_0
              try clear hfz9_1
              try clear hfz9_2
              try clear p2
              obtain ⟨kq, x64_31, rfl, HA, HJ31, HO_406002, HO_413002, HO_424002, BK405, BK412, BK423, HB⟩ := hcut
              have hl413002_31 := (Kd.R_reads' HO_413002.out).1
              rw [hl413002_31] at HO_413002
              (try simp only [hl413002_31])
              (try simp only [hl413002_31] at BK405)
              (try simp only [hl413002_31] at BK412)
              (try simp only [hl413002_31] at BK423)
              (try simp only [hl413002_31] at HO_406002)
              (try simp only [hl413002_31] at HO_424002)
              cases kq with
              | zero => exact absurd HA.out (by simp [laws_FnExactFlatPicture.j1])
              | succ kj31 =>
                have H := HA.out
                clear HA
                simp only [laws_FnExactFlatPicture.j1] at H
                by_cases c58 : x64_31 = true
                · subst c58
                  have H1 : (some false) = some r := by rw [if_pos rfl] at H; exact H
                  clear H
                  have H := H1
                  clear H1
                  exact absurd ((Option.some.inj H).trans hT.out) (by decide)
                · replace c58 := Bool.eq_false_iff.mpr c58
                  subst c58
                  have H1 : ((laws_heldPicture.f kj31 t406 t407 t415 1).bind fun t425 => (if t425 < 0 then (some false) else (if t425 = t414 then (some true) else (some false)))) = some r := by rw [if_neg (show ¬ (false = true) by decide)] at H; exact H
                  clear H
                  have H := H1
                  clear H1
                  replace H := Option.bind_eq_some_iff.mp H
                  obtain ⟨t425, A590, H⟩ := H
                  replace H : (if t425 < 0 then (some false) else (if t425 = t414 then (some true) else (some false))) = some r := H
                  have A59 := Aside0.mk A590
                  clear A590
                  by_cases c60 : t425 < 0
                  · rw [if_pos c60] at H
                    have c60b0 : decide (t425 < 0) = true := decide_eq_true c60
                    clear c60
                    exact absurd ((Option.some.inj H).trans hT.out) (by decide)
                  · rw [if_neg c60] at H
                    have c60b0 : decide (t425 < 0) = false := decide_eq_false c60
                    clear c60
                    by_cases c61 : t425 = t414
                    · rw [if_pos c61] at H
                      have c61b0 : (t425 == t414) = true := beq_iff_eq.mpr c61
                      have c61b1 : (t425 != t414) = false := bne_eq_false_iff_eq.mpr c61
                      clear c61
                      obtain rfl := Option.some.inj H
                      have hnb62 := NB412_405.out
                      have hnc62 := NB405_412.out
                      have hnb63 := NB412_423.out
                      have hnc63 := NB423_412.out
                      have hcz64_0 : wc.cell? ⟨gb412, 0, none⟩ = some (.int .i64 t406) := (blk_cell BK412.out 0).trans rfl
                      have hcz64_1 : wc.cell? ⟨gb412, 1, none⟩ = some (.int .i64 t407) := (blk_cell BK412.out 1).trans rfl
                      have hcz64_2 : wc.cell? ⟨gb412, 2, none⟩ = some (.slice Ao15 t415.length co15) := (blk_cell BK412.out 2).trans rfl
                      have hfz64_0 := blk_frozen BK412.out 0
                      have hfz64_1 := blk_frozen BK412.out 1
                      have hfz64_2 := blk_frozen BK412.out 2
                      go_wp2_with (first | ((with_reducible refine gate_callee (f := 59) rfl ?_); refine goesL_ (some 67) rfl rfl Try.func59 (by kernel_rfl) rfl #[.agg #[.int .i64 t406, .int .i64 t407, .slice Ao15 t415.length co15], .int .i64 1] rfl (by (try simp only [List.map_toArray, List.map_cons, List.map_nil]); first | done | rfl | (simp only [List.length_drop, List.length_take]; rfl)) ?_; (with_reducible refine (laws_heldPicture.calls kj31 t406 t407 _ _ t415 1 t425 _ ?side1 ?side2 A59.out).mono ?_); (case side1 => repeat (first | exact (Kd.R_reads' HO_413002.out).2.2 | (with_reducible refine Kd.C_alloc ?_ _) | (with_reducible refine Kd.C_drewN ?_ _) | (with_reducible refine Kd.C_drew ?_))); (case side2 => exact (Kd.R_reads' HO_413002.out).2.1); rintro e w65 ⟨rfl, hb⟩; refine ⟨_, rfl, ?_⟩; have n0_ := Aside0.mk (Kd.R_below (by (with_reducible repeat (first | apply Kd.R_alloc | apply Kd.R_drewN | apply Kd.R_drew)); exact HO_406002.out) hb); have n1_ := Aside0.mk (Kd.R_below (by (with_reducible repeat (first | apply Kd.R_alloc | apply Kd.R_drewN | apply Kd.R_drew)); exact HO_413002.out) hb); have n2_ := Aside0.mk (Kd.R_below (by (with_reducible repeat (first | apply Kd.R_alloc | apply Kd.R_drewN | apply Kd.R_drew)); exact HO_424002.out) hb); have n3_ := Aside0.mk (blk_below (g := gb405) (o := .cells #[.int .i64 t399, .int .i64 t400, .slice Ao10 t401.length co10] 37 (0, 0)) (by (with_reducible repeat (first | refine blk_drewN ?_ _ | refine blk_drew ?_ | refine blk_alloc ?_ _)); exact BK405.out) hb); have n4_ := Aside0.mk (blk_below (g := gb412) (o := .cells #[.int .i64 t406, .int .i64 t407, .slice Ao15 t415.length co15] 37 (0, 0)) (by (with_reducible repeat (first | refine blk_drewN ?_ _ | refine blk_drew ?_ | refine blk_alloc ?_ _)); exact BK412.out) hb); have n5_ := Aside0.mk (blk_below (g := gb423) (o := .cells #[.int .i64 t417, .int .i64 t418, .slice Ao43 t419.length co43] 37 (0, 0)) (by (with_reducible repeat (first | refine blk_drewN ?_ _ | refine blk_drew ?_ | refine blk_alloc ?_ _)); exact BK423.out) hb); have n6_ := Aside0.mk (below_step (by repeat (first | (with_reducible first | exact HB.out | apply below_alloc | apply pw_below_drewN | apply below_drew1 | refine below_set ?_ GE405.out | refine below_set ?_ GE412.out | refine below_set ?_ GE423.out) | exact HB.out)) hb); clear HO_406002; clear HO_413002; clear HO_424002; clear BK405; clear BK412; clear BK423; clear HB; have HO_406002 := n0_; have HO_413002 := n1_; have HO_424002 := n2_; have BK405 := n3_; have BK412 := n4_; have BK423 := n5_; have HB := n6_; clear n0_ n1_ n2_ n3_ n4_ n5_ n6_; (try clear hb); (try clear hb2); (try clear hk); (try clear hi)))
                      go_ret
                      exact ⟨by first | rfl | (simp [errW_none, errW_some] <;> rfl) | (simp [*, errW_none, errW_some] <;> rfl), by repeat (first | (with_reducible first | exact HB.out | apply below_alloc | apply pw_below_drewN | apply below_drew1 | refine below_set ?_ GE405.out | refine below_set ?_ GE412.out | refine below_set ?_ GE423.out) | exact HB.out)⟩
                    · rw [if_neg c61] at H
                      have c61b0 : (t425 == t414) = false := beq_eq_false_iff_ne.mpr c61
                      have c61b1 : (t425 != t414) = true := bne_iff_ne.mpr c61
                      exact absurd ((Option.some.inj H).trans hT.out) (by decide)
          · rw [if_neg c30] at H
            have c30b0 : (t416 == t414) = false := beq_eq_false_iff_ne.mpr c30
            have c30b1 : (t416 != t414) = true := bne_iff_ne.mpr c30
            exact absurd ((Option.some.inj H).trans hT.out) (by decide)

end Go.Proofs.Ytbgbbfdmgpcgmaa.P
