-- Written by tools/seatprint.py (over the kit's print, changed in memory). Not trusted: Lean checks it.
import Derived.Test.YtdlehfnlibddcaaP0
import Derived.Test.YtdlehfnlibddcaaFlawseqMatrix
import Derived.Test.YtdlehfnlibddcaaFlawsmarkMatrix
import Derived.Test.YtdlehfnlibddcaaFlawsszPicture
import Derived.Test.YtdlehfnlibddcaaFlawstoPicture
import Derived.Test.YtdlehfnlibddcaaFlawseqPicture
import Derived.Test.YtdlehfnlibddcaaFlawsmarkPicture
import Derived.Test.YtdlehfnlibddcaaFlawsheldPicture
import Derived.Test.YtdlehfnlibddcaaFlawsszMatrix
import Derived.Test.YtdlehfnlibddcaaFlawstoMatrix
import Derived.Test.YtdlehfnlibddcaaFspecScreenPicture
import Derived.Test.YtdlehfnlibddcaaFimplScreenPicture
namespace Go.Proofs.Ytdlehfnlibddcaa.P
open Go.RowKit Go.Proofs.YtdlehfnlibddcaaW.PrintWords Go.Proofs.YtdlehfnlibddcaaW.PrintLast Go.Proofs.YtdlehfnlibddcaaW.PrintMore
attribute [local go_sem] max2_int min2_int max_two min_two max_three min_three max_four min_four   -- for this text's walks alone
set_option linter.unusedVariables false
set_option linter.unusedSimpArgs false

/-! ### laws_FnExactScreenPicture: function 19 -/
def laws_FnExactScreenPicture.j0 : Nat → Bool → Int → Int → List Int → Int → Int → List Int → Int → Int → List Int → Int → Int → List Int → Option (Bool)
  | 0, _, _, _, _, _, _, _, _, _, _, _, _, _ => none
  | k + 1, x63, x1130000, x1130001, x1130002, x1131000, x1131001, x1131002, x1149000, x1149001, x1149002, x1167000, x1167001, x1167002 => if x63 = true then (some false) else ((laws_markPicture.f k x1167000 x1167001 x1167002 1).bind fun bt1185 => ((laws_heldPicture.f k x1167000 x1167001 bt1185.2 1).bind fun t1187 => (if t1187 < 0 then (some false) else (if t1187 = bt1185.1 then ((laws_toMatrix.f k x1130000 x1130001 x1130002).bind fun bt1188 => ((laws_toPicture.f k x1131000 x1131001 x1131002).bind fun bt1193 => ((impl_ScreenPicture.f bt1188.1 bt1188.2.1 bt1188.2.2 bt1193.1 bt1193.2.1 bt1193.2.2).bind fun bt1198 => ((laws_eqPicture.f k bt1198.1 bt1198.2.1 bt1198.2.2 x1149000 x1149001 x1149002).bind fun t1204 => (if t1204 = true then ((laws_heldPicture.f k x1167000 x1167001 bt1185.2 1).bind fun t1205 => (if t1205 < 0 then (some false) else (if t1205 = bt1185.1 then (some true) else (some false)))) else (some false)))))) else (some false)))))
def laws_FnExactScreenPicture.f (k : Nat) (a0_0 : Int) (a0_1 : Int) (l0_2 : List Int) (a1_0 : Int) (a1_1 : Int) (l1_2 : List Int) : Option (Bool) := (laws_szMatrix.f a0_0 a0_1 l0_2 1048576).bind fun t1131 => (if t1131 < 0 then (some true) else ((laws_szPicture.f a1_0 a1_1 l1_2 t1131).bind fun t1132 => (if t1132 < 0 then (some true) else ((laws_toMatrix.f k a0_0 a0_1 l0_2).bind fun bt1133 => ((laws_toPicture.f k a1_0 a1_1 l1_2).bind fun bt1138 => ((spec_ScreenPicture.f k bt1133.1 bt1133.2.1 bt1133.2.2 bt1138.1 bt1138.2.1 bt1138.2.2).bind fun bt1143 => ((laws_toMatrix.f k a0_0 a0_1 l0_2).bind fun bt1149 => ((laws_toPicture.f k a1_0 a1_1 l1_2).bind fun bt1155 => ((impl_ScreenPicture.f bt1149.1 bt1149.2.1 bt1149.2.2 bt1155.1 bt1155.2.1 bt1155.2.2).bind fun bt1161 => ((laws_eqPicture.f k bt1161.1 bt1161.2.1 bt1161.2.2 bt1143.1 bt1143.2.1 bt1143.2.2).bind fun t1167 => (if t1167 = true then ((laws_toMatrix.f k a0_0 a0_1 l0_2).bind fun bt1168 => ((laws_eqMatrix.f k bt1149.1 bt1149.2.1 bt1149.2.2 bt1168.1 bt1168.2.1 bt1168.2.2).bind fun t1173 => (if t1173 = true then ((laws_toPicture.f k a1_0 a1_1 l1_2).bind fun bt1174 => ((laws_eqPicture.f k bt1155.1 bt1155.2.1 bt1155.2.2 bt1174.1 bt1174.2.1 bt1174.2.2).bind fun t1179 => (if t1179 = true then ((laws_markMatrix.f k bt1149.1 bt1149.2.1 bt1149.2.2 1).bind fun bt1180 => ((laws_markPicture.f k bt1155.1 bt1155.2.1 bt1155.2.2 bt1180.1).bind fun bt1182 => (if bt1182.1 < 0 then (laws_FnExactScreenPicture.j0 k true a0_0 a0_1 l0_2 a1_0 a1_1 l1_2 bt1143.1 bt1143.2.1 bt1143.2.2 bt1161.1 bt1161.2.1 bt1161.2.2) else ((laws_eqPicture.f k bt1161.1 bt1161.2.1 bt1161.2.2 bt1143.1 bt1143.2.1 bt1143.2.2).bind fun t1184 => (laws_FnExactScreenPicture.j0 k (!t1184) a0_0 a0_1 l0_2 a1_0 a1_1 l1_2 bt1143.1 bt1143.2.1 bt1143.2.2 bt1161.1 bt1161.2.1 bt1161.2.2))))) else (some false)))) else (some false)))) else (some false))))))))))))
theorem laws_FnExactScreenPicture.mono_l : ∀ k, (∀ y0 y1 y2 y3 y4 y5 y6 y7 y8 y9 y10 y11 y12, LeO (laws_FnExactScreenPicture.j0 k y0 y1 y2 y3 y4 y5 y6 y7 y8 y9 y10 y11 y12) (laws_FnExactScreenPicture.j0 (k + 1) y0 y1 y2 y3 y4 y5 y6 y7 y8 y9 y10 y11 y12))
  | 0 => fun _ _ _ _ _ _ _ _ _ _ _ _ _ r h => by simp [laws_FnExactScreenPicture.j0] at h
  | k + 1 => by
    have ih0 := laws_FnExactScreenPicture.mono_l k
    · intro y0 y1 y2 y3 y4 y5 y6 y7 y8 y9 y10 y11 y12
      unfold laws_FnExactScreenPicture.j0
      repeat' first
      | (with_reducible exact ih0 _ _ _ _ _ _ _ _ _ _ _ _ _)
      | (with_reducible exact laws_eqMatrix.mono _ _ _ _ _ _ _)
      | (with_reducible exact laws_eqPicture.mono _ _ _ _ _ _ _)
      | (with_reducible exact laws_heldPicture.mono _ _ _ _ _)
      | (with_reducible exact laws_markMatrix.mono _ _ _ _ _)
      | (with_reducible exact laws_markPicture.mono _ _ _ _ _)
      | (with_reducible exact laws_toMatrix.mono _ _ _ _)
      | (with_reducible exact laws_toPicture.mono _ _ _ _)
      | (with_reducible exact spec_ScreenPicture.mono _ _ _ _ _ _ _)
      | (with_reducible exact LeO.refl _)
      | (with_reducible exact LeO.none _)
      | (with_reducible refine LeO.ite ?_ ?_)
      | (with_reducible refine LeO.bind ?_ (fun _ => ?_))
      | exact ih0 _ _ _ _ _ _ _ _ _ _ _ _ _
      | exact laws_eqMatrix.mono _ _ _ _ _ _ _
      | exact laws_eqPicture.mono _ _ _ _ _ _ _
      | exact laws_heldPicture.mono _ _ _ _ _
      | exact laws_markMatrix.mono _ _ _ _ _
      | exact laws_markPicture.mono _ _ _ _ _
      | exact laws_toMatrix.mono _ _ _ _
      | exact laws_toPicture.mono _ _ _ _
      | exact spec_ScreenPicture.mono _ _ _ _ _ _ _
      | exact LeO.none _
      | refine LeO.ite ?_ ?_
      | refine LeO.bind ?_ (fun _ => ?_)
theorem laws_FnExactScreenPicture.mono : ∀ a0 a1 a2 a3 a4 a5 k, LeO (laws_FnExactScreenPicture.f k a0 a1 a2 a3 a4 a5) (laws_FnExactScreenPicture.f (k + 1) a0 a1 a2 a3 a4 a5) := by
  intro a0 a1 a2 a3 a4 a5 k
  have ih0 := laws_FnExactScreenPicture.mono_l k
  unfold laws_FnExactScreenPicture.f
  repeat' first
      | (with_reducible exact ih0 _ _ _ _ _ _ _ _ _ _ _ _ _)
      | (with_reducible exact laws_eqMatrix.mono _ _ _ _ _ _ _)
      | (with_reducible exact laws_eqPicture.mono _ _ _ _ _ _ _)
      | (with_reducible exact laws_heldPicture.mono _ _ _ _ _)
      | (with_reducible exact laws_markMatrix.mono _ _ _ _ _)
      | (with_reducible exact laws_markPicture.mono _ _ _ _ _)
      | (with_reducible exact laws_toMatrix.mono _ _ _ _)
      | (with_reducible exact laws_toPicture.mono _ _ _ _)
      | (with_reducible exact spec_ScreenPicture.mono _ _ _ _ _ _ _)
      | (with_reducible exact LeO.refl _)
      | (with_reducible exact LeO.none _)
      | (with_reducible refine LeO.ite ?_ ?_)
      | (with_reducible refine LeO.bind ?_ (fun _ => ?_))
      | exact ih0 _ _ _ _ _ _ _ _ _ _ _ _ _
      | exact laws_eqMatrix.mono _ _ _ _ _ _ _
      | exact laws_eqPicture.mono _ _ _ _ _ _ _
      | exact laws_heldPicture.mono _ _ _ _ _
      | exact laws_markMatrix.mono _ _ _ _ _
      | exact laws_markPicture.mono _ _ _ _ _
      | exact laws_toMatrix.mono _ _ _ _
      | exact laws_toPicture.mono _ _ _ _
      | exact spec_ScreenPicture.mono _ _ _ _ _ _ _
      | exact LeO.none _
      | refine LeO.ite ?_ ?_
      | refine LeO.bind ?_ (fun _ => ?_)
theorem sB_ {p q : Prop} (h : q) (f : q → p := by (intro h_; (with_reducible repeat (first | refine blk_drewN ?_ _ | refine blk_drew ?_ | refine blk_alloc ?_ _)); exact h_)) : p := f h
theorem sR_ {p q : Prop} (h : q) (f : q → p := by (intro h_; (with_reducible repeat (first | apply Kd.R_alloc | apply Kd.R_drewN | apply Kd.R_drew)); exact h_)) : p := f h
theorem sW_ {p q : Prop} (h : q) (f : q → p := by (intro h_; repeat (first | (with_reducible first | exact h_ | apply below_alloc | apply pw_below_drewN | apply below_drew1 | refine below_set ?_ (Aside0.out (by assumption))) | exact h_))) : p := f h
theorem sL_ {p : Prop} (f : p := by (try simp only [List.map_toArray, List.map_cons, List.map_nil]); first | done | rfl | (simp only [List.length_drop, List.length_take]; rfl)) : p := f
theorem sP_ {p : Prop} (f : p := by (simp only [putAll, Act.put, List.setIfInBounds_toArray, List.set_cons_zero, List.set_cons_succ])) : p := f
set_option maxHeartbeats 8000000 in
set_option maxRecDepth 100000 in
theorem laws_FnExactScreenPicture.calls (k : Nat) (a0_0 : Int) (a0_1 : Int) (A0_2 : Option Addr) (c0_2 : Nat) (l0_2 : List Int) (a1_0 : Int) (a1_1 : Int) (A1_2 : Option Addr) (c1_2 : Nat) (l1_2 : List Int) (r : Bool) (w : World) (hr0_2 : Kd.C (Kd.int .i64) w A0_2 l0_2.length l0_2) (hc0_2 : l0_2.length ≤ c0_2) (hr1_2 : Kd.C (Kd.int .i64) w A1_2 l1_2.length l1_2) (hc1_2 : l1_2.length ≤ c1_2) (hT : Aside0 (r = true)) (h : laws_FnExactScreenPicture.f k a0_0 a0_1 l0_2 a1_0 a1_1 l1_2 = some r) :
  Calls Try.prog 19 #[.agg #[.int .i64 a0_0, .int .i64 a0_1, .slice A0_2 l0_2.length c0_2], .agg #[.int .i64 a1_0, .int .i64 a1_1, .slice A1_2 l1_2.length c1_2]] w fun e w' => e = .returned (.bool r) ∧ Below w.heap.size w w' := by
 have hu55 := Try.underlying55
 have hu48 := Try.underlying48
 have hu41 := Try.underlying41
 have hu26 := Try.underlying26
 have HR0_2 := Aside0.mk hr0_2
 have HC0_2 := Aside0.mk hc0_2
 clear hr0_2 hc0_2
 have HR1_2 := Aside0.mk hr1_2
 have HC1_2 := Aside0.mk hc1_2
 clear hr1_2 hc1_2
 have HB := Aside0.mk (Below.refl w.heap.size w)
 have H : ((laws_szMatrix.f a0_0 a0_1 l0_2 1048576).bind fun t1131 => (if t1131 < 0 then (some true) else ((laws_szPicture.f a1_0 a1_1 l1_2 t1131).bind fun t1132 => (if t1132 < 0 then (some true) else ((laws_toMatrix.f k a0_0 a0_1 l0_2).bind fun bt1133 => ((laws_toPicture.f k a1_0 a1_1 l1_2).bind fun bt1138 => ((spec_ScreenPicture.f k bt1133.1 bt1133.2.1 bt1133.2.2 bt1138.1 bt1138.2.1 bt1138.2.2).bind fun bt1143 => ((laws_toMatrix.f k a0_0 a0_1 l0_2).bind fun bt1149 => ((laws_toPicture.f k a1_0 a1_1 l1_2).bind fun bt1155 => ((impl_ScreenPicture.f bt1149.1 bt1149.2.1 bt1149.2.2 bt1155.1 bt1155.2.1 bt1155.2.2).bind fun bt1161 => ((laws_eqPicture.f k bt1161.1 bt1161.2.1 bt1161.2.2 bt1143.1 bt1143.2.1 bt1143.2.2).bind fun t1167 => (if t1167 = true then ((laws_toMatrix.f k a0_0 a0_1 l0_2).bind fun bt1168 => ((laws_eqMatrix.f k bt1149.1 bt1149.2.1 bt1149.2.2 bt1168.1 bt1168.2.1 bt1168.2.2).bind fun t1173 => (if t1173 = true then ((laws_toPicture.f k a1_0 a1_1 l1_2).bind fun bt1174 => ((laws_eqPicture.f k bt1155.1 bt1155.2.1 bt1155.2.2 bt1174.1 bt1174.2.1 bt1174.2.2).bind fun t1179 => (if t1179 = true then ((laws_markMatrix.f k bt1149.1 bt1149.2.1 bt1149.2.2 1).bind fun bt1180 => ((laws_markPicture.f k bt1155.1 bt1155.2.1 bt1155.2.2 bt1180.1).bind fun bt1182 => (if bt1182.1 < 0 then (laws_FnExactScreenPicture.j0 k true a0_0 a0_1 l0_2 a1_0 a1_1 l1_2 bt1143.1 bt1143.2.1 bt1143.2.2 bt1161.1 bt1161.2.1 bt1161.2.2) else ((laws_eqPicture.f k bt1161.1 bt1161.2.1 bt1161.2.2 bt1143.1 bt1143.2.1 bt1143.2.2).bind fun t1184 => (laws_FnExactScreenPicture.j0 k (!t1184) a0_0 a0_1 l0_2 a1_0 a1_1 l1_2 bt1143.1 bt1143.2.1 bt1143.2.2 bt1161.1 bt1161.2.1 bt1161.2.2))))) else (some false)))) else (some false)))) else (some false))))))))))))) = some r := h
 clear h
 replace H := Option.bind_eq_some_iff.mp H
 obtain ⟨t1131, A30, H⟩ := H
 replace H : (if t1131 < 0 then (some true) else ((laws_szPicture.f a1_0 a1_1 l1_2 t1131).bind fun t1132 => (if t1132 < 0 then (some true) else ((laws_toMatrix.f k a0_0 a0_1 l0_2).bind fun bt1133 => ((laws_toPicture.f k a1_0 a1_1 l1_2).bind fun bt1138 => ((spec_ScreenPicture.f k bt1133.1 bt1133.2.1 bt1133.2.2 bt1138.1 bt1138.2.1 bt1138.2.2).bind fun bt1143 => ((laws_toMatrix.f k a0_0 a0_1 l0_2).bind fun bt1149 => ((laws_toPicture.f k a1_0 a1_1 l1_2).bind fun bt1155 => ((impl_ScreenPicture.f bt1149.1 bt1149.2.1 bt1149.2.2 bt1155.1 bt1155.2.1 bt1155.2.2).bind fun bt1161 => ((laws_eqPicture.f k bt1161.1 bt1161.2.1 bt1161.2.2 bt1143.1 bt1143.2.1 bt1143.2.2).bind fun t1167 => (if t1167 = true then ((laws_toMatrix.f k a0_0 a0_1 l0_2).bind fun bt1168 => ((laws_eqMatrix.f k bt1149.1 bt1149.2.1 bt1149.2.2 bt1168.1 bt1168.2.1 bt1168.2.2).bind fun t1173 => (if t1173 = true then ((laws_toPicture.f k a1_0 a1_1 l1_2).bind fun bt1174 => ((laws_eqPicture.f k bt1155.1 bt1155.2.1 bt1155.2.2 bt1174.1 bt1174.2.1 bt1174.2.2).bind fun t1179 => (if t1179 = true then ((laws_markMatrix.f k bt1149.1 bt1149.2.1 bt1149.2.2 1).bind fun bt1180 => ((laws_markPicture.f k bt1155.1 bt1155.2.1 bt1155.2.2 bt1180.1).bind fun bt1182 => (if bt1182.1 < 0 then (laws_FnExactScreenPicture.j0 k true a0_0 a0_1 l0_2 a1_0 a1_1 l1_2 bt1143.1 bt1143.2.1 bt1143.2.2 bt1161.1 bt1161.2.1 bt1161.2.2) else ((laws_eqPicture.f k bt1161.1 bt1161.2.1 bt1161.2.2 bt1143.1 bt1143.2.1 bt1143.2.2).bind fun t1184 => (laws_FnExactScreenPicture.j0 k (!t1184) a0_0 a0_1 l0_2 a1_0 a1_1 l1_2 bt1143.1 bt1143.2.1 bt1143.2.2 bt1161.1 bt1161.2.1 bt1161.2.2))))) else (some false)))) else (some false)))) else (some false)))))))))))) = some r := H
 have A3 := Aside0.mk A30
 clear A30
 by_cases c4 : t1131 < 0
 ·rw [if_pos c4] at H
  have c4b0 : decide (t1131 < 0) = true := decide_eq_true c4
  clear c4
  obtain rfl := Option.some.inj H
  go_enter Try.func19, Try.ntmps19
  go_wp2_with (first | ((with_reducible refine gate_dst (N := 2) rfl ?_); refine box_event ?hg (N := 2) ?hd (cs := #[.int .i64 a0_0, .int .i64 a0_1, .slice A0_2 l0_2.length c0_2]) (t := 55) ?hr ?_; (case hd => rfl); (case hg => rfl); (case hr => first | (go_simp; done) | (go_simp; rfl)); intro gb1129 hg w5 hbox hb; have n0_ := Aside0.mk (below_step (sW_ HB.out) hb); have n1_ := Aside0.mk (hbox); have n2_ := Aside0.mk ((by rw [hg]; exact (below_size (sW_ HB.out)) : w.heap.size ≤ gb1129)); have n3_ := Aside0.mk ((by rw [hg]; exact (below_size (sW_ HB.out)) : w.heap.size ≤ gb1129)); clear HB; have HB := n0_; have BK1129 := n1_; have GW1129 := n2_; have GE1129 := n3_; clear n0_ n1_ n2_ n3_; clear hb hbox hg) | ((with_reducible refine gate_dst (N := 3) rfl ?_); refine box_event ?hg (N := 3) ?hd (cs := #[.int .i64 a1_0, .int .i64 a1_1, .slice A1_2 l1_2.length c1_2]) (t := 48) ?hr ?_; (case hd => rfl); (case hg => rfl); (case hr => first | (go_simp; done) | (go_simp; rfl)); intro gb1130 hg w6 hbox hb; have n0_ := Aside0.mk (blk_below (sB_ BK1129.out) hb); have n1_ := Aside0.mk (below_step (sW_ HB.out) hb); have n2_ := Aside0.mk (hbox); have n3_ := Aside0.mk ((by rw [hg]; exact (below_size (sW_ HB.out)) : w.heap.size ≤ gb1130)); have n4_ := Aside0.mk ((by rw [hg]; exact (below_size (sW_ HB.out)) : w.heap.size ≤ gb1130)); have n5_ := Aside0.mk ((by rw [hg]; exact Nat.ne_of_lt (blk_lt (sB_ BK1129.out)) : gb1129 ≠ gb1130)); have n6_ := Aside0.mk ((by rw [hg]; exact Nat.ne_of_gt (blk_lt (sB_ BK1129.out)) : gb1130 ≠ gb1129)); clear BK1129; clear HB; have BK1129 := n0_; have HB := n1_; have BK1130 := n2_; have GW1130 := n3_; have GE1130 := n4_; have NB1129_1130 := n5_; have NB1130_1129 := n6_; clear n0_ n1_ n2_ n3_ n4_ n5_ n6_; clear hb hbox hg; have hnb7 := NB1129_1130.out; have hnc7 := NB1130_1129.out; have hcz8_0 : w6.cell? ⟨gb1129, 0, none⟩ = some (.int .i64 a0_0) := (blk_cell BK1129.out 0).trans rfl; have hcz8_1 : w6.cell? ⟨gb1129, 1, none⟩ = some (.int .i64 a0_1) := (blk_cell BK1129.out 1).trans rfl; have hcz8_2 : w6.cell? ⟨gb1129, 2, none⟩ = some (.slice A0_2 l0_2.length c0_2) := (blk_cell BK1129.out 2).trans rfl; have hfz8_0 := blk_frozen BK1129.out 0; have hfz8_1 := blk_frozen BK1129.out 1; have hfz8_2 := blk_frozen BK1129.out 2) | ((with_reducible refine gate_callee (f := 56) rfl ?_); refine goesL_ (some 16) rfl rfl Try.func56 (by kernel_rfl) rfl #[.agg #[.int .i64 a0_0, .int .i64 a0_1, .slice A0_2 l0_2.length c0_2], .int .i64 1048576] rfl sL_ ?_; (with_reducible refine (laws_szMatrix.calls a0_0 a0_1 _ _ l0_2 1048576 t1131 _ ?side1 ?side2 A3.out).mono ?_); (case side1 => repeat (first | exact (Kd.C_below HR0_2.out HB.out) | (with_reducible refine Kd.C_alloc ?_ _) | (with_reducible refine Kd.C_drewN ?_ _) | (with_reducible refine Kd.C_drew ?_))); (case side2 => exact HC0_2.out); rintro e w9 ⟨rfl, hb⟩; refine ⟨_, rfl, ?_⟩; have n0_ := Aside0.mk (blk_below (sB_ BK1129.out) hb); have n1_ := Aside0.mk (blk_below (sB_ BK1130.out) hb); have n2_ := Aside0.mk (below_step (sW_ HB.out) hb); clear BK1129; clear BK1130; clear HB; have BK1129 := n0_; have BK1130 := n1_; have HB := n2_; clear n0_ n1_ n2_; (try clear hb); (try clear hb2); (try clear hk); (try clear hi)))
  go_ret
  exact ⟨by first | rfl | (simp [errW_none, errW_some] <;> rfl) | (simp [*, errW_none, errW_some] <;> rfl), by repeat (first | (with_reducible first | exact HB.out | apply below_alloc | apply pw_below_drewN | apply below_drew1 | refine below_set ?_ GE1129.out | refine below_set ?_ GE1130.out) | exact HB.out)⟩
 ·rw [if_neg c4] at H
  have c4b0 : decide (t1131 < 0) = false := decide_eq_false c4
  clear c4
  replace H := Option.bind_eq_some_iff.mp H
  obtain ⟨t1132, A100, H⟩ := H
  replace H : (if t1132 < 0 then (some true) else ((laws_toMatrix.f k a0_0 a0_1 l0_2).bind fun bt1133 => ((laws_toPicture.f k a1_0 a1_1 l1_2).bind fun bt1138 => ((spec_ScreenPicture.f k bt1133.1 bt1133.2.1 bt1133.2.2 bt1138.1 bt1138.2.1 bt1138.2.2).bind fun bt1143 => ((laws_toMatrix.f k a0_0 a0_1 l0_2).bind fun bt1149 => ((laws_toPicture.f k a1_0 a1_1 l1_2).bind fun bt1155 => ((impl_ScreenPicture.f bt1149.1 bt1149.2.1 bt1149.2.2 bt1155.1 bt1155.2.1 bt1155.2.2).bind fun bt1161 => ((laws_eqPicture.f k bt1161.1 bt1161.2.1 bt1161.2.2 bt1143.1 bt1143.2.1 bt1143.2.2).bind fun t1167 => (if t1167 = true then ((laws_toMatrix.f k a0_0 a0_1 l0_2).bind fun bt1168 => ((laws_eqMatrix.f k bt1149.1 bt1149.2.1 bt1149.2.2 bt1168.1 bt1168.2.1 bt1168.2.2).bind fun t1173 => (if t1173 = true then ((laws_toPicture.f k a1_0 a1_1 l1_2).bind fun bt1174 => ((laws_eqPicture.f k bt1155.1 bt1155.2.1 bt1155.2.2 bt1174.1 bt1174.2.1 bt1174.2.2).bind fun t1179 => (if t1179 = true then ((laws_markMatrix.f k bt1149.1 bt1149.2.1 bt1149.2.2 1).bind fun bt1180 => ((laws_markPicture.f k bt1155.1 bt1155.2.1 bt1155.2.2 bt1180.1).bind fun bt1182 => (if bt1182.1 < 0 then (laws_FnExactScreenPicture.j0 k true a0_0 a0_1 l0_2 a1_0 a1_1 l1_2 bt1143.1 bt1143.2.1 bt1143.2.2 bt1161.1 bt1161.2.1 bt1161.2.2) else ((laws_eqPicture.f k bt1161.1 bt1161.2.1 bt1161.2.2 bt1143.1 bt1143.2.1 bt1143.2.2).bind fun t1184 => (laws_FnExactScreenPicture.j0 k (!t1184) a0_0 a0_1 l0_2 a1_0 a1_1 l1_2 bt1143.1 bt1143.2.1 bt1143.2.2 bt1161.1 bt1161.2.1 bt1161.2.2))))) else (some false)))) else (some false)))) else (some false)))))))))) = some r := H
  have A10 := Aside0.mk A100
  clear A100
  by_cases c11 : t1132 < 0
  ·rw [if_pos c11] at H
   have c11b0 : decide (t1132 < 0) = true := decide_eq_true c11
   clear c11
   obtain rfl := Option.some.inj H
   go_enter Try.func19, Try.ntmps19
   go_wp2_with (first | ((with_reducible refine gate_dst (N := 2) rfl ?_); refine box_event ?hg (N := 2) ?hd (cs := #[.int .i64 a0_0, .int .i64 a0_1, .slice A0_2 l0_2.length c0_2]) (t := 55) ?hr ?_; (case hd => rfl); (case hg => rfl); (case hr => first | (go_simp; done) | (go_simp; rfl)); intro gb1129 hg w12 hbox hb; have n0_ := Aside0.mk (below_step (sW_ HB.out) hb); have n1_ := Aside0.mk (hbox); have n2_ := Aside0.mk ((by rw [hg]; exact (below_size (sW_ HB.out)) : w.heap.size ≤ gb1129)); have n3_ := Aside0.mk ((by rw [hg]; exact (below_size (sW_ HB.out)) : w.heap.size ≤ gb1129)); clear HB; have HB := n0_; have BK1129 := n1_; have GW1129 := n2_; have GE1129 := n3_; clear n0_ n1_ n2_ n3_; clear hb hbox hg) | ((with_reducible refine gate_dst (N := 3) rfl ?_); refine box_event ?hg (N := 3) ?hd (cs := #[.int .i64 a1_0, .int .i64 a1_1, .slice A1_2 l1_2.length c1_2]) (t := 48) ?hr ?_; (case hd => rfl); (case hg => rfl); (case hr => first | (go_simp; done) | (go_simp; rfl)); intro gb1130 hg w13 hbox hb; have n0_ := Aside0.mk (blk_below (sB_ BK1129.out) hb); have n1_ := Aside0.mk (below_step (sW_ HB.out) hb); have n2_ := Aside0.mk (hbox); have n3_ := Aside0.mk ((by rw [hg]; exact (below_size (sW_ HB.out)) : w.heap.size ≤ gb1130)); have n4_ := Aside0.mk ((by rw [hg]; exact (below_size (sW_ HB.out)) : w.heap.size ≤ gb1130)); have n5_ := Aside0.mk ((by rw [hg]; exact Nat.ne_of_lt (blk_lt (sB_ BK1129.out)) : gb1129 ≠ gb1130)); have n6_ := Aside0.mk ((by rw [hg]; exact Nat.ne_of_gt (blk_lt (sB_ BK1129.out)) : gb1130 ≠ gb1129)); clear BK1129; clear HB; have BK1129 := n0_; have HB := n1_; have BK1130 := n2_; have GW1130 := n3_; have GE1130 := n4_; have NB1129_1130 := n5_; have NB1130_1129 := n6_; clear n0_ n1_ n2_ n3_ n4_ n5_ n6_; clear hb hbox hg; have hnb14 := NB1129_1130.out; have hnc14 := NB1130_1129.out; have hcz15_0 : w13.cell? ⟨gb1129, 0, none⟩ = some (.int .i64 a0_0) := (blk_cell BK1129.out 0).trans rfl; have hcz15_1 : w13.cell? ⟨gb1129, 1, none⟩ = some (.int .i64 a0_1) := (blk_cell BK1129.out 1).trans rfl; have hcz15_2 : w13.cell? ⟨gb1129, 2, none⟩ = some (.slice A0_2 l0_2.length c0_2) := (blk_cell BK1129.out 2).trans rfl; have hfz15_0 := blk_frozen BK1129.out 0; have hfz15_1 := blk_frozen BK1129.out 1; have hfz15_2 := blk_frozen BK1129.out 2) | ((with_reducible refine gate_callee (f := 56) rfl ?_); refine goesL_ (some 16) rfl rfl Try.func56 (by kernel_rfl) rfl #[.agg #[.int .i64 a0_0, .int .i64 a0_1, .slice A0_2 l0_2.length c0_2], .int .i64 1048576] rfl sL_ ?_; (with_reducible refine (laws_szMatrix.calls a0_0 a0_1 _ _ l0_2 1048576 t1131 _ ?side1 ?side2 A3.out).mono ?_); (case side1 => repeat (first | exact (Kd.C_below HR0_2.out HB.out) | (with_reducible refine Kd.C_alloc ?_ _) | (with_reducible refine Kd.C_drewN ?_ _) | (with_reducible refine Kd.C_drew ?_))); (case side2 => exact HC0_2.out); rintro e w16 ⟨rfl, hb⟩; refine ⟨_, rfl, ?_⟩; have n0_ := Aside0.mk (blk_below (sB_ BK1129.out) hb); have n1_ := Aside0.mk (blk_below (sB_ BK1130.out) hb); have n2_ := Aside0.mk (below_step (sW_ HB.out) hb); clear BK1129; clear BK1130; clear HB; have BK1129 := n0_; have BK1130 := n1_; have HB := n2_; clear n0_ n1_ n2_; (try clear hb); (try clear hb2); (try clear hk); (try clear hi); have hcz17_0 : w16.cell? ⟨gb1130, 0, none⟩ = some (.int .i64 a1_0) := (blk_cell BK1130.out 0).trans rfl; have hcz17_1 : w16.cell? ⟨gb1130, 1, none⟩ = some (.int .i64 a1_1) := (blk_cell BK1130.out 1).trans rfl; have hcz17_2 : w16.cell? ⟨gb1130, 2, none⟩ = some (.slice A1_2 l1_2.length c1_2) := (blk_cell BK1130.out 2).trans rfl; have hfz17_0 := blk_frozen BK1130.out 0; have hfz17_1 := blk_frozen BK1130.out 1; have hfz17_2 := blk_frozen BK1130.out 2) | ((with_reducible refine gate_callee (f := 46) rfl ?_); refine goesL_ (some 21) rfl rfl Try.func46 (by kernel_rfl) rfl #[.agg #[.int .i64 a1_0, .int .i64 a1_1, .slice A1_2 l1_2.length c1_2], .int .i64 t1131] rfl sL_ ?_; (with_reducible refine (laws_szPicture.calls a1_0 a1_1 _ _ l1_2 t1131 t1132 _ ?side1 ?side2 A10.out).mono ?_); (case side1 => repeat (first | exact (Kd.C_below HR1_2.out HB.out) | (with_reducible refine Kd.C_alloc ?_ _) | (with_reducible refine Kd.C_drewN ?_ _) | (with_reducible refine Kd.C_drew ?_))); (case side2 => exact HC1_2.out); rintro e w18 ⟨rfl, hb⟩; refine ⟨_, rfl, ?_⟩; have n0_ := Aside0.mk (blk_below (sB_ BK1129.out) hb); have n1_ := Aside0.mk (blk_below (sB_ BK1130.out) hb); have n2_ := Aside0.mk (below_step (sW_ HB.out) hb); clear BK1129; clear BK1130; clear HB; have BK1129 := n0_; have BK1130 := n1_; have HB := n2_; clear n0_ n1_ n2_; (try clear hb); (try clear hb2); (try clear hk); (try clear hi)))
   go_ret
   exact ⟨by first | rfl | (simp [errW_none, errW_some] <;> rfl) | (simp [*, errW_none, errW_some] <;> rfl), by repeat (first | (with_reducible first | exact HB.out | apply below_alloc | apply pw_below_drewN | apply below_drew1 | refine below_set ?_ GE1129.out | refine below_set ?_ GE1130.out) | exact HB.out)⟩
  ·rw [if_neg c11] at H
   have c11b0 : decide (t1132 < 0) = false := decide_eq_false c11
   clear c11
   replace H := Option.bind_eq_some_iff.mp H
   obtain ⟨⟨t1133, t1134, t1135⟩, A190, H⟩ := H
   replace H : ((laws_toPicture.f k a1_0 a1_1 l1_2).bind fun bt1138 => ((spec_ScreenPicture.f k t1133 t1134 t1135 bt1138.1 bt1138.2.1 bt1138.2.2).bind fun bt1143 => ((laws_toMatrix.f k a0_0 a0_1 l0_2).bind fun bt1149 => ((laws_toPicture.f k a1_0 a1_1 l1_2).bind fun bt1155 => ((impl_ScreenPicture.f bt1149.1 bt1149.2.1 bt1149.2.2 bt1155.1 bt1155.2.1 bt1155.2.2).bind fun bt1161 => ((laws_eqPicture.f k bt1161.1 bt1161.2.1 bt1161.2.2 bt1143.1 bt1143.2.1 bt1143.2.2).bind fun t1167 => (if t1167 = true then ((laws_toMatrix.f k a0_0 a0_1 l0_2).bind fun bt1168 => ((laws_eqMatrix.f k bt1149.1 bt1149.2.1 bt1149.2.2 bt1168.1 bt1168.2.1 bt1168.2.2).bind fun t1173 => (if t1173 = true then ((laws_toPicture.f k a1_0 a1_1 l1_2).bind fun bt1174 => ((laws_eqPicture.f k bt1155.1 bt1155.2.1 bt1155.2.2 bt1174.1 bt1174.2.1 bt1174.2.2).bind fun t1179 => (if t1179 = true then ((laws_markMatrix.f k bt1149.1 bt1149.2.1 bt1149.2.2 1).bind fun bt1180 => ((laws_markPicture.f k bt1155.1 bt1155.2.1 bt1155.2.2 bt1180.1).bind fun bt1182 => (if bt1182.1 < 0 then (laws_FnExactScreenPicture.j0 k true a0_0 a0_1 l0_2 a1_0 a1_1 l1_2 bt1143.1 bt1143.2.1 bt1143.2.2 bt1161.1 bt1161.2.1 bt1161.2.2) else ((laws_eqPicture.f k bt1161.1 bt1161.2.1 bt1161.2.2 bt1143.1 bt1143.2.1 bt1143.2.2).bind fun t1184 => (laws_FnExactScreenPicture.j0 k (!t1184) a0_0 a0_1 l0_2 a1_0 a1_1 l1_2 bt1143.1 bt1143.2.1 bt1143.2.2 bt1161.1 bt1161.2.1 bt1161.2.2))))) else (some false)))) else (some false)))) else (some false)))))))) = some r := H
   have A19 := Aside0.mk A190
   clear A190
   replace H := Option.bind_eq_some_iff.mp H
   obtain ⟨⟨t1138, t1139, t1140⟩, A200, H⟩ := H
   replace H : ((spec_ScreenPicture.f k t1133 t1134 t1135 t1138 t1139 t1140).bind fun bt1143 => ((laws_toMatrix.f k a0_0 a0_1 l0_2).bind fun bt1149 => ((laws_toPicture.f k a1_0 a1_1 l1_2).bind fun bt1155 => ((impl_ScreenPicture.f bt1149.1 bt1149.2.1 bt1149.2.2 bt1155.1 bt1155.2.1 bt1155.2.2).bind fun bt1161 => ((laws_eqPicture.f k bt1161.1 bt1161.2.1 bt1161.2.2 bt1143.1 bt1143.2.1 bt1143.2.2).bind fun t1167 => (if t1167 = true then ((laws_toMatrix.f k a0_0 a0_1 l0_2).bind fun bt1168 => ((laws_eqMatrix.f k bt1149.1 bt1149.2.1 bt1149.2.2 bt1168.1 bt1168.2.1 bt1168.2.2).bind fun t1173 => (if t1173 = true then ((laws_toPicture.f k a1_0 a1_1 l1_2).bind fun bt1174 => ((laws_eqPicture.f k bt1155.1 bt1155.2.1 bt1155.2.2 bt1174.1 bt1174.2.1 bt1174.2.2).bind fun t1179 => (if t1179 = true then ((laws_markMatrix.f k bt1149.1 bt1149.2.1 bt1149.2.2 1).bind fun bt1180 => ((laws_markPicture.f k bt1155.1 bt1155.2.1 bt1155.2.2 bt1180.1).bind fun bt1182 => (if bt1182.1 < 0 then (laws_FnExactScreenPicture.j0 k true a0_0 a0_1 l0_2 a1_0 a1_1 l1_2 bt1143.1 bt1143.2.1 bt1143.2.2 bt1161.1 bt1161.2.1 bt1161.2.2) else ((laws_eqPicture.f k bt1161.1 bt1161.2.1 bt1161.2.2 bt1143.1 bt1143.2.1 bt1143.2.2).bind fun t1184 => (laws_FnExactScreenPicture.j0 k (!t1184) a0_0 a0_1 l0_2 a1_0 a1_1 l1_2 bt1143.1 bt1143.2.1 bt1143.2.2 bt1161.1 bt1161.2.1 bt1161.2.2))))) else (some false)))) else (some false)))) else (some false))))))) = some r := H
   have A20 := Aside0.mk A200
   clear A200
   replace H := Option.bind_eq_some_iff.mp H
   obtain ⟨⟨t1143, t1144, t1145⟩, A210, H⟩ := H
   replace H : ((laws_toMatrix.f k a0_0 a0_1 l0_2).bind fun bt1149 => ((laws_toPicture.f k a1_0 a1_1 l1_2).bind fun bt1155 => ((impl_ScreenPicture.f bt1149.1 bt1149.2.1 bt1149.2.2 bt1155.1 bt1155.2.1 bt1155.2.2).bind fun bt1161 => ((laws_eqPicture.f k bt1161.1 bt1161.2.1 bt1161.2.2 t1143 t1144 t1145).bind fun t1167 => (if t1167 = true then ((laws_toMatrix.f k a0_0 a0_1 l0_2).bind fun bt1168 => ((laws_eqMatrix.f k bt1149.1 bt1149.2.1 bt1149.2.2 bt1168.1 bt1168.2.1 bt1168.2.2).bind fun t1173 => (if t1173 = true then ((laws_toPicture.f k a1_0 a1_1 l1_2).bind fun bt1174 => ((laws_eqPicture.f k bt1155.1 bt1155.2.1 bt1155.2.2 bt1174.1 bt1174.2.1 bt1174.2.2).bind fun t1179 => (if t1179 = true then ((laws_markMatrix.f k bt1149.1 bt1149.2.1 bt1149.2.2 1).bind fun bt1180 => ((laws_markPicture.f k bt1155.1 bt1155.2.1 bt1155.2.2 bt1180.1).bind fun bt1182 => (if bt1182.1 < 0 then (laws_FnExactScreenPicture.j0 k true a0_0 a0_1 l0_2 a1_0 a1_1 l1_2 t1143 t1144 t1145 bt1161.1 bt1161.2.1 bt1161.2.2) else ((laws_eqPicture.f k bt1161.1 bt1161.2.1 bt1161.2.2 t1143 t1144 t1145).bind fun t1184 => (laws_FnExactScreenPicture.j0 k (!t1184) a0_0 a0_1 l0_2 a1_0 a1_1 l1_2 t1143 t1144 t1145 bt1161.1 bt1161.2.1 bt1161.2.2))))) else (some false)))) else (some false)))) else (some false)))))) = some r := H
   have A21 := Aside0.mk A210
   clear A210
   replace H := Option.bind_eq_some_iff.mp H
   obtain ⟨⟨t1149, t1150, t1151⟩, A220, H⟩ := H
   replace H : ((laws_toPicture.f k a1_0 a1_1 l1_2).bind fun bt1155 => ((impl_ScreenPicture.f t1149 t1150 t1151 bt1155.1 bt1155.2.1 bt1155.2.2).bind fun bt1161 => ((laws_eqPicture.f k bt1161.1 bt1161.2.1 bt1161.2.2 t1143 t1144 t1145).bind fun t1167 => (if t1167 = true then ((laws_toMatrix.f k a0_0 a0_1 l0_2).bind fun bt1168 => ((laws_eqMatrix.f k t1149 t1150 t1151 bt1168.1 bt1168.2.1 bt1168.2.2).bind fun t1173 => (if t1173 = true then ((laws_toPicture.f k a1_0 a1_1 l1_2).bind fun bt1174 => ((laws_eqPicture.f k bt1155.1 bt1155.2.1 bt1155.2.2 bt1174.1 bt1174.2.1 bt1174.2.2).bind fun t1179 => (if t1179 = true then ((laws_markMatrix.f k t1149 t1150 t1151 1).bind fun bt1180 => ((laws_markPicture.f k bt1155.1 bt1155.2.1 bt1155.2.2 bt1180.1).bind fun bt1182 => (if bt1182.1 < 0 then (laws_FnExactScreenPicture.j0 k true a0_0 a0_1 l0_2 a1_0 a1_1 l1_2 t1143 t1144 t1145 bt1161.1 bt1161.2.1 bt1161.2.2) else ((laws_eqPicture.f k bt1161.1 bt1161.2.1 bt1161.2.2 t1143 t1144 t1145).bind fun t1184 => (laws_FnExactScreenPicture.j0 k (!t1184) a0_0 a0_1 l0_2 a1_0 a1_1 l1_2 t1143 t1144 t1145 bt1161.1 bt1161.2.1 bt1161.2.2))))) else (some false)))) else (some false)))) else (some false))))) = some r := H
   have A22 := Aside0.mk A220
   clear A220
   replace H := Option.bind_eq_some_iff.mp H
   obtain ⟨⟨t1155, t1156, t1157⟩, A230, H⟩ := H
   replace H : ((impl_ScreenPicture.f t1149 t1150 t1151 t1155 t1156 t1157).bind fun bt1161 => ((laws_eqPicture.f k bt1161.1 bt1161.2.1 bt1161.2.2 t1143 t1144 t1145).bind fun t1167 => (if t1167 = true then ((laws_toMatrix.f k a0_0 a0_1 l0_2).bind fun bt1168 => ((laws_eqMatrix.f k t1149 t1150 t1151 bt1168.1 bt1168.2.1 bt1168.2.2).bind fun t1173 => (if t1173 = true then ((laws_toPicture.f k a1_0 a1_1 l1_2).bind fun bt1174 => ((laws_eqPicture.f k t1155 t1156 t1157 bt1174.1 bt1174.2.1 bt1174.2.2).bind fun t1179 => (if t1179 = true then ((laws_markMatrix.f k t1149 t1150 t1151 1).bind fun bt1180 => ((laws_markPicture.f k t1155 t1156 t1157 bt1180.1).bind fun bt1182 => (if bt1182.1 < 0 then (laws_FnExactScreenPicture.j0 k true a0_0 a0_1 l0_2 a1_0 a1_1 l1_2 t1143 t1144 t1145 bt1161.1 bt1161.2.1 bt1161.2.2) else ((laws_eqPicture.f k bt1161.1 bt1161.2.1 bt1161.2.2 t1143 t1144 t1145).bind fun t1184 => (laws_FnExactScreenPicture.j0 k (!t1184) a0_0 a0_1 l0_2 a1_0 a1_1 l1_2 t1143 t1144 t1145 bt1161.1 bt1161.2.1 bt1161.2.2))))) else (some false)))) else (some false)))) else (some false)))) = some r := H
   have A23 := Aside0.mk A230
   clear A230
   replace H := Option.bind_eq_some_iff.mp H
   obtain ⟨⟨t1161, t1162, t1163⟩, A240, H⟩ := H
   replace H : ((laws_eqPicture.f k t1161 t1162 t1163 t1143 t1144 t1145).bind fun t1167 => (if t1167 = true then ((laws_toMatrix.f k a0_0 a0_1 l0_2).bind fun bt1168 => ((laws_eqMatrix.f k t1149 t1150 t1151 bt1168.1 bt1168.2.1 bt1168.2.2).bind fun t1173 => (if t1173 = true then ((laws_toPicture.f k a1_0 a1_1 l1_2).bind fun bt1174 => ((laws_eqPicture.f k t1155 t1156 t1157 bt1174.1 bt1174.2.1 bt1174.2.2).bind fun t1179 => (if t1179 = true then ((laws_markMatrix.f k t1149 t1150 t1151 1).bind fun bt1180 => ((laws_markPicture.f k t1155 t1156 t1157 bt1180.1).bind fun bt1182 => (if bt1182.1 < 0 then (laws_FnExactScreenPicture.j0 k true a0_0 a0_1 l0_2 a1_0 a1_1 l1_2 t1143 t1144 t1145 t1161 t1162 t1163) else ((laws_eqPicture.f k t1161 t1162 t1163 t1143 t1144 t1145).bind fun t1184 => (laws_FnExactScreenPicture.j0 k (!t1184) a0_0 a0_1 l0_2 a1_0 a1_1 l1_2 t1143 t1144 t1145 t1161 t1162 t1163))))) else (some false)))) else (some false)))) else (some false))) = some r := H
   have A24 := Aside0.mk A240
   clear A240
   replace H := Option.bind_eq_some_iff.mp H
   obtain ⟨t1167, A250, H⟩ := H
   replace H : (if t1167 = true then ((laws_toMatrix.f k a0_0 a0_1 l0_2).bind fun bt1168 => ((laws_eqMatrix.f k t1149 t1150 t1151 bt1168.1 bt1168.2.1 bt1168.2.2).bind fun t1173 => (if t1173 = true then ((laws_toPicture.f k a1_0 a1_1 l1_2).bind fun bt1174 => ((laws_eqPicture.f k t1155 t1156 t1157 bt1174.1 bt1174.2.1 bt1174.2.2).bind fun t1179 => (if t1179 = true then ((laws_markMatrix.f k t1149 t1150 t1151 1).bind fun bt1180 => ((laws_markPicture.f k t1155 t1156 t1157 bt1180.1).bind fun bt1182 => (if bt1182.1 < 0 then (laws_FnExactScreenPicture.j0 k true a0_0 a0_1 l0_2 a1_0 a1_1 l1_2 t1143 t1144 t1145 t1161 t1162 t1163) else ((laws_eqPicture.f k t1161 t1162 t1163 t1143 t1144 t1145).bind fun t1184 => (laws_FnExactScreenPicture.j0 k (!t1184) a0_0 a0_1 l0_2 a1_0 a1_1 l1_2 t1143 t1144 t1145 t1161 t1162 t1163))))) else (some false)))) else (some false)))) else (some false)) = some r := H
   have A25 := Aside0.mk A250
   clear A250
   by_cases c26 : t1167 = true
   ·subst c26
    have H1 : ((laws_toMatrix.f k a0_0 a0_1 l0_2).bind fun bt1168 => ((laws_eqMatrix.f k t1149 t1150 t1151 bt1168.1 bt1168.2.1 bt1168.2.2).bind fun t1173 => (if t1173 = true then ((laws_toPicture.f k a1_0 a1_1 l1_2).bind fun bt1174 => ((laws_eqPicture.f k t1155 t1156 t1157 bt1174.1 bt1174.2.1 bt1174.2.2).bind fun t1179 => (if t1179 = true then ((laws_markMatrix.f k t1149 t1150 t1151 1).bind fun bt1180 => ((laws_markPicture.f k t1155 t1156 t1157 bt1180.1).bind fun bt1182 => (if bt1182.1 < 0 then (laws_FnExactScreenPicture.j0 k true a0_0 a0_1 l0_2 a1_0 a1_1 l1_2 t1143 t1144 t1145 t1161 t1162 t1163) else ((laws_eqPicture.f k t1161 t1162 t1163 t1143 t1144 t1145).bind fun t1184 => (laws_FnExactScreenPicture.j0 k (!t1184) a0_0 a0_1 l0_2 a1_0 a1_1 l1_2 t1143 t1144 t1145 t1161 t1162 t1163))))) else (some false)))) else (some false)))) = some r := by rw [if_pos rfl] at H; exact H
    clear H; have H := H1; clear H1
    replace H := Option.bind_eq_some_iff.mp H
    obtain ⟨⟨t1168, t1169, t1170⟩, A270, H⟩ := H
    replace H : ((laws_eqMatrix.f k t1149 t1150 t1151 t1168 t1169 t1170).bind fun t1173 => (if t1173 = true then ((laws_toPicture.f k a1_0 a1_1 l1_2).bind fun bt1174 => ((laws_eqPicture.f k t1155 t1156 t1157 bt1174.1 bt1174.2.1 bt1174.2.2).bind fun t1179 => (if t1179 = true then ((laws_markMatrix.f k t1149 t1150 t1151 1).bind fun bt1180 => ((laws_markPicture.f k t1155 t1156 t1157 bt1180.1).bind fun bt1182 => (if bt1182.1 < 0 then (laws_FnExactScreenPicture.j0 k true a0_0 a0_1 l0_2 a1_0 a1_1 l1_2 t1143 t1144 t1145 t1161 t1162 t1163) else ((laws_eqPicture.f k t1161 t1162 t1163 t1143 t1144 t1145).bind fun t1184 => (laws_FnExactScreenPicture.j0 k (!t1184) a0_0 a0_1 l0_2 a1_0 a1_1 l1_2 t1143 t1144 t1145 t1161 t1162 t1163))))) else (some false)))) else (some false))) = some r := H
    have A27 := Aside0.mk A270
    clear A270
    replace H := Option.bind_eq_some_iff.mp H
    obtain ⟨t1173, A280, H⟩ := H
    replace H : (if t1173 = true then ((laws_toPicture.f k a1_0 a1_1 l1_2).bind fun bt1174 => ((laws_eqPicture.f k t1155 t1156 t1157 bt1174.1 bt1174.2.1 bt1174.2.2).bind fun t1179 => (if t1179 = true then ((laws_markMatrix.f k t1149 t1150 t1151 1).bind fun bt1180 => ((laws_markPicture.f k t1155 t1156 t1157 bt1180.1).bind fun bt1182 => (if bt1182.1 < 0 then (laws_FnExactScreenPicture.j0 k true a0_0 a0_1 l0_2 a1_0 a1_1 l1_2 t1143 t1144 t1145 t1161 t1162 t1163) else ((laws_eqPicture.f k t1161 t1162 t1163 t1143 t1144 t1145).bind fun t1184 => (laws_FnExactScreenPicture.j0 k (!t1184) a0_0 a0_1 l0_2 a1_0 a1_1 l1_2 t1143 t1144 t1145 t1161 t1162 t1163))))) else (some false)))) else (some false)) = some r := H
    have A28 := Aside0.mk A280
    clear A280
    by_cases c29 : t1173 = true
    ·subst c29
     have H1 : ((laws_toPicture.f k a1_0 a1_1 l1_2).bind fun bt1174 => ((laws_eqPicture.f k t1155 t1156 t1157 bt1174.1 bt1174.2.1 bt1174.2.2).bind fun t1179 => (if t1179 = true then ((laws_markMatrix.f k t1149 t1150 t1151 1).bind fun bt1180 => ((laws_markPicture.f k t1155 t1156 t1157 bt1180.1).bind fun bt1182 => (if bt1182.1 < 0 then (laws_FnExactScreenPicture.j0 k true a0_0 a0_1 l0_2 a1_0 a1_1 l1_2 t1143 t1144 t1145 t1161 t1162 t1163) else ((laws_eqPicture.f k t1161 t1162 t1163 t1143 t1144 t1145).bind fun t1184 => (laws_FnExactScreenPicture.j0 k (!t1184) a0_0 a0_1 l0_2 a1_0 a1_1 l1_2 t1143 t1144 t1145 t1161 t1162 t1163))))) else (some false)))) = some r := by rw [if_pos rfl] at H; exact H
     clear H; have H := H1; clear H1
     replace H := Option.bind_eq_some_iff.mp H
     obtain ⟨⟨t1174, t1175, t1176⟩, A300, H⟩ := H
     replace H : ((laws_eqPicture.f k t1155 t1156 t1157 t1174 t1175 t1176).bind fun t1179 => (if t1179 = true then ((laws_markMatrix.f k t1149 t1150 t1151 1).bind fun bt1180 => ((laws_markPicture.f k t1155 t1156 t1157 bt1180.1).bind fun bt1182 => (if bt1182.1 < 0 then (laws_FnExactScreenPicture.j0 k true a0_0 a0_1 l0_2 a1_0 a1_1 l1_2 t1143 t1144 t1145 t1161 t1162 t1163) else ((laws_eqPicture.f k t1161 t1162 t1163 t1143 t1144 t1145).bind fun t1184 => (laws_FnExactScreenPicture.j0 k (!t1184) a0_0 a0_1 l0_2 a1_0 a1_1 l1_2 t1143 t1144 t1145 t1161 t1162 t1163))))) else (some false))) = some r := H
     have A30 := Aside0.mk A300
     clear A300
     replace H := Option.bind_eq_some_iff.mp H
     obtain ⟨t1179, A310, H⟩ := H
     replace H : (if t1179 = true then ((laws_markMatrix.f k t1149 t1150 t1151 1).bind fun bt1180 => ((laws_markPicture.f k t1155 t1156 t1157 bt1180.1).bind fun bt1182 => (if bt1182.1 < 0 then (laws_FnExactScreenPicture.j0 k true a0_0 a0_1 l0_2 a1_0 a1_1 l1_2 t1143 t1144 t1145 t1161 t1162 t1163) else ((laws_eqPicture.f k t1161 t1162 t1163 t1143 t1144 t1145).bind fun t1184 => (laws_FnExactScreenPicture.j0 k (!t1184) a0_0 a0_1 l0_2 a1_0 a1_1 l1_2 t1143 t1144 t1145 t1161 t1162 t1163))))) else (some false)) = some r := H
     have A31 := Aside0.mk A310
     clear A310
     by_cases c32 : t1179 = true
     ·subst c32
      have H1 : ((laws_markMatrix.f k t1149 t1150 t1151 1).bind fun bt1180 => ((laws_markPicture.f k t1155 t1156 t1157 bt1180.1).bind fun bt1182 => (if bt1182.1 < 0 then (laws_FnExactScreenPicture.j0 k true a0_0 a0_1 l0_2 a1_0 a1_1 l1_2 t1143 t1144 t1145 t1161 t1162 t1163) else ((laws_eqPicture.f k t1161 t1162 t1163 t1143 t1144 t1145).bind fun t1184 => (laws_FnExactScreenPicture.j0 k (!t1184) a0_0 a0_1 l0_2 a1_0 a1_1 l1_2 t1143 t1144 t1145 t1161 t1162 t1163))))) = some r := by rw [if_pos rfl] at H; exact H
      clear H; have H := H1; clear H1
      replace H := Option.bind_eq_some_iff.mp H
      obtain ⟨⟨t1180, t1181⟩, A330, H⟩ := H
      replace H : ((laws_markPicture.f k t1155 t1156 t1157 t1180).bind fun bt1182 => (if bt1182.1 < 0 then (laws_FnExactScreenPicture.j0 k true a0_0 a0_1 l0_2 a1_0 a1_1 l1_2 t1143 t1144 t1145 t1161 t1162 t1163) else ((laws_eqPicture.f k t1161 t1162 t1163 t1143 t1144 t1145).bind fun t1184 => (laws_FnExactScreenPicture.j0 k (!t1184) a0_0 a0_1 l0_2 a1_0 a1_1 l1_2 t1143 t1144 t1145 t1161 t1162 t1163)))) = some r := H
      have A33 := Aside0.mk A330
      clear A330
      replace H := Option.bind_eq_some_iff.mp H
      obtain ⟨⟨t1182, t1183⟩, A340, H⟩ := H
      replace H : (if t1182 < 0 then (laws_FnExactScreenPicture.j0 k true a0_0 a0_1 l0_2 a1_0 a1_1 l1_2 t1143 t1144 t1145 t1161 t1162 t1163) else ((laws_eqPicture.f k t1161 t1162 t1163 t1143 t1144 t1145).bind fun t1184 => (laws_FnExactScreenPicture.j0 k (!t1184) a0_0 a0_1 l0_2 a1_0 a1_1 l1_2 t1143 t1144 t1145 t1161 t1162 t1163))) = some r := H
      have A34 := Aside0.mk A340
      clear A340
      have HC35 := Aside0.mk H
      clear H
      go_enter Try.func19, Try.ntmps19
      try go_wp2_with (first | ((with_reducible refine gate_dst (N := 2) rfl ?_); refine box_event ?hg (N := 2) ?hd (cs := #[.int .i64 a0_0, .int .i64 a0_1, .slice A0_2 l0_2.length c0_2]) (t := 55) ?hr ?_; (case hd => rfl); (case hg => rfl); (case hr => first | (go_simp; done) | (go_simp; rfl)); intro gb1129 hg w36 hbox hb; have n0_ := Aside0.mk (below_step (sW_ HB.out) hb); have n1_ := Aside0.mk (hbox); have n2_ := Aside0.mk ((by rw [hg]; exact (below_size (sW_ HB.out)) : w.heap.size ≤ gb1129)); have n3_ := Aside0.mk ((by rw [hg]; exact (below_size (sW_ HB.out)) : w.heap.size ≤ gb1129)); clear HB; have HB := n0_; have BK1129 := n1_; have GW1129 := n2_; have GE1129 := n3_; clear n0_ n1_ n2_ n3_; clear hb hbox hg) | ((with_reducible refine gate_dst (N := 3) rfl ?_); refine box_event ?hg (N := 3) ?hd (cs := #[.int .i64 a1_0, .int .i64 a1_1, .slice A1_2 l1_2.length c1_2]) (t := 48) ?hr ?_; (case hd => rfl); (case hg => rfl); (case hr => first | (go_simp; done) | (go_simp; rfl)); intro gb1130 hg w37 hbox hb; have n0_ := Aside0.mk (blk_below (sB_ BK1129.out) hb); have n1_ := Aside0.mk (below_step (sW_ HB.out) hb); have n2_ := Aside0.mk (hbox); have n3_ := Aside0.mk ((by rw [hg]; exact (below_size (sW_ HB.out)) : w.heap.size ≤ gb1130)); have n4_ := Aside0.mk ((by rw [hg]; exact (below_size (sW_ HB.out)) : w.heap.size ≤ gb1130)); have n5_ := Aside0.mk ((by rw [hg]; exact Nat.ne_of_lt (blk_lt (sB_ BK1129.out)) : gb1129 ≠ gb1130)); have n6_ := Aside0.mk ((by rw [hg]; exact Nat.ne_of_gt (blk_lt (sB_ BK1129.out)) : gb1130 ≠ gb1129)); clear BK1129; clear HB; have BK1129 := n0_; have HB := n1_; have BK1130 := n2_; have GW1130 := n3_; have GE1130 := n4_; have NB1129_1130 := n5_; have NB1130_1129 := n6_; clear n0_ n1_ n2_ n3_ n4_ n5_ n6_; clear hb hbox hg; have hnb38 := NB1129_1130.out; have hnc38 := NB1130_1129.out; have hcz39_0 : w37.cell? ⟨gb1129, 0, none⟩ = some (.int .i64 a0_0) := (blk_cell BK1129.out 0).trans rfl; have hcz39_1 : w37.cell? ⟨gb1129, 1, none⟩ = some (.int .i64 a0_1) := (blk_cell BK1129.out 1).trans rfl; have hcz39_2 : w37.cell? ⟨gb1129, 2, none⟩ = some (.slice A0_2 l0_2.length c0_2) := (blk_cell BK1129.out 2).trans rfl; have hfz39_0 := blk_frozen BK1129.out 0; have hfz39_1 := blk_frozen BK1129.out 1; have hfz39_2 := blk_frozen BK1129.out 2) | ((with_reducible refine gate_callee (f := 56) rfl ?_); refine goesL_ (some 16) rfl rfl Try.func56 (by kernel_rfl) rfl #[.agg #[.int .i64 a0_0, .int .i64 a0_1, .slice A0_2 l0_2.length c0_2], .int .i64 1048576] rfl sL_ ?_; (with_reducible refine (laws_szMatrix.calls a0_0 a0_1 _ _ l0_2 1048576 t1131 _ ?side1 ?side2 A3.out).mono ?_); (case side1 => repeat (first | exact (Kd.C_below HR0_2.out HB.out) | (with_reducible refine Kd.C_alloc ?_ _) | (with_reducible refine Kd.C_drewN ?_ _) | (with_reducible refine Kd.C_drew ?_))); (case side2 => exact HC0_2.out); rintro e w40 ⟨rfl, hb⟩; refine ⟨_, rfl, ?_⟩; have n0_ := Aside0.mk (blk_below (sB_ BK1129.out) hb); have n1_ := Aside0.mk (blk_below (sB_ BK1130.out) hb); have n2_ := Aside0.mk (below_step (sW_ HB.out) hb); clear BK1129; clear BK1130; clear HB; have BK1129 := n0_; have BK1130 := n1_; have HB := n2_; clear n0_ n1_ n2_; (try clear hb); (try clear hb2); (try clear hk); (try clear hi); have hcz41_0 : w40.cell? ⟨gb1130, 0, none⟩ = some (.int .i64 a1_0) := (blk_cell BK1130.out 0).trans rfl; have hcz41_1 : w40.cell? ⟨gb1130, 1, none⟩ = some (.int .i64 a1_1) := (blk_cell BK1130.out 1).trans rfl; have hcz41_2 : w40.cell? ⟨gb1130, 2, none⟩ = some (.slice A1_2 l1_2.length c1_2) := (blk_cell BK1130.out 2).trans rfl; have hfz41_0 := blk_frozen BK1130.out 0; have hfz41_1 := blk_frozen BK1130.out 1; have hfz41_2 := blk_frozen BK1130.out 2) | ((with_reducible refine gate_callee (f := 46) rfl ?_); refine goesL_ (some 21) rfl rfl Try.func46 (by kernel_rfl) rfl #[.agg #[.int .i64 a1_0, .int .i64 a1_1, .slice A1_2 l1_2.length c1_2], .int .i64 t1131] rfl sL_ ?_; (with_reducible refine (laws_szPicture.calls a1_0 a1_1 _ _ l1_2 t1131 t1132 _ ?side1 ?side2 A10.out).mono ?_); (case side1 => repeat (first | exact (Kd.C_below HR1_2.out HB.out) | (with_reducible refine Kd.C_alloc ?_ _) | (with_reducible refine Kd.C_drewN ?_ _) | (with_reducible refine Kd.C_drew ?_))); (case side2 => exact HC1_2.out); rintro e w42 ⟨rfl, hb⟩; refine ⟨_, rfl, ?_⟩; have n0_ := Aside0.mk (blk_below (sB_ BK1129.out) hb); have n1_ := Aside0.mk (blk_below (sB_ BK1130.out) hb); have n2_ := Aside0.mk (below_step (sW_ HB.out) hb); clear BK1129; clear BK1130; clear HB; have BK1129 := n0_; have BK1130 := n1_; have HB := n2_; clear n0_ n1_ n2_; (try clear hb); (try clear hb2); (try clear hk); (try clear hi)))
      have n0_ := Aside0.mk (blk_drew BK1129.out)
      have n1_ := Aside0.mk (blk_drew BK1130.out)
      have n2_ := Aside0.mk (below_drew1 HB.out)
      clear BK1129 BK1130 HB; have BK1129 := n0_; have BK1130 := n1_; have HB := n2_; clear n0_ n1_ n2_
      refine start_ (n := 7) (S := fun w' => w'.cell? ⟨gb1129, 0, none⟩ = some (.int .i64 a0_0) ∧ w'.cell? ⟨gb1129, 1, none⟩ = some (.int .i64 a0_1) ∧ w'.cell? ⟨gb1129, 2, none⟩ = some (.slice A0_2 l0_2.length c0_2) ∧ w'.cell? ⟨gb1130, 0, none⟩ = some (.int .i64 a1_0) ∧ w'.cell? ⟨gb1130, 1, none⟩ = some (.int .i64 a1_1) ∧ w'.cell? ⟨gb1130, 2, none⟩ = some (.slice A1_2 l1_2.length c1_2)) (ds := []) #[false, false, false, false, false, false, false] (by kernel_rfl) rfl rfl ⟨(blk_cell BK1129.out 0).trans rfl, (blk_cell BK1129.out 1).trans rfl, (blk_cell BK1129.out 2).trans rfl, (blk_cell BK1130.out 0).trans rfl, (blk_cell BK1130.out 1).trans rfl, (blk_cell BK1130.out 2).trans rfl⟩ (fun hHeld => ?_)
      generalize w42.drew = w43 at BK1129 BK1130 HB hHeld ⊢
      refine take_ (i := 0) (N := some 24) (v := ?_) (a' := ?_) #[true, false, false, false, false, false, false] rfl rfl (by kernel_rfl) (fun _ _ _ h => h) (Or.inl ⟨by rfl, ?_⟩) hHeld ?_ ?_
      rotate_left
      ·rintro w' ⟨s0, s1, s2, s3, s4, s5⟩
       go_simp
       with_reducible rfl
      rotate_left
      ·simp only [Act.put, List.setIfInBounds_toArray, List.set_cons_zero, List.set_cons_succ, i64_w, i32_w]
       rfl
      refine take_ (i := 2) (N := some 26) (v := ?_) (a' := ?_) #[true, false, true, false, false, false, false] rfl rfl (by kernel_rfl) (fun _ _ _ h => h) (Or.inl ⟨by rfl, ?_⟩) hHeld ?_ ?_
      rotate_left
      ·rintro w' ⟨s0, s1, s2, s3, s4, s5⟩
       go_simp
       with_reducible rfl
      rotate_left
      ·simp only [Act.put, List.setIfInBounds_toArray, List.set_cons_zero, List.set_cons_succ, i64_w, i32_w]
       rfl
      refine join_ (σ := Value × Value × Value × Nat) 1 #[true, true, true, true, true, true, false] (fun s_ => [(25, .agg #[.int .i64 t1133, .int .i64 t1134, s_.1]), (27, .agg #[.int .i64 t1138, .int .i64 t1139, s_.2.1]), (28, .agg #[.int .i64 t1143, .int .i64 t1144, s_.2.2.1]), (6, .pointer (some ⟨s_.2.2.2, 0, none⟩))]) (fun s_ w' => (w'.cell? ⟨gb1129, 0, none⟩ = some (.int .i64 a0_0) ∧ w'.cell? ⟨gb1129, 1, none⟩ = some (.int .i64 a0_1) ∧ w'.cell? ⟨gb1129, 2, none⟩ = some (.slice A0_2 l0_2.length c0_2) ∧ w'.cell? ⟨gb1130, 0, none⟩ = some (.int .i64 a1_0) ∧ w'.cell? ⟨gb1130, 1, none⟩ = some (.int .i64 a1_1) ∧ w'.cell? ⟨gb1130, 2, none⟩ = some (.slice A1_2 l1_2.length c1_2)) ∧ (Kd.R (Kd.int .i64) 3 w' w.heap.size (fun k_ => some k_ ≠ (s_.2.1 : Value).ownBlock ∧ some k_ ≠ (s_.2.2.1 : Value).ownBlock) s_.1 t1135) ∧ (Kd.R (Kd.int .i64) 3 w' w.heap.size (fun k_ => some k_ ≠ (s_.1 : Value).ownBlock ∧ some k_ ≠ (s_.2.2.1 : Value).ownBlock) s_.2.1 t1140) ∧ (Kd.R (Kd.int .i64) 3 w' w.heap.size (fun k_ => some k_ ≠ (s_.1 : Value).ownBlock ∧ some k_ ≠ (s_.2.1 : Value).ownBlock) s_.2.2.1 t1145) ∧ (w'.heap[gb1129]? = some (.cells #[.int .i64 a0_0, .int .i64 a0_1, .slice A0_2 l0_2.length c0_2] 55 (0, 0))) ∧ (w'.heap[gb1130]? = some (.cells #[.int .i64 a1_0, .int .i64 a1_1, .slice A1_2 l1_2.length c1_2] 48 (0, 0))) ∧ (w'.heap[s_.2.2.2]? = some (.cells #[.int .i64 0, .int .i64 0, .slice none 0 0] 41 (0, 0))) ∧ (w.heap.size ≤ s_.2.2.2) ∧ (w.heap.size ≤ s_.2.2.2) ∧ (gb1129 ≠ s_.2.2.2) ∧ (s_.2.2.2 ≠ gb1129) ∧ (gb1130 ≠ s_.2.2.2) ∧ (s_.2.2.2 ≠ gb1130) ∧ (Below w.heap.size w w')) ?_ ?_
      rotate_left
      ·intro hCont
       refine two_ (i := 1) (j := 5) (Ni := some 25) (Nj := some 6) #[true, true, true, false, false, false, false] #[true, false, true, false, false, true, false] rfl rfl rfl rfl (by kernel_rfl) (by decide) (by decide) (fun K hK => ?_) (fun K hK => ?_)
       ·skip
        refine goes_ Try.func58 (by kernel_rfl) rfl #[.agg #[.int .i64 a0_0, .int .i64 a0_1, .slice A0_2 l0_2.length c0_2]] (by rfl) rfl rfl sL_ ?_
        with_reducible refine (laws_toMatrix.calls k a0_0 a0_1 _ _ l0_2 t1133 t1134 t1135 _ ?side1 ?side2 A19.out).mono ?_
        (case side1 => repeat (first | exact (Kd.C_below HR0_2.out HB.out) | (with_reducible refine Kd.C_alloc ?_ _) | (with_reducible refine Kd.C_drewN ?_ _) | (with_reducible refine Kd.C_drew ?_)))
        (case side2 => exact HC0_2.out)
        rintro e w44 ⟨v1136, rfl, ho0, hb⟩
        refine ⟨_, rfl, ?_⟩
        have n0_ := Aside0.mk (Kd.R_lower ho0 (below_size (sW_ HB.out)))
        have n1_ := Aside0.mk (blk_below (sB_ BK1129.out) hb)
        have n2_ := Aside0.mk (blk_below (sB_ BK1130.out) hb)
        have n3_ := Aside0.mk (below_step (sW_ HB.out) hb)
        clear BK1129 BK1130 HB; have HO1137 := n0_; have BK1129 := n1_; have BK1130 := n2_; have HB := n3_; clear n0_ n1_ n2_ n3_
        (try clear hb)
        (try clear hb2)
        (try clear hk)
        (try clear hi)
        (try clear ho0)
        refine hK.out _ _ ⟨(blk_cell BK1129.out 0).trans rfl, (blk_cell BK1129.out 1).trans rfl, (blk_cell BK1129.out 2).trans rfl, (blk_cell BK1130.out 0).trans rfl, (blk_cell BK1130.out 1).trans rfl, (blk_cell BK1130.out 2).trans rfl⟩ (fun hHeld => ?_)
        clear hK K
        refine norm_ (a' := ?_) ?_ ?_
        rotate_left
        ·show Act.put _ (some 25) _ = _
         simp only [Act.put, List.setIfInBounds_toArray, List.set_cons_zero, List.set_cons_succ, i64_w, i32_w]
         rfl
        refine two_ (i := 3) (j := 5) (Ni := some 27) (Nj := some 6) #[true, true, true, true, false, false, false] #[true, true, true, false, false, true, false] rfl rfl rfl rfl (by kernel_rfl) (by decide) (by decide) (fun K hK => ?_) (fun K hK => ?_)
        ·skip
         refine goes_ Try.func48 (by kernel_rfl) rfl #[.agg #[.int .i64 a1_0, .int .i64 a1_1, .slice A1_2 l1_2.length c1_2]] (by rfl) rfl rfl sL_ ?_
         with_reducible refine (laws_toPicture.calls k a1_0 a1_1 _ _ l1_2 t1138 t1139 t1140 _ ?side1 ?side2 A20.out).mono ?_
         (case side1 => repeat (first | exact (Kd.C_below HR1_2.out HB.out) | (with_reducible refine Kd.C_alloc ?_ _) | (with_reducible refine Kd.C_drewN ?_ _) | (with_reducible refine Kd.C_drew ?_)))
         (case side2 => exact HC1_2.out)
         rintro e w45 ⟨v1141, rfl, ho0, hb⟩
         refine ⟨_, rfl, ?_⟩
         have n0_ := Aside0.mk (Kd.R_elder' (sR_ HO1137.out) (Kd.R_base ho0) hb)
         have n1_ := Aside0.mk (Kd.R_lower (Kd.R_new' ho0 (Kd.R_lt (sR_ HO1137.out))) (below_size (sW_ HB.out)))
         have n2_ := Aside0.mk (blk_below (sB_ BK1129.out) hb)
         have n3_ := Aside0.mk (blk_below (sB_ BK1130.out) hb)
         have n4_ := Aside0.mk (below_step (sW_ HB.out) hb)
         clear HO1137 BK1129 BK1130 HB; have HO1137 := n0_; have HO1142 := n1_; have BK1129 := n2_; have BK1130 := n3_; have HB := n4_; clear n0_ n1_ n2_ n3_ n4_
         (try clear hb)
         (try clear hb2)
         (try clear hk)
         (try clear hi)
         (try clear ho0)
         obtain ⟨Ao46, co46, eo46⟩ := Kd.R_slice HO1137.out
         (first | subst eo46 | (injection eo46 with f1_ f2_ f3_; have f4_ := f1_.symm; have f5_ := f3_.symm; clear f1_ f2_ f3_; subst f4_; subst f5_))
         obtain ⟨Ao47, co47, eo47⟩ := Kd.R_slice HO1142.out
         (first | subst eo47 | (injection eo47 with f1_ f2_ f3_; have f4_ := f1_.symm; have f5_ := f3_.symm; clear f1_ f2_ f3_; subst f4_; subst f5_))
         refine hK.out _ _ ⟨(blk_cell BK1129.out 0).trans rfl, (blk_cell BK1129.out 1).trans rfl, (blk_cell BK1129.out 2).trans rfl, (blk_cell BK1130.out 0).trans rfl, (blk_cell BK1130.out 1).trans rfl, (blk_cell BK1130.out 2).trans rfl⟩ (fun hHeld => ?_)
         clear hK K
         refine norm_ (a' := ?_) ?_ ?_
         rotate_left
         ·show Act.put _ (some 27) _ = _
          simp only [Act.put, List.setIfInBounds_toArray, List.set_cons_zero, List.set_cons_succ, i64_w, i32_w]
          rfl
         refine two_ (i := 4) (j := 5) (Ni := some 28) (Nj := some 6) #[true, true, true, true, true, false, false] #[true, true, true, true, false, true, false] rfl rfl rfl rfl (by kernel_rfl) (by decide) (by decide) (fun K hK => ?_) (fun K hK => ?_)
         ·skip
          refine goes_ Try.func71 (by kernel_rfl) rfl #[.agg #[.int .i64 t1133, .int .i64 t1134, .slice Ao46 t1135.length co46], .agg #[.int .i64 t1138, .int .i64 t1139, .slice Ao47 t1140.length co47]] (by rfl) rfl rfl sL_ ?_
          with_reducible refine (spec_ScreenPicture.calls k t1133 t1134 _ _ t1135 t1138 t1139 _ _ t1140 t1143 t1144 t1145 _ ?side1 ?side2 ?side3 ?side4 A21.out).mono ?_
          (case side1 => repeat (first | exact (Kd.R_reads' HO1137.out).2.2 | (with_reducible refine Kd.C_alloc ?_ _) | (with_reducible refine Kd.C_drewN ?_ _) | (with_reducible refine Kd.C_drew ?_)))
          (case side2 => exact (Kd.R_reads' HO1137.out).2.1)
          (case side3 => repeat (first | exact (Kd.R_reads' HO1142.out).2.2 | (with_reducible refine Kd.C_alloc ?_ _) | (with_reducible refine Kd.C_drewN ?_ _) | (with_reducible refine Kd.C_drew ?_)))
          (case side4 => exact (Kd.R_reads' HO1142.out).2.1)
          rintro e w48 ⟨v1146, rfl, ho0, hb⟩
          refine ⟨_, rfl, ?_⟩
          have n0_ := Aside0.mk (Kd.R_elder' (sR_ HO1137.out) (Kd.R_base ho0) hb)
          have n1_ := Aside0.mk (Kd.R_elder' (sR_ HO1142.out) (Kd.R_base ho0) hb)
          have n2_ := Aside0.mk (Kd.R_lower (Kd.R_new' (Kd.R_new' ho0 (Kd.R_lt (sR_ HO1137.out))) (Kd.R_lt (sR_ HO1142.out))) (below_size (sW_ HB.out)))
          have n3_ := Aside0.mk (blk_below (sB_ BK1129.out) hb)
          have n4_ := Aside0.mk (blk_below (sB_ BK1130.out) hb)
          have n5_ := Aside0.mk (below_step (sW_ HB.out) hb)
          clear HO1137 HO1142 BK1129 BK1130 HB; have HO1137 := n0_; have HO1142 := n1_; have HO1147 := n2_; have BK1129 := n3_; have BK1130 := n4_; have HB := n5_; clear n0_ n1_ n2_ n3_ n4_ n5_
          (try clear hb)
          (try clear hb2)
          (try clear hk)
          (try clear hi)
          (try clear ho0)
          refine hK.out _ _ ⟨(blk_cell BK1129.out 0).trans rfl, (blk_cell BK1129.out 1).trans rfl, (blk_cell BK1129.out 2).trans rfl, (blk_cell BK1130.out 0).trans rfl, (blk_cell BK1130.out 1).trans rfl, (blk_cell BK1130.out 2).trans rfl⟩ (fun hHeld => ?_)
          clear hK K
          refine norm_ (a' := ?_) ?_ ?_
          rotate_left
          ·show Act.put _ (some 28) _ = _
           simp only [Act.put, List.setIfInBounds_toArray, List.set_cons_zero, List.set_cons_succ, i64_w, i32_w]
           rfl
          refine one_ (i := 5) (N := some 6) #[true, true, true, true, true, true, false] rfl rfl (by kernel_rfl) (by decide) (fun K hK => ?_)
          refine box_step ?hg (N := 6) ?hd (cs := #[.int .i64 0, .int .i64 0, .slice none 0 0]) (t := 41) ?hr ?_; (case hd => rfl); (case hg => rfl); (case hr => first | (go_simp; done) | (go_simp; rfl))
          intro gb1148 hg w49 hbox hb
          have n0_ := Aside0.mk (Kd.R_below (sR_ HO1137.out) hb)
          have n1_ := Aside0.mk (Kd.R_below (sR_ HO1142.out) hb)
          have n2_ := Aside0.mk (Kd.R_below (sR_ HO1147.out) hb)
          have n3_ := Aside0.mk (blk_below (sB_ BK1129.out) hb)
          have n4_ := Aside0.mk (blk_below (sB_ BK1130.out) hb)
          have n5_ := Aside0.mk (below_step (sW_ HB.out) hb)
          have n6_ := Aside0.mk (hbox)
          have n7_ := Aside0.mk ((by rw [hg]; exact (below_size (sW_ HB.out)) : w.heap.size ≤ gb1148))
          have n8_ := Aside0.mk ((by rw [hg]; exact (below_size (sW_ HB.out)) : w.heap.size ≤ gb1148))
          have n9_ := Aside0.mk ((by rw [hg]; exact Nat.ne_of_lt (blk_lt (sB_ BK1129.out)) : gb1129 ≠ gb1148))
          have n10_ := Aside0.mk ((by rw [hg]; exact Nat.ne_of_gt (blk_lt (sB_ BK1129.out)) : gb1148 ≠ gb1129))
          have n11_ := Aside0.mk ((by rw [hg]; exact Nat.ne_of_lt (blk_lt (sB_ BK1130.out)) : gb1130 ≠ gb1148))
          have n12_ := Aside0.mk ((by rw [hg]; exact Nat.ne_of_gt (blk_lt (sB_ BK1130.out)) : gb1148 ≠ gb1130))
          clear HO1137 HO1142 HO1147 BK1129 BK1130 HB; have HO1137 := n0_; have HO1142 := n1_; have HO1147 := n2_; have BK1129 := n3_; have BK1130 := n4_; have HB := n5_; have BK1148 := n6_; have GW1148 := n7_; have GE1148 := n8_; have NB1129_1148 := n9_; have NB1148_1129 := n10_; have NB1130_1148 := n11_; have NB1148_1130 := n12_; clear n0_ n1_ n2_ n3_ n4_ n5_ n6_ n7_ n8_ n9_ n10_ n11_ n12_ hb hbox hg
          refine hK.out _ _ ⟨(blk_cell BK1129.out 0).trans rfl, (blk_cell BK1129.out 1).trans rfl, (blk_cell BK1129.out 2).trans rfl, (blk_cell BK1130.out 0).trans rfl, (blk_cell BK1130.out 1).trans rfl, (blk_cell BK1130.out 2).trans rfl⟩ (fun hHeld => ?_)
          clear hK K
          refine norm_ (a' := ?_) ?_ ?_
          rotate_left
          ·show Act.put _ (some 6) _ = _
           simp only [Act.put, List.setIfInBounds_toArray, List.set_cons_zero, List.set_cons_succ, i64_w, i32_w]
           rfl
          exact norm_ sP_ (hCont (.slice Ao46 t1135.length co46, .slice Ao47 t1140.length co47, v1146, gb1148) _ ⟨hHeld, (by (with_reducible repeat (first | apply Kd.R_alloc | apply Kd.R_drewN | apply Kd.R_drew)); exact Kd.R_mono HO1137.out (fun _ hk => ⟨hk.1.2, hk.2⟩)), (by (with_reducible repeat (first | apply Kd.R_alloc | apply Kd.R_drewN | apply Kd.R_drew)); exact Kd.R_mono HO1142.out (fun _ hk => ⟨hk.1.2, hk.2⟩)), (by (with_reducible repeat (first | apply Kd.R_alloc | apply Kd.R_drewN | apply Kd.R_drew)); exact Kd.R_mono HO1147.out (fun _ hk => ⟨hk.1.2, hk.2⟩)), (sB_ BK1129.out), (sB_ BK1130.out), (sB_ BK1148.out), GW1148.out, GE1148.out, NB1129_1148.out, NB1148_1129.out, NB1130_1148.out, NB1148_1130.out, (sW_ HB.out)⟩)
         ·skip
          refine box_step ?hg (N := 6) ?hd (cs := #[.int .i64 0, .int .i64 0, .slice none 0 0]) (t := 41) ?hr ?_; (case hd => rfl); (case hg => rfl); (case hr => first | (go_simp; done) | (go_simp; rfl))
          intro gb1148 hg w46 hbox hb
          have n0_ := Aside0.mk (Kd.R_below (sR_ HO1137.out) hb)
          have n1_ := Aside0.mk (Kd.R_below (sR_ HO1142.out) hb)
          have n2_ := Aside0.mk (blk_below (sB_ BK1129.out) hb)
          have n3_ := Aside0.mk (blk_below (sB_ BK1130.out) hb)
          have n4_ := Aside0.mk (below_step (sW_ HB.out) hb)
          have n5_ := Aside0.mk (hbox)
          have n6_ := Aside0.mk ((by rw [hg]; exact (below_size (sW_ HB.out)) : w.heap.size ≤ gb1148))
          have n7_ := Aside0.mk ((by rw [hg]; exact (below_size (sW_ HB.out)) : w.heap.size ≤ gb1148))
          have n8_ := Aside0.mk ((by rw [hg]; exact Nat.ne_of_lt (blk_lt (sB_ BK1129.out)) : gb1129 ≠ gb1148))
          have n9_ := Aside0.mk ((by rw [hg]; exact Nat.ne_of_gt (blk_lt (sB_ BK1129.out)) : gb1148 ≠ gb1129))
          have n10_ := Aside0.mk ((by rw [hg]; exact Nat.ne_of_lt (blk_lt (sB_ BK1130.out)) : gb1130 ≠ gb1148))
          have n11_ := Aside0.mk ((by rw [hg]; exact Nat.ne_of_gt (blk_lt (sB_ BK1130.out)) : gb1148 ≠ gb1130))
          clear HO1137 HO1142 BK1129 BK1130 HB; have HO1137 := n0_; have HO1142 := n1_; have BK1129 := n2_; have BK1130 := n3_; have HB := n4_; have BK1148 := n5_; have GW1148 := n6_; have GE1148 := n7_; have NB1129_1148 := n8_; have NB1148_1129 := n9_; have NB1130_1148 := n10_; have NB1148_1130 := n11_; clear n0_ n1_ n2_ n3_ n4_ n5_ n6_ n7_ n8_ n9_ n10_ n11_ hb hbox hg
          obtain ⟨Ao47, co47, eo47⟩ := Kd.R_slice HO1137.out
          (first | subst eo47 | (injection eo47 with f1_ f2_ f3_; have f4_ := f1_.symm; have f5_ := f3_.symm; clear f1_ f2_ f3_; subst f4_; subst f5_))
          obtain ⟨Ao48, co48, eo48⟩ := Kd.R_slice HO1142.out
          (first | subst eo48 | (injection eo48 with f1_ f2_ f3_; have f4_ := f1_.symm; have f5_ := f3_.symm; clear f1_ f2_ f3_; subst f4_; subst f5_))
          refine hK.out _ _ ⟨(blk_cell BK1129.out 0).trans rfl, (blk_cell BK1129.out 1).trans rfl, (blk_cell BK1129.out 2).trans rfl, (blk_cell BK1130.out 0).trans rfl, (blk_cell BK1130.out 1).trans rfl, (blk_cell BK1130.out 2).trans rfl⟩ (fun hHeld => ?_)
          clear hK K
          refine norm_ (a' := ?_) ?_ ?_
          rotate_left
          ·show Act.put _ (some 6) _ = _
           simp only [Act.put, List.setIfInBounds_toArray, List.set_cons_zero, List.set_cons_succ, i64_w, i32_w]
           rfl
          refine one_ (i := 4) (N := some 28) #[true, true, true, true, true, true, false] rfl rfl (by kernel_rfl) (by decide) (fun K hK => ?_)
          refine goes_ Try.func71 (by kernel_rfl) rfl #[.agg #[.int .i64 t1133, .int .i64 t1134, .slice Ao47 t1135.length co47], .agg #[.int .i64 t1138, .int .i64 t1139, .slice Ao48 t1140.length co48]] (by rfl) rfl rfl sL_ ?_
          with_reducible refine (spec_ScreenPicture.calls k t1133 t1134 _ _ t1135 t1138 t1139 _ _ t1140 t1143 t1144 t1145 _ ?side1 ?side2 ?side3 ?side4 A21.out).mono ?_
          (case side1 => repeat (first | exact (Kd.R_reads' HO1137.out).2.2 | (with_reducible refine Kd.C_alloc ?_ _) | (with_reducible refine Kd.C_drewN ?_ _) | (with_reducible refine Kd.C_drew ?_)))
          (case side2 => exact (Kd.R_reads' HO1137.out).2.1)
          (case side3 => repeat (first | exact (Kd.R_reads' HO1142.out).2.2 | (with_reducible refine Kd.C_alloc ?_ _) | (with_reducible refine Kd.C_drewN ?_ _) | (with_reducible refine Kd.C_drew ?_)))
          (case side4 => exact (Kd.R_reads' HO1142.out).2.1)
          rintro e w49 ⟨v1146, rfl, ho0, hb⟩
          refine ⟨_, rfl, ?_⟩
          have n0_ := Aside0.mk (Kd.R_elder' (sR_ HO1137.out) (Kd.R_base ho0) hb)
          have n1_ := Aside0.mk (Kd.R_elder' (sR_ HO1142.out) (Kd.R_base ho0) hb)
          have n2_ := Aside0.mk (Kd.R_lower (Kd.R_new' (Kd.R_new' ho0 (Kd.R_lt (sR_ HO1137.out))) (Kd.R_lt (sR_ HO1142.out))) (below_size (sW_ HB.out)))
          have n3_ := Aside0.mk (blk_below (sB_ BK1129.out) hb)
          have n4_ := Aside0.mk (blk_below (sB_ BK1130.out) hb)
          have n5_ := Aside0.mk (blk_below (sB_ BK1148.out) hb)
          have n6_ := Aside0.mk (below_step (sW_ HB.out) hb)
          clear HO1137 HO1142 BK1129 BK1130 BK1148 HB; have HO1137 := n0_; have HO1142 := n1_; have HO1147 := n2_; have BK1129 := n3_; have BK1130 := n4_; have BK1148 := n5_; have HB := n6_; clear n0_ n1_ n2_ n3_ n4_ n5_ n6_
          (try clear hb)
          (try clear hb2)
          (try clear hk)
          (try clear hi)
          (try clear ho0)
          refine hK.out _ _ ⟨(blk_cell BK1129.out 0).trans rfl, (blk_cell BK1129.out 1).trans rfl, (blk_cell BK1129.out 2).trans rfl, (blk_cell BK1130.out 0).trans rfl, (blk_cell BK1130.out 1).trans rfl, (blk_cell BK1130.out 2).trans rfl⟩ (fun hHeld => ?_)
          clear hK K
          refine norm_ (a' := ?_) ?_ ?_
          rotate_left
          ·show Act.put _ (some 28) _ = _
           simp only [Act.put, List.setIfInBounds_toArray, List.set_cons_zero, List.set_cons_succ, i64_w, i32_w]
           rfl
          exact norm_ sP_ (hCont (.slice Ao47 t1135.length co47, .slice Ao48 t1140.length co48, v1146, gb1148) _ ⟨hHeld, (by (with_reducible repeat (first | apply Kd.R_alloc | apply Kd.R_drewN | apply Kd.R_drew)); exact Kd.R_mono HO1137.out (fun _ hk => ⟨hk.1.2, hk.2⟩)), (by (with_reducible repeat (first | apply Kd.R_alloc | apply Kd.R_drewN | apply Kd.R_drew)); exact Kd.R_mono HO1142.out (fun _ hk => ⟨hk.1.2, hk.2⟩)), (by (with_reducible repeat (first | apply Kd.R_alloc | apply Kd.R_drewN | apply Kd.R_drew)); exact Kd.R_mono HO1147.out (fun _ hk => ⟨hk.1.2, hk.2⟩)), (sB_ BK1129.out), (sB_ BK1130.out), (sB_ BK1148.out), GW1148.out, GE1148.out, NB1129_1148.out, NB1148_1129.out, NB1130_1148.out, NB1148_1130.out, (sW_ HB.out)⟩)
        ·skip
         refine box_step ?hg (N := 6) ?hd (cs := #[.int .i64 0, .int .i64 0, .slice none 0 0]) (t := 41) ?hr ?_; (case hd => rfl); (case hg => rfl); (case hr => first | (go_simp; done) | (go_simp; rfl))
         intro gb1148 hg w45 hbox hb
         have n0_ := Aside0.mk (Kd.R_below (sR_ HO1137.out) hb)
         have n1_ := Aside0.mk (blk_below (sB_ BK1129.out) hb)
         have n2_ := Aside0.mk (blk_below (sB_ BK1130.out) hb)
         have n3_ := Aside0.mk (below_step (sW_ HB.out) hb)
         have n4_ := Aside0.mk (hbox)
         have n5_ := Aside0.mk ((by rw [hg]; exact (below_size (sW_ HB.out)) : w.heap.size ≤ gb1148))
         have n6_ := Aside0.mk ((by rw [hg]; exact (below_size (sW_ HB.out)) : w.heap.size ≤ gb1148))
         have n7_ := Aside0.mk ((by rw [hg]; exact Nat.ne_of_lt (blk_lt (sB_ BK1129.out)) : gb1129 ≠ gb1148))
         have n8_ := Aside0.mk ((by rw [hg]; exact Nat.ne_of_gt (blk_lt (sB_ BK1129.out)) : gb1148 ≠ gb1129))
         have n9_ := Aside0.mk ((by rw [hg]; exact Nat.ne_of_lt (blk_lt (sB_ BK1130.out)) : gb1130 ≠ gb1148))
         have n10_ := Aside0.mk ((by rw [hg]; exact Nat.ne_of_gt (blk_lt (sB_ BK1130.out)) : gb1148 ≠ gb1130))
         clear HO1137 BK1129 BK1130 HB; have HO1137 := n0_; have BK1129 := n1_; have BK1130 := n2_; have HB := n3_; have BK1148 := n4_; have GW1148 := n5_; have GE1148 := n6_; have NB1129_1148 := n7_; have NB1148_1129 := n8_; have NB1130_1148 := n9_; have NB1148_1130 := n10_; clear n0_ n1_ n2_ n3_ n4_ n5_ n6_ n7_ n8_ n9_ n10_ hb hbox hg
         refine hK.out _ _ ⟨(blk_cell BK1129.out 0).trans rfl, (blk_cell BK1129.out 1).trans rfl, (blk_cell BK1129.out 2).trans rfl, (blk_cell BK1130.out 0).trans rfl, (blk_cell BK1130.out 1).trans rfl, (blk_cell BK1130.out 2).trans rfl⟩ (fun hHeld => ?_)
         clear hK K
         refine norm_ (a' := ?_) ?_ ?_
         rotate_left
         ·show Act.put _ (some 6) _ = _
          simp only [Act.put, List.setIfInBounds_toArray, List.set_cons_zero, List.set_cons_succ, i64_w, i32_w]
          rfl
         refine one_ (i := 3) (N := some 27) #[true, true, true, true, false, true, false] rfl rfl (by kernel_rfl) (by decide) (fun K hK => ?_)
         refine goes_ Try.func48 (by kernel_rfl) rfl #[.agg #[.int .i64 a1_0, .int .i64 a1_1, .slice A1_2 l1_2.length c1_2]] (by rfl) rfl rfl sL_ ?_
         with_reducible refine (laws_toPicture.calls k a1_0 a1_1 _ _ l1_2 t1138 t1139 t1140 _ ?side1 ?side2 A20.out).mono ?_
         (case side1 => repeat (first | exact (Kd.C_below HR1_2.out HB.out) | (with_reducible refine Kd.C_alloc ?_ _) | (with_reducible refine Kd.C_drewN ?_ _) | (with_reducible refine Kd.C_drew ?_)))
         (case side2 => exact HC1_2.out)
         rintro e w46 ⟨v1141, rfl, ho0, hb⟩
         refine ⟨_, rfl, ?_⟩
         have n0_ := Aside0.mk (Kd.R_elder' (sR_ HO1137.out) (Kd.R_base ho0) hb)
         have n1_ := Aside0.mk (Kd.R_lower (Kd.R_new' ho0 (Kd.R_lt (sR_ HO1137.out))) (below_size (sW_ HB.out)))
         have n2_ := Aside0.mk (blk_below (sB_ BK1129.out) hb)
         have n3_ := Aside0.mk (blk_below (sB_ BK1130.out) hb)
         have n4_ := Aside0.mk (blk_below (sB_ BK1148.out) hb)
         have n5_ := Aside0.mk (below_step (sW_ HB.out) hb)
         clear HO1137 BK1129 BK1130 BK1148 HB; have HO1137 := n0_; have HO1142 := n1_; have BK1129 := n2_; have BK1130 := n3_; have BK1148 := n4_; have HB := n5_; clear n0_ n1_ n2_ n3_ n4_ n5_
         (try clear hb)
         (try clear hb2)
         (try clear hk)
         (try clear hi)
         (try clear ho0)
         obtain ⟨Ao47, co47, eo47⟩ := Kd.R_slice HO1137.out
         (first | subst eo47 | (injection eo47 with f1_ f2_ f3_; have f4_ := f1_.symm; have f5_ := f3_.symm; clear f1_ f2_ f3_; subst f4_; subst f5_))
         obtain ⟨Ao48, co48, eo48⟩ := Kd.R_slice HO1142.out
         (first | subst eo48 | (injection eo48 with f1_ f2_ f3_; have f4_ := f1_.symm; have f5_ := f3_.symm; clear f1_ f2_ f3_; subst f4_; subst f5_))
         refine hK.out _ _ ⟨(blk_cell BK1129.out 0).trans rfl, (blk_cell BK1129.out 1).trans rfl, (blk_cell BK1129.out 2).trans rfl, (blk_cell BK1130.out 0).trans rfl, (blk_cell BK1130.out 1).trans rfl, (blk_cell BK1130.out 2).trans rfl⟩ (fun hHeld => ?_)
         clear hK K
         refine norm_ (a' := ?_) ?_ ?_
         rotate_left
         ·show Act.put _ (some 27) _ = _
          simp only [Act.put, List.setIfInBounds_toArray, List.set_cons_zero, List.set_cons_succ, i64_w, i32_w]
          rfl
         refine one_ (i := 4) (N := some 28) #[true, true, true, true, true, true, false] rfl rfl (by kernel_rfl) (by decide) (fun K hK => ?_)
         refine goes_ Try.func71 (by kernel_rfl) rfl #[.agg #[.int .i64 t1133, .int .i64 t1134, .slice Ao47 t1135.length co47], .agg #[.int .i64 t1138, .int .i64 t1139, .slice Ao48 t1140.length co48]] (by rfl) rfl rfl sL_ ?_
         with_reducible refine (spec_ScreenPicture.calls k t1133 t1134 _ _ t1135 t1138 t1139 _ _ t1140 t1143 t1144 t1145 _ ?side1 ?side2 ?side3 ?side4 A21.out).mono ?_
         (case side1 => repeat (first | exact (Kd.R_reads' HO1137.out).2.2 | (with_reducible refine Kd.C_alloc ?_ _) | (with_reducible refine Kd.C_drewN ?_ _) | (with_reducible refine Kd.C_drew ?_)))
         (case side2 => exact (Kd.R_reads' HO1137.out).2.1)
         (case side3 => repeat (first | exact (Kd.R_reads' HO1142.out).2.2 | (with_reducible refine Kd.C_alloc ?_ _) | (with_reducible refine Kd.C_drewN ?_ _) | (with_reducible refine Kd.C_drew ?_)))
         (case side4 => exact (Kd.R_reads' HO1142.out).2.1)
         rintro e w49 ⟨v1146, rfl, ho0, hb⟩
         refine ⟨_, rfl, ?_⟩
         have n0_ := Aside0.mk (Kd.R_elder' (sR_ HO1137.out) (Kd.R_base ho0) hb)
         have n1_ := Aside0.mk (Kd.R_elder' (sR_ HO1142.out) (Kd.R_base ho0) hb)
         have n2_ := Aside0.mk (Kd.R_lower (Kd.R_new' (Kd.R_new' ho0 (Kd.R_lt (sR_ HO1137.out))) (Kd.R_lt (sR_ HO1142.out))) (below_size (sW_ HB.out)))
         have n3_ := Aside0.mk (blk_below (sB_ BK1129.out) hb)
         have n4_ := Aside0.mk (blk_below (sB_ BK1130.out) hb)
         have n5_ := Aside0.mk (blk_below (sB_ BK1148.out) hb)
         have n6_ := Aside0.mk (below_step (sW_ HB.out) hb)
         clear HO1137 HO1142 BK1129 BK1130 BK1148 HB; have HO1137 := n0_; have HO1142 := n1_; have HO1147 := n2_; have BK1129 := n3_; have BK1130 := n4_; have BK1148 := n5_; have HB := n6_; clear n0_ n1_ n2_ n3_ n4_ n5_ n6_
         (try clear hb)
         (try clear hb2)
         (try clear hk)
         (try clear hi)
         (try clear ho0)
         refine hK.out _ _ ⟨(blk_cell BK1129.out 0).trans rfl, (blk_cell BK1129.out 1).trans rfl, (blk_cell BK1129.out 2).trans rfl, (blk_cell BK1130.out 0).trans rfl, (blk_cell BK1130.out 1).trans rfl, (blk_cell BK1130.out 2).trans rfl⟩ (fun hHeld => ?_)
         clear hK K
         refine norm_ (a' := ?_) ?_ ?_
         rotate_left
         ·show Act.put _ (some 28) _ = _
          simp only [Act.put, List.setIfInBounds_toArray, List.set_cons_zero, List.set_cons_succ, i64_w, i32_w]
          rfl
         exact norm_ sP_ (hCont (.slice Ao47 t1135.length co47, .slice Ao48 t1140.length co48, v1146, gb1148) _ ⟨hHeld, (by (with_reducible repeat (first | apply Kd.R_alloc | apply Kd.R_drewN | apply Kd.R_drew)); exact Kd.R_mono HO1137.out (fun _ hk => ⟨hk.1.2, hk.2⟩)), (by (with_reducible repeat (first | apply Kd.R_alloc | apply Kd.R_drewN | apply Kd.R_drew)); exact Kd.R_mono HO1142.out (fun _ hk => ⟨hk.1.2, hk.2⟩)), (by (with_reducible repeat (first | apply Kd.R_alloc | apply Kd.R_drewN | apply Kd.R_drew)); exact Kd.R_mono HO1147.out (fun _ hk => ⟨hk.1.2, hk.2⟩)), (sB_ BK1129.out), (sB_ BK1130.out), (sB_ BK1148.out), GW1148.out, GE1148.out, NB1129_1148.out, NB1148_1129.out, NB1130_1148.out, NB1148_1130.out, (sW_ HB.out)⟩)
       ·skip
        refine box_step ?hg (N := 6) ?hd (cs := #[.int .i64 0, .int .i64 0, .slice none 0 0]) (t := 41) ?hr ?_; (case hd => rfl); (case hg => rfl); (case hr => first | (go_simp; done) | (go_simp; rfl))
        intro gb1148 hg w44 hbox hb
        have n0_ := Aside0.mk (blk_below (sB_ BK1129.out) hb)
        have n1_ := Aside0.mk (blk_below (sB_ BK1130.out) hb)
        have n2_ := Aside0.mk (below_step (sW_ HB.out) hb)
        have n3_ := Aside0.mk (hbox)
        have n4_ := Aside0.mk ((by rw [hg]; exact (below_size (sW_ HB.out)) : w.heap.size ≤ gb1148))
        have n5_ := Aside0.mk ((by rw [hg]; exact (below_size (sW_ HB.out)) : w.heap.size ≤ gb1148))
        have n6_ := Aside0.mk ((by rw [hg]; exact Nat.ne_of_lt (blk_lt (sB_ BK1129.out)) : gb1129 ≠ gb1148))
        have n7_ := Aside0.mk ((by rw [hg]; exact Nat.ne_of_gt (blk_lt (sB_ BK1129.out)) : gb1148 ≠ gb1129))
        have n8_ := Aside0.mk ((by rw [hg]; exact Nat.ne_of_lt (blk_lt (sB_ BK1130.out)) : gb1130 ≠ gb1148))
        have n9_ := Aside0.mk ((by rw [hg]; exact Nat.ne_of_gt (blk_lt (sB_ BK1130.out)) : gb1148 ≠ gb1130))
        clear BK1129 BK1130 HB; have BK1129 := n0_; have BK1130 := n1_; have HB := n2_; have BK1148 := n3_; have GW1148 := n4_; have GE1148 := n5_; have NB1129_1148 := n6_; have NB1148_1129 := n7_; have NB1130_1148 := n8_; have NB1148_1130 := n9_; clear n0_ n1_ n2_ n3_ n4_ n5_ n6_ n7_ n8_ n9_ hb hbox hg
        refine hK.out _ _ ⟨(blk_cell BK1129.out 0).trans rfl, (blk_cell BK1129.out 1).trans rfl, (blk_cell BK1129.out 2).trans rfl, (blk_cell BK1130.out 0).trans rfl, (blk_cell BK1130.out 1).trans rfl, (blk_cell BK1130.out 2).trans rfl⟩ (fun hHeld => ?_)
        clear hK K
        refine norm_ (a' := ?_) ?_ ?_
        rotate_left
        ·show Act.put _ (some 6) _ = _
         simp only [Act.put, List.setIfInBounds_toArray, List.set_cons_zero, List.set_cons_succ, i64_w, i32_w]
         rfl
        refine one_ (i := 1) (N := some 25) #[true, true, true, false, false, true, false] rfl rfl (by kernel_rfl) (by decide) (fun K hK => ?_)
        refine goes_ Try.func58 (by kernel_rfl) rfl #[.agg #[.int .i64 a0_0, .int .i64 a0_1, .slice A0_2 l0_2.length c0_2]] (by rfl) rfl rfl sL_ ?_
        with_reducible refine (laws_toMatrix.calls k a0_0 a0_1 _ _ l0_2 t1133 t1134 t1135 _ ?side1 ?side2 A19.out).mono ?_
        (case side1 => repeat (first | exact (Kd.C_below HR0_2.out HB.out) | (with_reducible refine Kd.C_alloc ?_ _) | (with_reducible refine Kd.C_drewN ?_ _) | (with_reducible refine Kd.C_drew ?_)))
        (case side2 => exact HC0_2.out)
        rintro e w45 ⟨v1136, rfl, ho0, hb⟩
        refine ⟨_, rfl, ?_⟩
        have n0_ := Aside0.mk (Kd.R_lower ho0 (below_size (sW_ HB.out)))
        have n1_ := Aside0.mk (blk_below (sB_ BK1129.out) hb)
        have n2_ := Aside0.mk (blk_below (sB_ BK1130.out) hb)
        have n3_ := Aside0.mk (blk_below (sB_ BK1148.out) hb)
        have n4_ := Aside0.mk (below_step (sW_ HB.out) hb)
        clear BK1129 BK1130 BK1148 HB; have HO1137 := n0_; have BK1129 := n1_; have BK1130 := n2_; have BK1148 := n3_; have HB := n4_; clear n0_ n1_ n2_ n3_ n4_
        (try clear hb)
        (try clear hb2)
        (try clear hk)
        (try clear hi)
        (try clear ho0)
        refine hK.out _ _ ⟨(blk_cell BK1129.out 0).trans rfl, (blk_cell BK1129.out 1).trans rfl, (blk_cell BK1129.out 2).trans rfl, (blk_cell BK1130.out 0).trans rfl, (blk_cell BK1130.out 1).trans rfl, (blk_cell BK1130.out 2).trans rfl⟩ (fun hHeld => ?_)
        clear hK K
        refine norm_ (a' := ?_) ?_ ?_
        rotate_left
        ·show Act.put _ (some 25) _ = _
         simp only [Act.put, List.setIfInBounds_toArray, List.set_cons_zero, List.set_cons_succ, i64_w, i32_w]
         rfl
        refine one_ (i := 3) (N := some 27) #[true, true, true, true, false, true, false] rfl rfl (by kernel_rfl) (by decide) (fun K hK => ?_)
        refine goes_ Try.func48 (by kernel_rfl) rfl #[.agg #[.int .i64 a1_0, .int .i64 a1_1, .slice A1_2 l1_2.length c1_2]] (by rfl) rfl rfl sL_ ?_
        with_reducible refine (laws_toPicture.calls k a1_0 a1_1 _ _ l1_2 t1138 t1139 t1140 _ ?side1 ?side2 A20.out).mono ?_
        (case side1 => repeat (first | exact (Kd.C_below HR1_2.out HB.out) | (with_reducible refine Kd.C_alloc ?_ _) | (with_reducible refine Kd.C_drewN ?_ _) | (with_reducible refine Kd.C_drew ?_)))
        (case side2 => exact HC1_2.out)
        rintro e w46 ⟨v1141, rfl, ho0, hb⟩
        refine ⟨_, rfl, ?_⟩
        have n0_ := Aside0.mk (Kd.R_elder' (sR_ HO1137.out) (Kd.R_base ho0) hb)
        have n1_ := Aside0.mk (Kd.R_lower (Kd.R_new' ho0 (Kd.R_lt (sR_ HO1137.out))) (below_size (sW_ HB.out)))
        have n2_ := Aside0.mk (blk_below (sB_ BK1129.out) hb)
        have n3_ := Aside0.mk (blk_below (sB_ BK1130.out) hb)
        have n4_ := Aside0.mk (blk_below (sB_ BK1148.out) hb)
        have n5_ := Aside0.mk (below_step (sW_ HB.out) hb)
        clear HO1137 BK1129 BK1130 BK1148 HB; have HO1137 := n0_; have HO1142 := n1_; have BK1129 := n2_; have BK1130 := n3_; have BK1148 := n4_; have HB := n5_; clear n0_ n1_ n2_ n3_ n4_ n5_
        (try clear hb)
        (try clear hb2)
        (try clear hk)
        (try clear hi)
        (try clear ho0)
        obtain ⟨Ao47, co47, eo47⟩ := Kd.R_slice HO1137.out
        (first | subst eo47 | (injection eo47 with f1_ f2_ f3_; have f4_ := f1_.symm; have f5_ := f3_.symm; clear f1_ f2_ f3_; subst f4_; subst f5_))
        obtain ⟨Ao48, co48, eo48⟩ := Kd.R_slice HO1142.out
        (first | subst eo48 | (injection eo48 with f1_ f2_ f3_; have f4_ := f1_.symm; have f5_ := f3_.symm; clear f1_ f2_ f3_; subst f4_; subst f5_))
        refine hK.out _ _ ⟨(blk_cell BK1129.out 0).trans rfl, (blk_cell BK1129.out 1).trans rfl, (blk_cell BK1129.out 2).trans rfl, (blk_cell BK1130.out 0).trans rfl, (blk_cell BK1130.out 1).trans rfl, (blk_cell BK1130.out 2).trans rfl⟩ (fun hHeld => ?_)
        clear hK K
        refine norm_ (a' := ?_) ?_ ?_
        rotate_left
        ·show Act.put _ (some 27) _ = _
         simp only [Act.put, List.setIfInBounds_toArray, List.set_cons_zero, List.set_cons_succ, i64_w, i32_w]
         rfl
        refine one_ (i := 4) (N := some 28) #[true, true, true, true, true, true, false] rfl rfl (by kernel_rfl) (by decide) (fun K hK => ?_)
        refine goes_ Try.func71 (by kernel_rfl) rfl #[.agg #[.int .i64 t1133, .int .i64 t1134, .slice Ao47 t1135.length co47], .agg #[.int .i64 t1138, .int .i64 t1139, .slice Ao48 t1140.length co48]] (by rfl) rfl rfl sL_ ?_
        with_reducible refine (spec_ScreenPicture.calls k t1133 t1134 _ _ t1135 t1138 t1139 _ _ t1140 t1143 t1144 t1145 _ ?side1 ?side2 ?side3 ?side4 A21.out).mono ?_
        (case side1 => repeat (first | exact (Kd.R_reads' HO1137.out).2.2 | (with_reducible refine Kd.C_alloc ?_ _) | (with_reducible refine Kd.C_drewN ?_ _) | (with_reducible refine Kd.C_drew ?_)))
        (case side2 => exact (Kd.R_reads' HO1137.out).2.1)
        (case side3 => repeat (first | exact (Kd.R_reads' HO1142.out).2.2 | (with_reducible refine Kd.C_alloc ?_ _) | (with_reducible refine Kd.C_drewN ?_ _) | (with_reducible refine Kd.C_drew ?_)))
        (case side4 => exact (Kd.R_reads' HO1142.out).2.1)
        rintro e w49 ⟨v1146, rfl, ho0, hb⟩
        refine ⟨_, rfl, ?_⟩
        have n0_ := Aside0.mk (Kd.R_elder' (sR_ HO1137.out) (Kd.R_base ho0) hb)
        have n1_ := Aside0.mk (Kd.R_elder' (sR_ HO1142.out) (Kd.R_base ho0) hb)
        have n2_ := Aside0.mk (Kd.R_lower (Kd.R_new' (Kd.R_new' ho0 (Kd.R_lt (sR_ HO1137.out))) (Kd.R_lt (sR_ HO1142.out))) (below_size (sW_ HB.out)))
        have n3_ := Aside0.mk (blk_below (sB_ BK1129.out) hb)
        have n4_ := Aside0.mk (blk_below (sB_ BK1130.out) hb)
        have n5_ := Aside0.mk (blk_below (sB_ BK1148.out) hb)
        have n6_ := Aside0.mk (below_step (sW_ HB.out) hb)
        clear HO1137 HO1142 BK1129 BK1130 BK1148 HB; have HO1137 := n0_; have HO1142 := n1_; have HO1147 := n2_; have BK1129 := n3_; have BK1130 := n4_; have BK1148 := n5_; have HB := n6_; clear n0_ n1_ n2_ n3_ n4_ n5_ n6_
        (try clear hb)
        (try clear hb2)
        (try clear hk)
        (try clear hi)
        (try clear ho0)
        refine hK.out _ _ ⟨(blk_cell BK1129.out 0).trans rfl, (blk_cell BK1129.out 1).trans rfl, (blk_cell BK1129.out 2).trans rfl, (blk_cell BK1130.out 0).trans rfl, (blk_cell BK1130.out 1).trans rfl, (blk_cell BK1130.out 2).trans rfl⟩ (fun hHeld => ?_)
        clear hK K
        refine norm_ (a' := ?_) ?_ ?_
        rotate_left
        ·show Act.put _ (some 28) _ = _
         simp only [Act.put, List.setIfInBounds_toArray, List.set_cons_zero, List.set_cons_succ, i64_w, i32_w]
         rfl
        exact norm_ sP_ (hCont (.slice Ao47 t1135.length co47, .slice Ao48 t1140.length co48, v1146, gb1148) _ ⟨hHeld, (by (with_reducible repeat (first | apply Kd.R_alloc | apply Kd.R_drewN | apply Kd.R_drew)); exact Kd.R_mono HO1137.out (fun _ hk => ⟨hk.1.2, hk.2⟩)), (by (with_reducible repeat (first | apply Kd.R_alloc | apply Kd.R_drewN | apply Kd.R_drew)); exact Kd.R_mono HO1142.out (fun _ hk => ⟨hk.1.2, hk.2⟩)), (by (with_reducible repeat (first | apply Kd.R_alloc | apply Kd.R_drewN | apply Kd.R_drew)); exact Kd.R_mono HO1147.out (fun _ hk => ⟨hk.1.2, hk.2⟩)), (sB_ BK1129.out), (sB_ BK1130.out), (sB_ BK1148.out), GW1148.out, GE1148.out, NB1129_1148.out, NB1148_1129.out, NB1130_1148.out, NB1148_1130.out, (sW_ HB.out)⟩)
      rintro ⟨v1136, v1141, v1146, gb1148⟩ w50 ⟨hS_, h0_, h1_, h2_, h3_, h4_, h5_, h6_, h7_, h8_, h9_, h10_, h11_, h12_⟩
      have n0_ : Aside0 (Kd.R (Kd.int .i64) 3 w50 w.heap.size (fun k_ => some k_ ≠ (v1141 : Value).ownBlock ∧ some k_ ≠ (v1146 : Value).ownBlock) v1136 t1135) := ⟨h0_⟩
      have n1_ : Aside0 (Kd.R (Kd.int .i64) 3 w50 w.heap.size (fun k_ => some k_ ≠ (v1136 : Value).ownBlock ∧ some k_ ≠ (v1146 : Value).ownBlock) v1141 t1140) := ⟨h1_⟩
      have n2_ : Aside0 (Kd.R (Kd.int .i64) 3 w50 w.heap.size (fun k_ => some k_ ≠ (v1136 : Value).ownBlock ∧ some k_ ≠ (v1141 : Value).ownBlock) v1146 t1145) := ⟨h2_⟩
      have n3_ : Aside0 (w50.heap[gb1129]? = some (.cells #[.int .i64 a0_0, .int .i64 a0_1, .slice A0_2 l0_2.length c0_2] 55 (0, 0))) := ⟨h3_⟩
      have n4_ : Aside0 (w50.heap[gb1130]? = some (.cells #[.int .i64 a1_0, .int .i64 a1_1, .slice A1_2 l1_2.length c1_2] 48 (0, 0))) := ⟨h4_⟩
      have n5_ : Aside0 (w50.heap[gb1148]? = some (.cells #[.int .i64 0, .int .i64 0, .slice none 0 0] 41 (0, 0))) := ⟨h5_⟩
      have n6_ : Aside0 (w.heap.size ≤ gb1148) := ⟨h6_⟩
      have n7_ : Aside0 (w.heap.size ≤ gb1148) := ⟨h7_⟩
      have n8_ : Aside0 (gb1129 ≠ gb1148) := ⟨h8_⟩
      have n9_ : Aside0 (gb1148 ≠ gb1129) := ⟨h9_⟩
      have n10_ : Aside0 (gb1130 ≠ gb1148) := ⟨h10_⟩
      have n11_ : Aside0 (gb1148 ≠ gb1130) := ⟨h11_⟩
      have n12_ : Aside0 (Below w.heap.size w w50) := ⟨h12_⟩
      clear BK1129 BK1130 HB h0_ h1_ h2_ h3_ h4_ h5_ h6_ h7_ h8_ h9_ h10_ h11_ h12_; have HO1137 := n0_; have HO1142 := n1_; have HO1147 := n2_; have BK1129 := n3_; have BK1130 := n4_; have BK1148 := n5_; have GW1148 := n6_; have GE1148 := n7_; have NB1129_1148 := n8_; have NB1148_1129 := n9_; have NB1130_1148 := n10_; have NB1148_1130 := n11_; have HB := n12_; clear n0_ n1_ n2_ n3_ n4_ n5_ n6_ n7_ n8_ n9_ n10_ n11_ n12_
      have hHeld : w50.cell? ⟨gb1129, 0, none⟩ = some (.int .i64 a0_0) ∧ w50.cell? ⟨gb1129, 1, none⟩ = some (.int .i64 a0_1) ∧ w50.cell? ⟨gb1129, 2, none⟩ = some (.slice A0_2 l0_2.length c0_2) ∧ w50.cell? ⟨gb1130, 0, none⟩ = some (.int .i64 a1_0) ∧ w50.cell? ⟨gb1130, 1, none⟩ = some (.int .i64 a1_1) ∧ w50.cell? ⟨gb1130, 2, none⟩ = some (.slice A1_2 l1_2.length c1_2) := hS_
      obtain ⟨Ao53, co53, eo53⟩ := Kd.R_slice HO1147.out
      (first | subst eo53 | (injection eo53 with f1_ f2_ f3_; have f4_ := f1_.symm; have f5_ := f3_.symm; clear f1_ f2_ f3_; subst f4_; subst f5_))
      refine norm_ (a' := ?_) ?_ ?_
      rotate_left
      ·simp only [putAll, Act.put, List.setIfInBounds_toArray, List.set_cons_zero, List.set_cons_succ]
       rfl
      refine one_ (i := 6) (N := none) #[true, true, true, true, true, true, true] rfl rfl (by kernel_rfl) (by decide) (fun K hK => ?_)
      have hs51 : w50.cell? ⟨gb1148, 0, none⟩ = some (.int .i64 0) := (blk_cell BK1148.out 0).trans rfl
      have hfs51 := blk_frozen BK1148.out 0
      have hns51_0 := NB1129_1148.out; have hns51_1 := NB1130_1148.out; have hms51_0 := NB1148_1129.out; have hms51_1 := NB1148_1130.out
      have hs52 : w50.cell? ⟨gb1148, 1, none⟩ = some (.int .i64 0) := (blk_cell BK1148.out 1).trans rfl
      have hfs52 := blk_frozen BK1148.out 1
      have hns52_0 := NB1129_1148.out; have hns52_1 := NB1130_1148.out; have hms52_0 := NB1148_1129.out; have hms52_1 := NB1148_1130.out
      have hs54 : w50.cell? ⟨gb1148, 2, none⟩ = some (.slice none 0 0) := (blk_cell BK1148.out 2).trans rfl
      have hfs54 := blk_frozen BK1148.out 2
      have hns54_0 := NB1129_1148.out; have hns54_1 := NB1130_1148.out; have hms54_0 := NB1148_1129.out; have hms54_1 := NB1148_1130.out
      refine skip_ (w1 := ?_) (by rfl) rfl ?_ ?_
      rotate_left
      ·go_simp
       rfl
      refine hK.out _ _ ⟨((cell_far (p := ⟨gb1148, _, none⟩) NB1129_1148.out _).trans (((cell_far (p := ⟨gb1148, _, none⟩) NB1129_1148.out _).trans (((cell_far (p := ⟨gb1148, _, none⟩) NB1129_1148.out _).trans (hHeld.1)))))), ((cell_far (p := ⟨gb1148, _, none⟩) NB1129_1148.out _).trans (((cell_far (p := ⟨gb1148, _, none⟩) NB1129_1148.out _).trans (((cell_far (p := ⟨gb1148, _, none⟩) NB1129_1148.out _).trans (hHeld.2.1)))))), ((cell_far (p := ⟨gb1148, _, none⟩) NB1129_1148.out _).trans (((cell_far (p := ⟨gb1148, _, none⟩) NB1129_1148.out _).trans (((cell_far (p := ⟨gb1148, _, none⟩) NB1129_1148.out _).trans (hHeld.2.2.1)))))), ((cell_far (p := ⟨gb1148, _, none⟩) NB1130_1148.out _).trans (((cell_far (p := ⟨gb1148, _, none⟩) NB1130_1148.out _).trans (((cell_far (p := ⟨gb1148, _, none⟩) NB1130_1148.out _).trans (hHeld.2.2.2.1)))))), ((cell_far (p := ⟨gb1148, _, none⟩) NB1130_1148.out _).trans (((cell_far (p := ⟨gb1148, _, none⟩) NB1130_1148.out _).trans (((cell_far (p := ⟨gb1148, _, none⟩) NB1130_1148.out _).trans (hHeld.2.2.2.2.1)))))), ((cell_far (p := ⟨gb1148, _, none⟩) NB1130_1148.out _).trans (((cell_far (p := ⟨gb1148, _, none⟩) NB1130_1148.out _).trans (((cell_far (p := ⟨gb1148, _, none⟩) NB1130_1148.out _).trans (hHeld.2.2.2.2.2))))))⟩ (fun hHeld => ?_)
      clear hK K
      refine done_ (by kernel_rfl) ?_
      have hnb55 := NB1129_1148.out; have hnc55 := NB1148_1129.out
      have hcz56_0 : w50.cell? ⟨gb1129, 0, none⟩ = some (.int .i64 a0_0) := (blk_cell BK1129.out 0).trans rfl
      have hcz56_1 : w50.cell? ⟨gb1129, 1, none⟩ = some (.int .i64 a0_1) := (blk_cell BK1129.out 1).trans rfl
      have hcz56_2 : w50.cell? ⟨gb1129, 2, none⟩ = some (.slice A0_2 l0_2.length c0_2) := (blk_cell BK1129.out 2).trans rfl
      have hfz56_0 := blk_frozen BK1129.out 0
      have hfz56_1 := blk_frozen BK1129.out 1
      have hfz56_2 := blk_frozen BK1129.out 2
      try go_wp2_with (first | ((with_reducible refine gate_callee (f := 58) rfl ?_); refine goesL_ (some 30) rfl rfl Try.func58 (by kernel_rfl) rfl #[.agg #[.int .i64 a0_0, .int .i64 a0_1, .slice A0_2 l0_2.length c0_2]] rfl sL_ ?_; (with_reducible refine (laws_toMatrix.calls k a0_0 a0_1 _ _ l0_2 t1149 t1150 t1151 _ ?side1 ?side2 A22.out).mono ?_); (case side1 => exact Kd.C_below HR0_2.out (sW_ HB.out)); (case side2 => exact HC0_2.out); rintro e w57 ⟨v1152, rfl, ho0, hb⟩; refine ⟨_, rfl, ?_⟩; have n0_ := Aside0.mk (Kd.R_elder' (by (with_reducible repeat (first | apply Kd.R_alloc | apply Kd.R_drewN | apply Kd.R_drew)); exact (Kd.R_mono (Kd.R_far (p := ⟨gb1148, 2, none⟩) (Kd.R_far (p := ⟨gb1148, 1, none⟩) (Kd.R_far (p := ⟨gb1148, 0, none⟩) (Kd.R_types HO1137.out BK1148.out (by decide)) (fun _ hk => hk.2) (.int .i64 t1143)) (fun _ hk => hk.2) (.int .i64 t1144)) (fun _ hk => hk.2) (.slice Ao53 t1145.length co53)) (fun _ h_ => h_.1))) (Kd.R_base ho0) hb); have n1_ := Aside0.mk (Kd.R_elder' (by (with_reducible repeat (first | apply Kd.R_alloc | apply Kd.R_drewN | apply Kd.R_drew)); exact (Kd.R_mono (Kd.R_far (p := ⟨gb1148, 2, none⟩) (Kd.R_far (p := ⟨gb1148, 1, none⟩) (Kd.R_far (p := ⟨gb1148, 0, none⟩) (Kd.R_types HO1142.out BK1148.out (by decide)) (fun _ hk => hk.2) (.int .i64 t1143)) (fun _ hk => hk.2) (.int .i64 t1144)) (fun _ hk => hk.2) (.slice Ao53 t1145.length co53)) (fun _ h_ => h_.1))) (Kd.R_base ho0) hb); have n2_ := Aside0.mk (Kd.R_elder' (by (with_reducible repeat (first | apply Kd.R_alloc | apply Kd.R_drewN | apply Kd.R_drew)); exact (Kd.R_mono (Kd.R_far (p := ⟨gb1148, 2, none⟩) (Kd.R_far (p := ⟨gb1148, 1, none⟩) (Kd.R_far (p := ⟨gb1148, 0, none⟩) (Kd.R_types HO1147.out BK1148.out (by decide)) (fun _ hk => hk.2) (.int .i64 t1143)) (fun _ hk => hk.2) (.int .i64 t1144)) (fun _ hk => hk.2) (.slice Ao53 t1145.length co53)) (fun _ h_ => h_.1))) (Kd.R_base ho0) hb); have n3_ := Aside0.mk (Kd.R_lower (Kd.R_new' (Kd.R_new' (Kd.R_new' ho0 (Kd.R_lt (by (with_reducible repeat (first | apply Kd.R_alloc | apply Kd.R_drewN | apply Kd.R_drew)); exact (Kd.R_mono (Kd.R_far (p := ⟨gb1148, 2, none⟩) (Kd.R_far (p := ⟨gb1148, 1, none⟩) (Kd.R_far (p := ⟨gb1148, 0, none⟩) (Kd.R_types HO1137.out BK1148.out (by decide)) (fun _ hk => hk.2) (.int .i64 t1143)) (fun _ hk => hk.2) (.int .i64 t1144)) (fun _ hk => hk.2) (.slice Ao53 t1145.length co53)) (fun _ h_ => h_.1))))) (Kd.R_lt (by (with_reducible repeat (first | apply Kd.R_alloc | apply Kd.R_drewN | apply Kd.R_drew)); exact (Kd.R_mono (Kd.R_far (p := ⟨gb1148, 2, none⟩) (Kd.R_far (p := ⟨gb1148, 1, none⟩) (Kd.R_far (p := ⟨gb1148, 0, none⟩) (Kd.R_types HO1142.out BK1148.out (by decide)) (fun _ hk => hk.2) (.int .i64 t1143)) (fun _ hk => hk.2) (.int .i64 t1144)) (fun _ hk => hk.2) (.slice Ao53 t1145.length co53)) (fun _ h_ => h_.1))))) (Kd.R_lt (by (with_reducible repeat (first | apply Kd.R_alloc | apply Kd.R_drewN | apply Kd.R_drew)); exact (Kd.R_mono (Kd.R_far (p := ⟨gb1148, 2, none⟩) (Kd.R_far (p := ⟨gb1148, 1, none⟩) (Kd.R_far (p := ⟨gb1148, 0, none⟩) (Kd.R_types HO1147.out BK1148.out (by decide)) (fun _ hk => hk.2) (.int .i64 t1143)) (fun _ hk => hk.2) (.int .i64 t1144)) (fun _ hk => hk.2) (.slice Ao53 t1145.length co53)) (fun _ h_ => h_.1))))) (below_size (sW_ HB.out))); have n4_ := Aside0.mk (blk_below (g := gb1129) (o := .cells #[.int .i64 a0_0, .int .i64 a0_1, .slice A0_2 l0_2.length c0_2] 55 (0, 0)) (by refine sB_ ?_; refine blk_far ?_ NB1129_1148.out _; refine sB_ ?_; refine blk_far ?_ NB1129_1148.out _; refine sB_ ?_; refine blk_far ?_ NB1129_1148.out _; refine sB_ ?_; exact BK1129.out) hb); have n5_ := Aside0.mk (blk_below (g := gb1130) (o := .cells #[.int .i64 a1_0, .int .i64 a1_1, .slice A1_2 l1_2.length c1_2] 48 (0, 0)) (by refine sB_ ?_; refine blk_far ?_ NB1130_1148.out _; refine sB_ ?_; refine blk_far ?_ NB1130_1148.out _; refine sB_ ?_; refine blk_far ?_ NB1130_1148.out _; refine sB_ ?_; exact BK1130.out) hb); have n6_ := Aside0.mk (blk_below (g := gb1148) (o := .cells #[.int .i64 t1143, .int .i64 t1144, .slice Ao53 t1145.length co53] 41 (0, 0)) (by refine sB_ ?_; refine blk_put (cs := #[.int .i64 t1143, .int .i64 t1144, .slice none 0 0]) ?_ 2 _ rfl; refine sB_ ?_; refine blk_put (cs := #[.int .i64 t1143, .int .i64 0, .slice none 0 0]) ?_ 1 _ rfl; refine sB_ ?_; refine blk_put (cs := #[.int .i64 0, .int .i64 0, .slice none 0 0]) ?_ 0 _ rfl; refine sB_ ?_; exact BK1148.out) hb); have n7_ := Aside0.mk (below_step (sW_ HB.out) hb); clear HO1137; clear HO1142; clear HO1147; clear BK1129; clear BK1130; clear BK1148; clear HB; have HO1137 := n0_; have HO1142 := n1_; have HO1147 := n2_; have HO1153 := n3_; have BK1129 := n4_; have BK1130 := n5_; have BK1148 := n6_; have HB := n7_; clear n0_ n1_ n2_ n3_ n4_ n5_ n6_ n7_; (try clear hb); (try clear hb2); (try clear hk); (try clear hi); (try clear ho0)) | ((with_reducible refine gate_dst (N := 7) rfl ?_); refine box_event ?hg (N := 7) ?hd (cs := #[.int .i64 0, .int .i64 0, .slice none 0 0]) (t := 26) ?hr ?_; (case hd => rfl); (case hg => rfl); (case hr => first | (go_simp; done) | (go_simp; rfl)); intro gb1154 hg w58 hbox hb; have n0_ := Aside0.mk (Kd.R_below (sR_ HO1137.out) hb); have n1_ := Aside0.mk (Kd.R_below (sR_ HO1142.out) hb); have n2_ := Aside0.mk (Kd.R_below (sR_ HO1147.out) hb); have n3_ := Aside0.mk (Kd.R_below (sR_ HO1153.out) hb); have n4_ := Aside0.mk (blk_below (sB_ BK1129.out) hb); have n5_ := Aside0.mk (blk_below (sB_ BK1130.out) hb); have n6_ := Aside0.mk (blk_below (sB_ BK1148.out) hb); have n7_ := Aside0.mk (below_step (sW_ HB.out) hb); have n8_ := Aside0.mk (hbox); have n9_ := Aside0.mk ((by rw [hg]; exact (below_size (sW_ HB.out)) : w.heap.size ≤ gb1154)); have n10_ := Aside0.mk ((by rw [hg]; exact (below_size (sW_ HB.out)) : w.heap.size ≤ gb1154)); have n11_ := Aside0.mk ((by rw [hg]; exact Nat.ne_of_lt (blk_lt (sB_ BK1129.out)) : gb1129 ≠ gb1154)); have n12_ := Aside0.mk ((by rw [hg]; exact Nat.ne_of_gt (blk_lt (sB_ BK1129.out)) : gb1154 ≠ gb1129)); have n13_ := Aside0.mk ((by rw [hg]; exact Nat.ne_of_lt (blk_lt (sB_ BK1130.out)) : gb1130 ≠ gb1154)); have n14_ := Aside0.mk ((by rw [hg]; exact Nat.ne_of_gt (blk_lt (sB_ BK1130.out)) : gb1154 ≠ gb1130)); have n15_ := Aside0.mk ((by rw [hg]; exact Nat.ne_of_lt (blk_lt (sB_ BK1148.out)) : gb1148 ≠ gb1154)); have n16_ := Aside0.mk ((by rw [hg]; exact Nat.ne_of_gt (blk_lt (sB_ BK1148.out)) : gb1154 ≠ gb1148)); clear HO1137; clear HO1142; clear HO1147; clear HO1153; clear BK1129; clear BK1130; clear BK1148; clear HB; have HO1137 := n0_; have HO1142 := n1_; have HO1147 := n2_; have HO1153 := n3_; have BK1129 := n4_; have BK1130 := n5_; have BK1148 := n6_; have HB := n7_; have BK1154 := n8_; have GW1154 := n9_; have GE1154 := n10_; have NB1129_1154 := n11_; have NB1154_1129 := n12_; have NB1130_1154 := n13_; have NB1154_1130 := n14_; have NB1148_1154 := n15_; have NB1154_1148 := n16_; clear n0_ n1_ n2_ n3_ n4_ n5_ n6_ n7_ n8_ n9_ n10_ n11_ n12_ n13_ n14_ n15_ n16_; clear hb hbox hg; have hnb59 := NB1154_1129.out; have hnc59 := NB1129_1154.out; have hnb60 := NB1154_1130.out; have hnc60 := NB1130_1154.out; have hnb61 := NB1154_1148.out; have hnc61 := NB1148_1154.out; have hcz62_0 : w58.cell? ⟨gb1154, 0, none⟩ = some (.int .i64 0) := (blk_cell BK1154.out 0).trans rfl; have hcz62_1 : w58.cell? ⟨gb1154, 1, none⟩ = some (.int .i64 0) := (blk_cell BK1154.out 1).trans rfl; have hcz62_2 : w58.cell? ⟨gb1154, 2, none⟩ = some (.slice none 0 0) := (blk_cell BK1154.out 2).trans rfl; have hfz62_0 := blk_frozen BK1154.out 0; have hfz62_1 := blk_frozen BK1154.out 1; have hfz62_2 := blk_frozen BK1154.out 2; obtain ⟨Ao63, co63, eo63⟩ := Kd.R_slice HO1153.out; subst eo63; have hnb64 := NB1130_1148.out; have hnc64 := NB1148_1130.out; have hcz65_0 : w58.cell? ⟨gb1130, 0, none⟩ = some (.int .i64 a1_0) := (blk_cell BK1130.out 0).trans rfl; have hcz65_1 : w58.cell? ⟨gb1130, 1, none⟩ = some (.int .i64 a1_1) := (blk_cell BK1130.out 1).trans rfl; have hcz65_2 : w58.cell? ⟨gb1130, 2, none⟩ = some (.slice A1_2 l1_2.length c1_2) := (blk_cell BK1130.out 2).trans rfl; have hfz65_0 := blk_frozen BK1130.out 0; have hfz65_1 := blk_frozen BK1130.out 1; have hfz65_2 := blk_frozen BK1130.out 2) | ((with_reducible refine gate_callee (f := 48) rfl ?_); refine goesL_ (some 32) rfl rfl Try.func48 (by kernel_rfl) rfl #[.agg #[.int .i64 a1_0, .int .i64 a1_1, .slice A1_2 l1_2.length c1_2]] rfl sL_ ?_; (with_reducible refine (laws_toPicture.calls k a1_0 a1_1 _ _ l1_2 t1155 t1156 t1157 _ ?side1 ?side2 A23.out).mono ?_); (case side1 => exact Kd.C_below HR1_2.out (sW_ HB.out)); (case side2 => exact HC1_2.out); rintro e w66 ⟨v1158, rfl, ho0, hb⟩; refine ⟨_, rfl, ?_⟩; have n0_ := Aside0.mk (Kd.R_elder' (by (with_reducible repeat (first | apply Kd.R_alloc | apply Kd.R_drewN | apply Kd.R_drew)); exact (Kd.R_mono (Kd.R_far (p := ⟨gb1154, 2, none⟩) (Kd.R_far (p := ⟨gb1154, 1, none⟩) (Kd.R_far (p := ⟨gb1154, 0, none⟩) (Kd.R_types HO1137.out BK1154.out (by decide)) (fun _ hk => hk.2) (.int .i64 t1149)) (fun _ hk => hk.2) (.int .i64 t1150)) (fun _ hk => hk.2) (.slice Ao63 t1151.length co63)) (fun _ h_ => h_.1))) (Kd.R_base ho0) hb); have n1_ := Aside0.mk (Kd.R_elder' (by (with_reducible repeat (first | apply Kd.R_alloc | apply Kd.R_drewN | apply Kd.R_drew)); exact (Kd.R_mono (Kd.R_far (p := ⟨gb1154, 2, none⟩) (Kd.R_far (p := ⟨gb1154, 1, none⟩) (Kd.R_far (p := ⟨gb1154, 0, none⟩) (Kd.R_types HO1142.out BK1154.out (by decide)) (fun _ hk => hk.2) (.int .i64 t1149)) (fun _ hk => hk.2) (.int .i64 t1150)) (fun _ hk => hk.2) (.slice Ao63 t1151.length co63)) (fun _ h_ => h_.1))) (Kd.R_base ho0) hb); have n2_ := Aside0.mk (Kd.R_elder' (by (with_reducible repeat (first | apply Kd.R_alloc | apply Kd.R_drewN | apply Kd.R_drew)); exact (Kd.R_mono (Kd.R_far (p := ⟨gb1154, 2, none⟩) (Kd.R_far (p := ⟨gb1154, 1, none⟩) (Kd.R_far (p := ⟨gb1154, 0, none⟩) (Kd.R_types HO1147.out BK1154.out (by decide)) (fun _ hk => hk.2) (.int .i64 t1149)) (fun _ hk => hk.2) (.int .i64 t1150)) (fun _ hk => hk.2) (.slice Ao63 t1151.length co63)) (fun _ h_ => h_.1))) (Kd.R_base ho0) hb); have n3_ := Aside0.mk (Kd.R_elder' (by (with_reducible repeat (first | apply Kd.R_alloc | apply Kd.R_drewN | apply Kd.R_drew)); exact (Kd.R_mono (Kd.R_far (p := ⟨gb1154, 2, none⟩) (Kd.R_far (p := ⟨gb1154, 1, none⟩) (Kd.R_far (p := ⟨gb1154, 0, none⟩) (Kd.R_types HO1153.out BK1154.out (by decide)) (fun _ hk => hk.2) (.int .i64 t1149)) (fun _ hk => hk.2) (.int .i64 t1150)) (fun _ hk => hk.2) (.slice Ao63 t1151.length co63)) (fun _ h_ => h_.1))) (Kd.R_base ho0) hb); have n4_ := Aside0.mk (Kd.R_lower (Kd.R_new' (Kd.R_new' (Kd.R_new' (Kd.R_new' ho0 (Kd.R_lt (by (with_reducible repeat (first | apply Kd.R_alloc | apply Kd.R_drewN | apply Kd.R_drew)); exact (Kd.R_mono (Kd.R_far (p := ⟨gb1154, 2, none⟩) (Kd.R_far (p := ⟨gb1154, 1, none⟩) (Kd.R_far (p := ⟨gb1154, 0, none⟩) (Kd.R_types HO1137.out BK1154.out (by decide)) (fun _ hk => hk.2) (.int .i64 t1149)) (fun _ hk => hk.2) (.int .i64 t1150)) (fun _ hk => hk.2) (.slice Ao63 t1151.length co63)) (fun _ h_ => h_.1))))) (Kd.R_lt (by (with_reducible repeat (first | apply Kd.R_alloc | apply Kd.R_drewN | apply Kd.R_drew)); exact (Kd.R_mono (Kd.R_far (p := ⟨gb1154, 2, none⟩) (Kd.R_far (p := ⟨gb1154, 1, none⟩) (Kd.R_far (p := ⟨gb1154, 0, none⟩) (Kd.R_types HO1142.out BK1154.out (by decide)) (fun _ hk => hk.2) (.int .i64 t1149)) (fun _ hk => hk.2) (.int .i64 t1150)) (fun _ hk => hk.2) (.slice Ao63 t1151.length co63)) (fun _ h_ => h_.1))))) (Kd.R_lt (by (with_reducible repeat (first | apply Kd.R_alloc | apply Kd.R_drewN | apply Kd.R_drew)); exact (Kd.R_mono (Kd.R_far (p := ⟨gb1154, 2, none⟩) (Kd.R_far (p := ⟨gb1154, 1, none⟩) (Kd.R_far (p := ⟨gb1154, 0, none⟩) (Kd.R_types HO1147.out BK1154.out (by decide)) (fun _ hk => hk.2) (.int .i64 t1149)) (fun _ hk => hk.2) (.int .i64 t1150)) (fun _ hk => hk.2) (.slice Ao63 t1151.length co63)) (fun _ h_ => h_.1))))) (Kd.R_lt (by (with_reducible repeat (first | apply Kd.R_alloc | apply Kd.R_drewN | apply Kd.R_drew)); exact (Kd.R_mono (Kd.R_far (p := ⟨gb1154, 2, none⟩) (Kd.R_far (p := ⟨gb1154, 1, none⟩) (Kd.R_far (p := ⟨gb1154, 0, none⟩) (Kd.R_types HO1153.out BK1154.out (by decide)) (fun _ hk => hk.2) (.int .i64 t1149)) (fun _ hk => hk.2) (.int .i64 t1150)) (fun _ hk => hk.2) (.slice Ao63 t1151.length co63)) (fun _ h_ => h_.1))))) (below_size (sW_ HB.out))); have n5_ := Aside0.mk (blk_below (g := gb1129) (o := .cells #[.int .i64 a0_0, .int .i64 a0_1, .slice A0_2 l0_2.length c0_2] 55 (0, 0)) (by refine sB_ ?_; refine blk_far ?_ NB1129_1154.out _; refine sB_ ?_; refine blk_far ?_ NB1129_1154.out _; refine sB_ ?_; refine blk_far ?_ NB1129_1154.out _; refine sB_ ?_; exact BK1129.out) hb); have n6_ := Aside0.mk (blk_below (g := gb1130) (o := .cells #[.int .i64 a1_0, .int .i64 a1_1, .slice A1_2 l1_2.length c1_2] 48 (0, 0)) (by refine sB_ ?_; refine blk_far ?_ NB1130_1154.out _; refine sB_ ?_; refine blk_far ?_ NB1130_1154.out _; refine sB_ ?_; refine blk_far ?_ NB1130_1154.out _; refine sB_ ?_; exact BK1130.out) hb); have n7_ := Aside0.mk (blk_below (g := gb1148) (o := .cells #[.int .i64 t1143, .int .i64 t1144, .slice Ao53 t1145.length co53] 41 (0, 0)) (by refine sB_ ?_; refine blk_far ?_ NB1148_1154.out _; refine sB_ ?_; refine blk_far ?_ NB1148_1154.out _; refine sB_ ?_; refine blk_far ?_ NB1148_1154.out _; refine sB_ ?_; exact BK1148.out) hb); have n8_ := Aside0.mk (blk_below (g := gb1154) (o := .cells #[.int .i64 t1149, .int .i64 t1150, .slice Ao63 t1151.length co63] 26 (0, 0)) (by refine sB_ ?_; refine blk_put (cs := #[.int .i64 t1149, .int .i64 t1150, .slice none 0 0]) ?_ 2 _ rfl; refine sB_ ?_; refine blk_put (cs := #[.int .i64 t1149, .int .i64 0, .slice none 0 0]) ?_ 1 _ rfl; refine sB_ ?_; refine blk_put (cs := #[.int .i64 0, .int .i64 0, .slice none 0 0]) ?_ 0 _ rfl; refine sB_ ?_; exact BK1154.out) hb); have n9_ := Aside0.mk (below_step (sW_ HB.out) hb); clear HO1137; clear HO1142; clear HO1147; clear HO1153; clear BK1129; clear BK1130; clear BK1148; clear BK1154; clear HB; have HO1137 := n0_; have HO1142 := n1_; have HO1147 := n2_; have HO1153 := n3_; have HO1159 := n4_; have BK1129 := n5_; have BK1130 := n6_; have BK1148 := n7_; have BK1154 := n8_; have HB := n9_; clear n0_ n1_ n2_ n3_ n4_ n5_ n6_ n7_ n8_ n9_; (try clear hb); (try clear hb2); (try clear hk); (try clear hi); (try clear ho0)) | ((with_reducible refine gate_dst (N := 8) rfl ?_); refine box_event ?hg (N := 8) ?hd (cs := #[.int .i64 0, .int .i64 0, .slice none 0 0]) (t := 41) ?hr ?_; (case hd => rfl); (case hg => rfl); (case hr => first | (go_simp; done) | (go_simp; rfl)); intro gb1160 hg w67 hbox hb; have n0_ := Aside0.mk (Kd.R_below (sR_ HO1137.out) hb); have n1_ := Aside0.mk (Kd.R_below (sR_ HO1142.out) hb); have n2_ := Aside0.mk (Kd.R_below (sR_ HO1147.out) hb); have n3_ := Aside0.mk (Kd.R_below (sR_ HO1153.out) hb); have n4_ := Aside0.mk (Kd.R_below (sR_ HO1159.out) hb); have n5_ := Aside0.mk (blk_below (sB_ BK1129.out) hb); have n6_ := Aside0.mk (blk_below (sB_ BK1130.out) hb); have n7_ := Aside0.mk (blk_below (sB_ BK1148.out) hb); have n8_ := Aside0.mk (blk_below (sB_ BK1154.out) hb); have n9_ := Aside0.mk (below_step (sW_ HB.out) hb); have n10_ := Aside0.mk (hbox); have n11_ := Aside0.mk ((by rw [hg]; exact (below_size (sW_ HB.out)) : w.heap.size ≤ gb1160)); have n12_ := Aside0.mk ((by rw [hg]; exact (below_size (sW_ HB.out)) : w.heap.size ≤ gb1160)); have n13_ := Aside0.mk ((by rw [hg]; exact Nat.ne_of_lt (blk_lt (sB_ BK1129.out)) : gb1129 ≠ gb1160)); have n14_ := Aside0.mk ((by rw [hg]; exact Nat.ne_of_gt (blk_lt (sB_ BK1129.out)) : gb1160 ≠ gb1129)); have n15_ := Aside0.mk ((by rw [hg]; exact Nat.ne_of_lt (blk_lt (sB_ BK1130.out)) : gb1130 ≠ gb1160)); have n16_ := Aside0.mk ((by rw [hg]; exact Nat.ne_of_gt (blk_lt (sB_ BK1130.out)) : gb1160 ≠ gb1130)); have n17_ := Aside0.mk ((by rw [hg]; exact Nat.ne_of_lt (blk_lt (sB_ BK1148.out)) : gb1148 ≠ gb1160)); have n18_ := Aside0.mk ((by rw [hg]; exact Nat.ne_of_gt (blk_lt (sB_ BK1148.out)) : gb1160 ≠ gb1148)); have n19_ := Aside0.mk ((by rw [hg]; exact Nat.ne_of_lt (blk_lt (sB_ BK1154.out)) : gb1154 ≠ gb1160)); have n20_ := Aside0.mk ((by rw [hg]; exact Nat.ne_of_gt (blk_lt (sB_ BK1154.out)) : gb1160 ≠ gb1154)); clear HO1137; clear HO1142; clear HO1147; clear HO1153; clear HO1159; clear BK1129; clear BK1130; clear BK1148; clear BK1154; clear HB; have HO1137 := n0_; have HO1142 := n1_; have HO1147 := n2_; have HO1153 := n3_; have HO1159 := n4_; have BK1129 := n5_; have BK1130 := n6_; have BK1148 := n7_; have BK1154 := n8_; have HB := n9_; have BK1160 := n10_; have GW1160 := n11_; have GE1160 := n12_; have NB1129_1160 := n13_; have NB1160_1129 := n14_; have NB1130_1160 := n15_; have NB1160_1130 := n16_; have NB1148_1160 := n17_; have NB1160_1148 := n18_; have NB1154_1160 := n19_; have NB1160_1154 := n20_; clear n0_ n1_ n2_ n3_ n4_ n5_ n6_ n7_ n8_ n9_ n10_ n11_ n12_ n13_ n14_ n15_ n16_ n17_ n18_ n19_ n20_; clear hb hbox hg; have hnb68 := NB1160_1129.out; have hnc68 := NB1129_1160.out; have hnb69 := NB1160_1130.out; have hnc69 := NB1130_1160.out; have hnb70 := NB1160_1148.out; have hnc70 := NB1148_1160.out; have hnb71 := NB1160_1154.out; have hnc71 := NB1154_1160.out; have hcz72_0 : w67.cell? ⟨gb1160, 0, none⟩ = some (.int .i64 0) := (blk_cell BK1160.out 0).trans rfl; have hcz72_1 : w67.cell? ⟨gb1160, 1, none⟩ = some (.int .i64 0) := (blk_cell BK1160.out 1).trans rfl; have hcz72_2 : w67.cell? ⟨gb1160, 2, none⟩ = some (.slice none 0 0) := (blk_cell BK1160.out 2).trans rfl; have hfz72_0 := blk_frozen BK1160.out 0; have hfz72_1 := blk_frozen BK1160.out 1; have hfz72_2 := blk_frozen BK1160.out 2; obtain ⟨Ao73, co73, eo73⟩ := Kd.R_slice HO1159.out; subst eo73; have hcz74_0 : w67.cell? ⟨gb1154, 0, none⟩ = some (.int .i64 t1149) := (blk_cell BK1154.out 0).trans rfl; have hcz74_1 : w67.cell? ⟨gb1154, 1, none⟩ = some (.int .i64 t1150) := (blk_cell BK1154.out 1).trans rfl; have hcz74_2 : w67.cell? ⟨gb1154, 2, none⟩ = some (.slice Ao63 t1151.length co63) := (blk_cell BK1154.out 2).trans rfl; have hfz74_0 := blk_frozen BK1154.out 0; have hfz74_1 := blk_frozen BK1154.out 1; have hfz74_2 := blk_frozen BK1154.out 2) | ((with_reducible refine gate_callee (f := 72) rfl ?_); refine goesL_ (some 35) rfl rfl Try.func72 (by kernel_rfl) rfl #[.agg #[.int .i64 t1149, .int .i64 t1150, .slice Ao63 t1151.length co63], .agg #[.int .i64 t1155, .int .i64 t1156, .slice Ao73 t1157.length co73]] rfl sL_ ?_; (with_reducible refine (impl_ScreenPicture.calls t1149 t1150 _ _ t1151 t1155 t1156 _ _ t1157 t1161 t1162 t1163 _ ?side1 ?side2 ?side3 ?side4 A24.out).mono ?_); (case side1 => refine (Kd.R_reads' (e := 3) (base := w.heap.size) (ok := fun k_ => ((((True ∧ some k_ ≠ (v1136 : Value).ownBlock) ∧ some k_ ≠ (v1141 : Value).ownBlock) ∧ some k_ ≠ (.slice Ao53 t1145.length co53 : Value).ownBlock) ∧ some k_ ≠ (.slice Ao73 t1157.length co73 : Value).ownBlock)) (n := t1151.length) (c := co63) ?_).2.2; exact (by (with_reducible repeat (first | apply Kd.R_alloc | apply Kd.R_drewN | apply Kd.R_drew)); exact (Kd.R_mono (Kd.R_far (p := ⟨gb1160, 2, none⟩) (Kd.R_far (p := ⟨gb1160, 1, none⟩) (Kd.R_far (p := ⟨gb1160, 0, none⟩) (Kd.R_types HO1153.out BK1160.out (by decide)) (fun _ hk => hk.2) (.int .i64 t1155)) (fun _ hk => hk.2) (.int .i64 t1156)) (fun _ hk => hk.2) (.slice Ao73 t1157.length co73)) (fun _ h_ => h_.1)))); (case side2 => exact (Kd.R_reads' HO1153.out).2.1); (case side3 => refine (Kd.R_reads' (e := 3) (base := w.heap.size) (ok := fun k_ => ((((True ∧ some k_ ≠ (v1136 : Value).ownBlock) ∧ some k_ ≠ (v1141 : Value).ownBlock) ∧ some k_ ≠ (.slice Ao53 t1145.length co53 : Value).ownBlock) ∧ some k_ ≠ (.slice Ao63 t1151.length co63 : Value).ownBlock)) (n := t1157.length) (c := co73) ?_).2.2; exact (by (with_reducible repeat (first | apply Kd.R_alloc | apply Kd.R_drewN | apply Kd.R_drew)); exact (Kd.R_mono (Kd.R_far (p := ⟨gb1160, 2, none⟩) (Kd.R_far (p := ⟨gb1160, 1, none⟩) (Kd.R_far (p := ⟨gb1160, 0, none⟩) (Kd.R_types HO1159.out BK1160.out (by decide)) (fun _ hk => hk.2) (.int .i64 t1155)) (fun _ hk => hk.2) (.int .i64 t1156)) (fun _ hk => hk.2) (.slice Ao73 t1157.length co73)) (fun _ h_ => h_.1)))); (case side4 => exact (Kd.R_reads' HO1159.out).2.1); rintro e w75 ⟨v1164, rfl, ho0, hb⟩; refine ⟨_, rfl, ?_⟩; have n0_ := Aside0.mk (Kd.R_elder' (by (with_reducible repeat (first | apply Kd.R_alloc | apply Kd.R_drewN | apply Kd.R_drew)); exact (Kd.R_mono (Kd.R_far (p := ⟨gb1160, 2, none⟩) (Kd.R_far (p := ⟨gb1160, 1, none⟩) (Kd.R_far (p := ⟨gb1160, 0, none⟩) (Kd.R_types HO1137.out BK1160.out (by decide)) (fun _ hk => hk.2) (.int .i64 t1155)) (fun _ hk => hk.2) (.int .i64 t1156)) (fun _ hk => hk.2) (.slice Ao73 t1157.length co73)) (fun _ h_ => h_.1))) (Kd.R_base ho0) hb); have n1_ := Aside0.mk (Kd.R_elder' (by (with_reducible repeat (first | apply Kd.R_alloc | apply Kd.R_drewN | apply Kd.R_drew)); exact (Kd.R_mono (Kd.R_far (p := ⟨gb1160, 2, none⟩) (Kd.R_far (p := ⟨gb1160, 1, none⟩) (Kd.R_far (p := ⟨gb1160, 0, none⟩) (Kd.R_types HO1142.out BK1160.out (by decide)) (fun _ hk => hk.2) (.int .i64 t1155)) (fun _ hk => hk.2) (.int .i64 t1156)) (fun _ hk => hk.2) (.slice Ao73 t1157.length co73)) (fun _ h_ => h_.1))) (Kd.R_base ho0) hb); have n2_ := Aside0.mk (Kd.R_elder' (by (with_reducible repeat (first | apply Kd.R_alloc | apply Kd.R_drewN | apply Kd.R_drew)); exact (Kd.R_mono (Kd.R_far (p := ⟨gb1160, 2, none⟩) (Kd.R_far (p := ⟨gb1160, 1, none⟩) (Kd.R_far (p := ⟨gb1160, 0, none⟩) (Kd.R_types HO1147.out BK1160.out (by decide)) (fun _ hk => hk.2) (.int .i64 t1155)) (fun _ hk => hk.2) (.int .i64 t1156)) (fun _ hk => hk.2) (.slice Ao73 t1157.length co73)) (fun _ h_ => h_.1))) (Kd.R_base ho0) hb); have n3_ := Aside0.mk (Kd.R_elder' (by (with_reducible repeat (first | apply Kd.R_alloc | apply Kd.R_drewN | apply Kd.R_drew)); exact (Kd.R_mono (Kd.R_far (p := ⟨gb1160, 2, none⟩) (Kd.R_far (p := ⟨gb1160, 1, none⟩) (Kd.R_far (p := ⟨gb1160, 0, none⟩) (Kd.R_types HO1153.out BK1160.out (by decide)) (fun _ hk => hk.2) (.int .i64 t1155)) (fun _ hk => hk.2) (.int .i64 t1156)) (fun _ hk => hk.2) (.slice Ao73 t1157.length co73)) (fun _ h_ => h_.1))) (Kd.R_base ho0) hb); have n4_ := Aside0.mk (Kd.R_elder' (by (with_reducible repeat (first | apply Kd.R_alloc | apply Kd.R_drewN | apply Kd.R_drew)); exact (Kd.R_mono (Kd.R_far (p := ⟨gb1160, 2, none⟩) (Kd.R_far (p := ⟨gb1160, 1, none⟩) (Kd.R_far (p := ⟨gb1160, 0, none⟩) (Kd.R_types HO1159.out BK1160.out (by decide)) (fun _ hk => hk.2) (.int .i64 t1155)) (fun _ hk => hk.2) (.int .i64 t1156)) (fun _ hk => hk.2) (.slice Ao73 t1157.length co73)) (fun _ h_ => h_.1))) (Kd.R_base ho0) hb); have n5_ := Aside0.mk (Kd.R_lower (Kd.R_new' (Kd.R_new' (Kd.R_new' (Kd.R_new' (Kd.R_new' ho0 (Kd.R_lt (by (with_reducible repeat (first | apply Kd.R_alloc | apply Kd.R_drewN | apply Kd.R_drew)); exact (Kd.R_mono (Kd.R_far (p := ⟨gb1160, 2, none⟩) (Kd.R_far (p := ⟨gb1160, 1, none⟩) (Kd.R_far (p := ⟨gb1160, 0, none⟩) (Kd.R_types HO1137.out BK1160.out (by decide)) (fun _ hk => hk.2) (.int .i64 t1155)) (fun _ hk => hk.2) (.int .i64 t1156)) (fun _ hk => hk.2) (.slice Ao73 t1157.length co73)) (fun _ h_ => h_.1))))) (Kd.R_lt (by (with_reducible repeat (first | apply Kd.R_alloc | apply Kd.R_drewN | apply Kd.R_drew)); exact (Kd.R_mono (Kd.R_far (p := ⟨gb1160, 2, none⟩) (Kd.R_far (p := ⟨gb1160, 1, none⟩) (Kd.R_far (p := ⟨gb1160, 0, none⟩) (Kd.R_types HO1142.out BK1160.out (by decide)) (fun _ hk => hk.2) (.int .i64 t1155)) (fun _ hk => hk.2) (.int .i64 t1156)) (fun _ hk => hk.2) (.slice Ao73 t1157.length co73)) (fun _ h_ => h_.1))))) (Kd.R_lt (by (with_reducible repeat (first | apply Kd.R_alloc | apply Kd.R_drewN | apply Kd.R_drew)); exact (Kd.R_mono (Kd.R_far (p := ⟨gb1160, 2, none⟩) (Kd.R_far (p := ⟨gb1160, 1, none⟩) (Kd.R_far (p := ⟨gb1160, 0, none⟩) (Kd.R_types HO1147.out BK1160.out (by decide)) (fun _ hk => hk.2) (.int .i64 t1155)) (fun _ hk => hk.2) (.int .i64 t1156)) (fun _ hk => hk.2) (.slice Ao73 t1157.length co73)) (fun _ h_ => h_.1))))) (Kd.R_lt (by (with_reducible repeat (first | apply Kd.R_alloc | apply Kd.R_drewN | apply Kd.R_drew)); exact (Kd.R_mono (Kd.R_far (p := ⟨gb1160, 2, none⟩) (Kd.R_far (p := ⟨gb1160, 1, none⟩) (Kd.R_far (p := ⟨gb1160, 0, none⟩) (Kd.R_types HO1153.out BK1160.out (by decide)) (fun _ hk => hk.2) (.int .i64 t1155)) (fun _ hk => hk.2) (.int .i64 t1156)) (fun _ hk => hk.2) (.slice Ao73 t1157.length co73)) (fun _ h_ => h_.1))))) (Kd.R_lt (by (with_reducible repeat (first | apply Kd.R_alloc | apply Kd.R_drewN | apply Kd.R_drew)); exact (Kd.R_mono (Kd.R_far (p := ⟨gb1160, 2, none⟩) (Kd.R_far (p := ⟨gb1160, 1, none⟩) (Kd.R_far (p := ⟨gb1160, 0, none⟩) (Kd.R_types HO1159.out BK1160.out (by decide)) (fun _ hk => hk.2) (.int .i64 t1155)) (fun _ hk => hk.2) (.int .i64 t1156)) (fun _ hk => hk.2) (.slice Ao73 t1157.length co73)) (fun _ h_ => h_.1))))) (below_size (sW_ HB.out))); have n6_ := Aside0.mk (blk_below (g := gb1129) (o := .cells #[.int .i64 a0_0, .int .i64 a0_1, .slice A0_2 l0_2.length c0_2] 55 (0, 0)) (by refine sB_ ?_; refine blk_far ?_ NB1129_1160.out _; refine sB_ ?_; refine blk_far ?_ NB1129_1160.out _; refine sB_ ?_; refine blk_far ?_ NB1129_1160.out _; refine sB_ ?_; exact BK1129.out) hb); have n7_ := Aside0.mk (blk_below (g := gb1130) (o := .cells #[.int .i64 a1_0, .int .i64 a1_1, .slice A1_2 l1_2.length c1_2] 48 (0, 0)) (by refine sB_ ?_; refine blk_far ?_ NB1130_1160.out _; refine sB_ ?_; refine blk_far ?_ NB1130_1160.out _; refine sB_ ?_; refine blk_far ?_ NB1130_1160.out _; refine sB_ ?_; exact BK1130.out) hb); have n8_ := Aside0.mk (blk_below (g := gb1148) (o := .cells #[.int .i64 t1143, .int .i64 t1144, .slice Ao53 t1145.length co53] 41 (0, 0)) (by refine sB_ ?_; refine blk_far ?_ NB1148_1160.out _; refine sB_ ?_; refine blk_far ?_ NB1148_1160.out _; refine sB_ ?_; refine blk_far ?_ NB1148_1160.out _; refine sB_ ?_; exact BK1148.out) hb); have n9_ := Aside0.mk (blk_below (g := gb1154) (o := .cells #[.int .i64 t1149, .int .i64 t1150, .slice Ao63 t1151.length co63] 26 (0, 0)) (by refine sB_ ?_; refine blk_far ?_ NB1154_1160.out _; refine sB_ ?_; refine blk_far ?_ NB1154_1160.out _; refine sB_ ?_; refine blk_far ?_ NB1154_1160.out _; refine sB_ ?_; exact BK1154.out) hb); have n10_ := Aside0.mk (blk_below (g := gb1160) (o := .cells #[.int .i64 t1155, .int .i64 t1156, .slice Ao73 t1157.length co73] 41 (0, 0)) (by refine sB_ ?_; refine blk_put (cs := #[.int .i64 t1155, .int .i64 t1156, .slice none 0 0]) ?_ 2 _ rfl; refine sB_ ?_; refine blk_put (cs := #[.int .i64 t1155, .int .i64 0, .slice none 0 0]) ?_ 1 _ rfl; refine sB_ ?_; refine blk_put (cs := #[.int .i64 0, .int .i64 0, .slice none 0 0]) ?_ 0 _ rfl; refine sB_ ?_; exact BK1160.out) hb); have n11_ := Aside0.mk (below_step (sW_ HB.out) hb); clear HO1137; clear HO1142; clear HO1147; clear HO1153; clear HO1159; clear BK1129; clear BK1130; clear BK1148; clear BK1154; clear BK1160; clear HB; have HO1137 := n0_; have HO1142 := n1_; have HO1147 := n2_; have HO1153 := n3_; have HO1159 := n4_; have HO1165 := n5_; have BK1129 := n6_; have BK1130 := n7_; have BK1148 := n8_; have BK1154 := n9_; have BK1160 := n10_; have HB := n11_; clear n0_ n1_ n2_ n3_ n4_ n5_ n6_ n7_ n8_ n9_ n10_ n11_; (try clear hb); (try clear hb2); (try clear hk); (try clear hi); (try clear ho0)) | ((with_reducible refine gate_dst (N := 9) rfl ?_); refine box_event ?hg (N := 9) ?hd (cs := #[.int .i64 0, .int .i64 0, .slice none 0 0]) (t := 41) ?hr ?_; (case hd => rfl); (case hg => rfl); (case hr => first | (go_simp; done) | (go_simp; rfl)); intro gb1166 hg w76 hbox hb; have n0_ := Aside0.mk (Kd.R_below (sR_ HO1137.out) hb); have n1_ := Aside0.mk (Kd.R_below (sR_ HO1142.out) hb); have n2_ := Aside0.mk (Kd.R_below (sR_ HO1147.out) hb); have n3_ := Aside0.mk (Kd.R_below (sR_ HO1153.out) hb); have n4_ := Aside0.mk (Kd.R_below (sR_ HO1159.out) hb); have n5_ := Aside0.mk (Kd.R_below (sR_ HO1165.out) hb); have n6_ := Aside0.mk (blk_below (sB_ BK1129.out) hb); have n7_ := Aside0.mk (blk_below (sB_ BK1130.out) hb); have n8_ := Aside0.mk (blk_below (sB_ BK1148.out) hb); have n9_ := Aside0.mk (blk_below (sB_ BK1154.out) hb); have n10_ := Aside0.mk (blk_below (sB_ BK1160.out) hb); have n11_ := Aside0.mk (below_step (sW_ HB.out) hb); have n12_ := Aside0.mk (hbox); have n13_ := Aside0.mk ((by rw [hg]; exact (below_size (sW_ HB.out)) : w.heap.size ≤ gb1166)); have n14_ := Aside0.mk ((by rw [hg]; exact (below_size (sW_ HB.out)) : w.heap.size ≤ gb1166)); have n15_ := Aside0.mk ((by rw [hg]; exact Nat.ne_of_lt (blk_lt (sB_ BK1129.out)) : gb1129 ≠ gb1166)); have n16_ := Aside0.mk ((by rw [hg]; exact Nat.ne_of_gt (blk_lt (sB_ BK1129.out)) : gb1166 ≠ gb1129)); have n17_ := Aside0.mk ((by rw [hg]; exact Nat.ne_of_lt (blk_lt (sB_ BK1130.out)) : gb1130 ≠ gb1166)); have n18_ := Aside0.mk ((by rw [hg]; exact Nat.ne_of_gt (blk_lt (sB_ BK1130.out)) : gb1166 ≠ gb1130)); have n19_ := Aside0.mk ((by rw [hg]; exact Nat.ne_of_lt (blk_lt (sB_ BK1148.out)) : gb1148 ≠ gb1166)); have n20_ := Aside0.mk ((by rw [hg]; exact Nat.ne_of_gt (blk_lt (sB_ BK1148.out)) : gb1166 ≠ gb1148)); have n21_ := Aside0.mk ((by rw [hg]; exact Nat.ne_of_lt (blk_lt (sB_ BK1154.out)) : gb1154 ≠ gb1166)); have n22_ := Aside0.mk ((by rw [hg]; exact Nat.ne_of_gt (blk_lt (sB_ BK1154.out)) : gb1166 ≠ gb1154)); have n23_ := Aside0.mk ((by rw [hg]; exact Nat.ne_of_lt (blk_lt (sB_ BK1160.out)) : gb1160 ≠ gb1166)); have n24_ := Aside0.mk ((by rw [hg]; exact Nat.ne_of_gt (blk_lt (sB_ BK1160.out)) : gb1166 ≠ gb1160)); clear HO1137; clear HO1142; clear HO1147; clear HO1153; clear HO1159; clear HO1165; clear BK1129; clear BK1130; clear BK1148; clear BK1154; clear BK1160; clear HB; have HO1137 := n0_; have HO1142 := n1_; have HO1147 := n2_; have HO1153 := n3_; have HO1159 := n4_; have HO1165 := n5_; have BK1129 := n6_; have BK1130 := n7_; have BK1148 := n8_; have BK1154 := n9_; have BK1160 := n10_; have HB := n11_; have BK1166 := n12_; have GW1166 := n13_; have GE1166 := n14_; have NB1129_1166 := n15_; have NB1166_1129 := n16_; have NB1130_1166 := n17_; have NB1166_1130 := n18_; have NB1148_1166 := n19_; have NB1166_1148 := n20_; have NB1154_1166 := n21_; have NB1166_1154 := n22_; have NB1160_1166 := n23_; have NB1166_1160 := n24_; clear n0_ n1_ n2_ n3_ n4_ n5_ n6_ n7_ n8_ n9_ n10_ n11_ n12_ n13_ n14_ n15_ n16_ n17_ n18_ n19_ n20_ n21_ n22_ n23_ n24_; clear hb hbox hg; have hnb77 := NB1166_1129.out; have hnc77 := NB1129_1166.out; have hnb78 := NB1166_1130.out; have hnc78 := NB1130_1166.out; have hnb79 := NB1166_1148.out; have hnc79 := NB1148_1166.out; have hnb80 := NB1166_1154.out; have hnc80 := NB1154_1166.out; have hnb81 := NB1166_1160.out; have hnc81 := NB1160_1166.out; have hcz82_0 : w76.cell? ⟨gb1166, 0, none⟩ = some (.int .i64 0) := (blk_cell BK1166.out 0).trans rfl; have hcz82_1 : w76.cell? ⟨gb1166, 1, none⟩ = some (.int .i64 0) := (blk_cell BK1166.out 1).trans rfl; have hcz82_2 : w76.cell? ⟨gb1166, 2, none⟩ = some (.slice none 0 0) := (blk_cell BK1166.out 2).trans rfl; have hfz82_0 := blk_frozen BK1166.out 0; have hfz82_1 := blk_frozen BK1166.out 1; have hfz82_2 := blk_frozen BK1166.out 2; obtain ⟨Ao83, co83, eo83⟩ := Kd.R_slice HO1165.out; subst eo83; have hcz84_0 : w76.cell? ⟨gb1148, 0, none⟩ = some (.int .i64 t1143) := (blk_cell BK1148.out 0).trans rfl; have hcz84_1 : w76.cell? ⟨gb1148, 1, none⟩ = some (.int .i64 t1144) := (blk_cell BK1148.out 1).trans rfl; have hcz84_2 : w76.cell? ⟨gb1148, 2, none⟩ = some (.slice Ao53 t1145.length co53) := (blk_cell BK1148.out 2).trans rfl; have hfz84_0 := blk_frozen BK1148.out 0; have hfz84_1 := blk_frozen BK1148.out 1; have hfz84_2 := blk_frozen BK1148.out 2) | ((with_reducible refine gate_callee (f := 49) rfl ?_); refine goesL_ (some 38) rfl rfl Try.func49 (by kernel_rfl) rfl #[.agg #[.int .i64 t1161, .int .i64 t1162, .slice Ao83 t1163.length co83], .agg #[.int .i64 t1143, .int .i64 t1144, .slice Ao53 t1145.length co53]] rfl sL_ ?_; (with_reducible refine (laws_eqPicture.calls k t1161 t1162 _ _ t1163 t1143 t1144 _ _ t1145 true _ ?side1 ?side2 ?side3 ?side4 A25.out).mono ?_); (case side1 => refine (Kd.R_reads' (e := 3) (base := w.heap.size) (ok := fun k_ => (((((True ∧ some k_ ≠ (v1136 : Value).ownBlock) ∧ some k_ ≠ (v1141 : Value).ownBlock) ∧ some k_ ≠ (.slice Ao53 t1145.length co53 : Value).ownBlock) ∧ some k_ ≠ (.slice Ao63 t1151.length co63 : Value).ownBlock) ∧ some k_ ≠ (.slice Ao73 t1157.length co73 : Value).ownBlock)) (n := t1163.length) (c := co83) ?_).2.2; exact (by (with_reducible repeat (first | apply Kd.R_alloc | apply Kd.R_drewN | apply Kd.R_drew)); exact (Kd.R_mono (Kd.R_far (p := ⟨gb1166, 2, none⟩) (Kd.R_far (p := ⟨gb1166, 1, none⟩) (Kd.R_far (p := ⟨gb1166, 0, none⟩) (Kd.R_types HO1165.out BK1166.out (by decide)) (fun _ hk => hk.2) (.int .i64 t1161)) (fun _ hk => hk.2) (.int .i64 t1162)) (fun _ hk => hk.2) (.slice Ao83 t1163.length co83)) (fun _ h_ => h_.1)))); (case side2 => exact (Kd.R_reads' HO1165.out).2.1); (case side3 => refine (Kd.R_reads' (e := 3) (base := w.heap.size) (ok := fun k_ => ((((some k_ ≠ (v1136 : Value).ownBlock ∧ some k_ ≠ (v1141 : Value).ownBlock) ∧ some k_ ≠ (.slice Ao63 t1151.length co63 : Value).ownBlock) ∧ some k_ ≠ (.slice Ao73 t1157.length co73 : Value).ownBlock) ∧ some k_ ≠ (.slice Ao83 t1163.length co83 : Value).ownBlock)) (n := t1145.length) (c := co53) ?_).2.2; exact (by (with_reducible repeat (first | apply Kd.R_alloc | apply Kd.R_drewN | apply Kd.R_drew)); exact (Kd.R_mono (Kd.R_far (p := ⟨gb1166, 2, none⟩) (Kd.R_far (p := ⟨gb1166, 1, none⟩) (Kd.R_far (p := ⟨gb1166, 0, none⟩) (Kd.R_types HO1147.out BK1166.out (by decide)) (fun _ hk => hk.2) (.int .i64 t1161)) (fun _ hk => hk.2) (.int .i64 t1162)) (fun _ hk => hk.2) (.slice Ao83 t1163.length co83)) (fun _ h_ => h_.1)))); (case side4 => exact (Kd.R_reads' HO1147.out).2.1); rintro e w85 ⟨rfl, hb⟩; refine ⟨_, rfl, ?_⟩; have n0_ := Aside0.mk (Kd.R_below (by (with_reducible repeat (first | apply Kd.R_alloc | apply Kd.R_drewN | apply Kd.R_drew)); exact (Kd.R_mono (Kd.R_far (p := ⟨gb1166, 2, none⟩) (Kd.R_far (p := ⟨gb1166, 1, none⟩) (Kd.R_far (p := ⟨gb1166, 0, none⟩) (Kd.R_types HO1137.out BK1166.out (by decide)) (fun _ hk => hk.2) (.int .i64 t1161)) (fun _ hk => hk.2) (.int .i64 t1162)) (fun _ hk => hk.2) (.slice Ao83 t1163.length co83)) (fun _ h_ => h_.1))) hb); have n1_ := Aside0.mk (Kd.R_below (by (with_reducible repeat (first | apply Kd.R_alloc | apply Kd.R_drewN | apply Kd.R_drew)); exact (Kd.R_mono (Kd.R_far (p := ⟨gb1166, 2, none⟩) (Kd.R_far (p := ⟨gb1166, 1, none⟩) (Kd.R_far (p := ⟨gb1166, 0, none⟩) (Kd.R_types HO1142.out BK1166.out (by decide)) (fun _ hk => hk.2) (.int .i64 t1161)) (fun _ hk => hk.2) (.int .i64 t1162)) (fun _ hk => hk.2) (.slice Ao83 t1163.length co83)) (fun _ h_ => h_.1))) hb); have n2_ := Aside0.mk (Kd.R_below (by (with_reducible repeat (first | apply Kd.R_alloc | apply Kd.R_drewN | apply Kd.R_drew)); exact (Kd.R_mono (Kd.R_far (p := ⟨gb1166, 2, none⟩) (Kd.R_far (p := ⟨gb1166, 1, none⟩) (Kd.R_far (p := ⟨gb1166, 0, none⟩) (Kd.R_types HO1147.out BK1166.out (by decide)) (fun _ hk => hk.2) (.int .i64 t1161)) (fun _ hk => hk.2) (.int .i64 t1162)) (fun _ hk => hk.2) (.slice Ao83 t1163.length co83)) (fun _ h_ => h_.1))) hb); have n3_ := Aside0.mk (Kd.R_below (by (with_reducible repeat (first | apply Kd.R_alloc | apply Kd.R_drewN | apply Kd.R_drew)); exact (Kd.R_mono (Kd.R_far (p := ⟨gb1166, 2, none⟩) (Kd.R_far (p := ⟨gb1166, 1, none⟩) (Kd.R_far (p := ⟨gb1166, 0, none⟩) (Kd.R_types HO1153.out BK1166.out (by decide)) (fun _ hk => hk.2) (.int .i64 t1161)) (fun _ hk => hk.2) (.int .i64 t1162)) (fun _ hk => hk.2) (.slice Ao83 t1163.length co83)) (fun _ h_ => h_.1))) hb); have n4_ := Aside0.mk (Kd.R_below (by (with_reducible repeat (first | apply Kd.R_alloc | apply Kd.R_drewN | apply Kd.R_drew)); exact (Kd.R_mono (Kd.R_far (p := ⟨gb1166, 2, none⟩) (Kd.R_far (p := ⟨gb1166, 1, none⟩) (Kd.R_far (p := ⟨gb1166, 0, none⟩) (Kd.R_types HO1159.out BK1166.out (by decide)) (fun _ hk => hk.2) (.int .i64 t1161)) (fun _ hk => hk.2) (.int .i64 t1162)) (fun _ hk => hk.2) (.slice Ao83 t1163.length co83)) (fun _ h_ => h_.1))) hb); have n5_ := Aside0.mk (Kd.R_below (by (with_reducible repeat (first | apply Kd.R_alloc | apply Kd.R_drewN | apply Kd.R_drew)); exact (Kd.R_mono (Kd.R_far (p := ⟨gb1166, 2, none⟩) (Kd.R_far (p := ⟨gb1166, 1, none⟩) (Kd.R_far (p := ⟨gb1166, 0, none⟩) (Kd.R_types HO1165.out BK1166.out (by decide)) (fun _ hk => hk.2) (.int .i64 t1161)) (fun _ hk => hk.2) (.int .i64 t1162)) (fun _ hk => hk.2) (.slice Ao83 t1163.length co83)) (fun _ h_ => h_.1))) hb); have n6_ := Aside0.mk (blk_below (g := gb1129) (o := .cells #[.int .i64 a0_0, .int .i64 a0_1, .slice A0_2 l0_2.length c0_2] 55 (0, 0)) (by refine sB_ ?_; refine blk_far ?_ NB1129_1166.out _; refine sB_ ?_; refine blk_far ?_ NB1129_1166.out _; refine sB_ ?_; refine blk_far ?_ NB1129_1166.out _; refine sB_ ?_; exact BK1129.out) hb); have n7_ := Aside0.mk (blk_below (g := gb1130) (o := .cells #[.int .i64 a1_0, .int .i64 a1_1, .slice A1_2 l1_2.length c1_2] 48 (0, 0)) (by refine sB_ ?_; refine blk_far ?_ NB1130_1166.out _; refine sB_ ?_; refine blk_far ?_ NB1130_1166.out _; refine sB_ ?_; refine blk_far ?_ NB1130_1166.out _; refine sB_ ?_; exact BK1130.out) hb); have n8_ := Aside0.mk (blk_below (g := gb1148) (o := .cells #[.int .i64 t1143, .int .i64 t1144, .slice Ao53 t1145.length co53] 41 (0, 0)) (by refine sB_ ?_; refine blk_far ?_ NB1148_1166.out _; refine sB_ ?_; refine blk_far ?_ NB1148_1166.out _; refine sB_ ?_; refine blk_far ?_ NB1148_1166.out _; refine sB_ ?_; exact BK1148.out) hb); have n9_ := Aside0.mk (blk_below (g := gb1154) (o := .cells #[.int .i64 t1149, .int .i64 t1150, .slice Ao63 t1151.length co63] 26 (0, 0)) (by refine sB_ ?_; refine blk_far ?_ NB1154_1166.out _; refine sB_ ?_; refine blk_far ?_ NB1154_1166.out _; refine sB_ ?_; refine blk_far ?_ NB1154_1166.out _; refine sB_ ?_; exact BK1154.out) hb); have n10_ := Aside0.mk (blk_below (g := gb1160) (o := .cells #[.int .i64 t1155, .int .i64 t1156, .slice Ao73 t1157.length co73] 41 (0, 0)) (by refine sB_ ?_; refine blk_far ?_ NB1160_1166.out _; refine sB_ ?_; refine blk_far ?_ NB1160_1166.out _; refine sB_ ?_; refine blk_far ?_ NB1160_1166.out _; refine sB_ ?_; exact BK1160.out) hb); have n11_ := Aside0.mk (blk_below (g := gb1166) (o := .cells #[.int .i64 t1161, .int .i64 t1162, .slice Ao83 t1163.length co83] 41 (0, 0)) (by refine sB_ ?_; refine blk_put (cs := #[.int .i64 t1161, .int .i64 t1162, .slice none 0 0]) ?_ 2 _ rfl; refine sB_ ?_; refine blk_put (cs := #[.int .i64 t1161, .int .i64 0, .slice none 0 0]) ?_ 1 _ rfl; refine sB_ ?_; refine blk_put (cs := #[.int .i64 0, .int .i64 0, .slice none 0 0]) ?_ 0 _ rfl; refine sB_ ?_; exact BK1166.out) hb); have n12_ := Aside0.mk (below_step (sW_ HB.out) hb); clear HO1137; clear HO1142; clear HO1147; clear HO1153; clear HO1159; clear HO1165; clear BK1129; clear BK1130; clear BK1148; clear BK1154; clear BK1160; clear BK1166; clear HB; have HO1137 := n0_; have HO1142 := n1_; have HO1147 := n2_; have HO1153 := n3_; have HO1159 := n4_; have HO1165 := n5_; have BK1129 := n6_; have BK1130 := n7_; have BK1148 := n8_; have BK1154 := n9_; have BK1160 := n10_; have BK1166 := n11_; have HB := n12_; clear n0_ n1_ n2_ n3_ n4_ n5_ n6_ n7_ n8_ n9_ n10_ n11_ n12_; (try clear hb); (try clear hb2); (try clear hk); (try clear hi)))
      have n0_ := Aside0.mk (Kd.R_drew HO1137.out)
      have n1_ := Aside0.mk (Kd.R_drew HO1142.out)
      have n2_ := Aside0.mk (Kd.R_drew HO1147.out)
      have n3_ := Aside0.mk (Kd.R_drew HO1153.out)
      have n4_ := Aside0.mk (Kd.R_drew HO1159.out)
      have n5_ := Aside0.mk (Kd.R_drew HO1165.out)
      have n6_ := Aside0.mk (blk_drew BK1129.out)
      have n7_ := Aside0.mk (blk_drew BK1130.out)
      have n8_ := Aside0.mk (blk_drew BK1148.out)
      have n9_ := Aside0.mk (blk_drew BK1154.out)
      have n10_ := Aside0.mk (blk_drew BK1160.out)
      have n11_ := Aside0.mk (blk_drew BK1166.out)
      have n12_ := Aside0.mk (below_drew1 HB.out)
      clear HO1137 HO1142 HO1147 HO1153 HO1159 HO1165 BK1129 BK1130 BK1148 BK1154 BK1160 BK1166 HB; have HO1137 := n0_; have HO1142 := n1_; have HO1147 := n2_; have HO1153 := n3_; have HO1159 := n4_; have HO1165 := n5_; have BK1129 := n6_; have BK1130 := n7_; have BK1148 := n8_; have BK1154 := n9_; have BK1160 := n10_; have BK1166 := n11_; have HB := n12_; clear n0_ n1_ n2_ n3_ n4_ n5_ n6_ n7_ n8_ n9_ n10_ n11_ n12_
      refine start_ (n := 5) (S := fun w' => w'.cell? ⟨gb1154, 0, none⟩ = some (.int .i64 t1149) ∧ w'.cell? ⟨gb1154, 1, none⟩ = some (.int .i64 t1150) ∧ w'.cell? ⟨gb1154, 2, none⟩ = some (.slice Ao63 t1151.length co63) ∧ w'.cell? ⟨gb1129, 0, none⟩ = some (.int .i64 a0_0) ∧ w'.cell? ⟨gb1129, 1, none⟩ = some (.int .i64 a0_1) ∧ w'.cell? ⟨gb1129, 2, none⟩ = some (.slice A0_2 l0_2.length c0_2)) (ds := []) #[false, false, false, false, false] (by kernel_rfl) rfl rfl ⟨(blk_cell BK1154.out 0).trans rfl, (blk_cell BK1154.out 1).trans rfl, (blk_cell BK1154.out 2).trans rfl, (blk_cell BK1129.out 0).trans rfl, (blk_cell BK1129.out 1).trans rfl, (blk_cell BK1129.out 2).trans rfl⟩ (fun hHeld => ?_)
      generalize w85.drew = w86 at HO1137 HO1142 HO1147 HO1153 HO1159 HO1165 BK1129 BK1130 BK1148 BK1154 BK1160 BK1166 HB hHeld ⊢
      refine take_ (i := 0) (N := some 40) (v := ?_) (a' := ?_) #[true, false, false, false, false] rfl rfl (by kernel_rfl) (fun _ _ _ h => h) (Or.inl ⟨by rfl, ?_⟩) hHeld ?_ ?_
      rotate_left
      ·rintro w' ⟨s0, s1, s2, s3, s4, s5⟩
       go_simp
       with_reducible rfl
      rotate_left
      ·simp only [Act.put, List.setIfInBounds_toArray, List.set_cons_zero, List.set_cons_succ, i64_w, i32_w]
       rfl
      refine take_ (i := 1) (N := some 41) (v := ?_) (a' := ?_) #[true, true, false, false, false] rfl rfl (by kernel_rfl) (fun _ _ _ h => h) (Or.inl ⟨by rfl, ?_⟩) hHeld ?_ ?_
      rotate_left
      ·rintro w' ⟨s0, s1, s2, s3, s4, s5⟩
       go_simp
       with_reducible rfl
      rotate_left
      ·simp only [Act.put, List.setIfInBounds_toArray, List.set_cons_zero, List.set_cons_succ, i64_w, i32_w]
       rfl
      refine one_ (i := 2) (N := some 42) #[true, true, true, false, false] rfl rfl (by kernel_rfl) (by decide) (fun K hK => ?_)
      refine goes_ Try.func58 (by kernel_rfl) rfl #[.agg #[.int .i64 a0_0, .int .i64 a0_1, .slice A0_2 l0_2.length c0_2]] (by rfl) rfl rfl sL_ ?_
      with_reducible refine (laws_toMatrix.calls k a0_0 a0_1 _ _ l0_2 t1168 t1169 t1170 _ ?side1 ?side2 A27.out).mono ?_
      (case side1 => repeat (first | exact (Kd.C_below HR0_2.out HB.out) | (with_reducible refine Kd.C_alloc ?_ _) | (with_reducible refine Kd.C_drewN ?_ _) | (with_reducible refine Kd.C_drew ?_)))
      (case side2 => exact HC0_2.out)
      rintro e w87 ⟨v1171, rfl, ho0, hb⟩
      refine ⟨_, rfl, ?_⟩
      have n0_ := Aside0.mk (Kd.R_elder' (sR_ HO1137.out) (Kd.R_base ho0) hb)
      have n1_ := Aside0.mk (Kd.R_elder' (sR_ HO1142.out) (Kd.R_base ho0) hb)
      have n2_ := Aside0.mk (Kd.R_elder' (sR_ HO1147.out) (Kd.R_base ho0) hb)
      have n3_ := Aside0.mk (Kd.R_elder' (sR_ HO1153.out) (Kd.R_base ho0) hb)
      have n4_ := Aside0.mk (Kd.R_elder' (sR_ HO1159.out) (Kd.R_base ho0) hb)
      have n5_ := Aside0.mk (Kd.R_elder' (sR_ HO1165.out) (Kd.R_base ho0) hb)
      have n6_ := Aside0.mk (Kd.R_lower (Kd.R_new' (Kd.R_new' (Kd.R_new' (Kd.R_new' (Kd.R_new' (Kd.R_new' ho0 (Kd.R_lt (sR_ HO1137.out))) (Kd.R_lt (sR_ HO1142.out))) (Kd.R_lt (sR_ HO1147.out))) (Kd.R_lt (sR_ HO1153.out))) (Kd.R_lt (sR_ HO1159.out))) (Kd.R_lt (sR_ HO1165.out))) (below_size (sW_ HB.out)))
      have n7_ := Aside0.mk (blk_below (sB_ BK1129.out) hb)
      have n8_ := Aside0.mk (blk_below (sB_ BK1130.out) hb)
      have n9_ := Aside0.mk (blk_below (sB_ BK1148.out) hb)
      have n10_ := Aside0.mk (blk_below (sB_ BK1154.out) hb)
      have n11_ := Aside0.mk (blk_below (sB_ BK1160.out) hb)
      have n12_ := Aside0.mk (blk_below (sB_ BK1166.out) hb)
      have n13_ := Aside0.mk (below_step (sW_ HB.out) hb)
      clear HO1137 HO1142 HO1147 HO1153 HO1159 HO1165 BK1129 BK1130 BK1148 BK1154 BK1160 BK1166 HB; have HO1137 := n0_; have HO1142 := n1_; have HO1147 := n2_; have HO1153 := n3_; have HO1159 := n4_; have HO1165 := n5_; have HO1172 := n6_; have BK1129 := n7_; have BK1130 := n8_; have BK1148 := n9_; have BK1154 := n10_; have BK1160 := n11_; have BK1166 := n12_; have HB := n13_; clear n0_ n1_ n2_ n3_ n4_ n5_ n6_ n7_ n8_ n9_ n10_ n11_ n12_ n13_
      (try clear hb)
      (try clear hb2)
      (try clear hk)
      (try clear hi)
      (try clear ho0)
      obtain ⟨Ao88, co88, eo88⟩ := Kd.R_slice HO1172.out
      (first | subst eo88 | (injection eo88 with f1_ f2_ f3_; have f4_ := f1_.symm; have f5_ := f3_.symm; clear f1_ f2_ f3_; subst f4_; subst f5_))
      refine hK.out _ _ ⟨(blk_cell BK1154.out 0).trans rfl, (blk_cell BK1154.out 1).trans rfl, (blk_cell BK1154.out 2).trans rfl, (blk_cell BK1129.out 0).trans rfl, (blk_cell BK1129.out 1).trans rfl, (blk_cell BK1129.out 2).trans rfl⟩ (fun hHeld => ?_)
      clear hK K
      refine norm_ (a' := ?_) ?_ ?_
      rotate_left
      ·show Act.put _ (some 42) _ = _
       simp only [Act.put, List.setIfInBounds_toArray, List.set_cons_zero, List.set_cons_succ, i64_w, i32_w]
       rfl
      refine one_ (i := 3) (N := some 43) #[true, true, true, true, false] rfl rfl (by kernel_rfl) (by decide) (fun K hK => ?_)
      refine goes_ Try.func34 (by kernel_rfl) rfl #[.agg #[.int .i64 t1149, .int .i64 t1150, .slice Ao63 t1151.length co63], .agg #[.int .i64 t1168, .int .i64 t1169, .slice Ao88 t1170.length co88]] (by rfl) rfl rfl sL_ ?_
      with_reducible refine (laws_eqMatrix.calls k t1149 t1150 _ _ t1151 t1168 t1169 _ _ t1170 true _ ?side1 ?side2 ?side3 ?side4 A28.out).mono ?_
      (case side1 => repeat (first | exact (Kd.R_reads' HO1153.out).2.2 | (with_reducible refine Kd.C_alloc ?_ _) | (with_reducible refine Kd.C_drewN ?_ _) | (with_reducible refine Kd.C_drew ?_)))
      (case side2 => exact (Kd.R_reads' HO1153.out).2.1)
      (case side3 => repeat (first | exact (Kd.R_reads' HO1172.out).2.2 | (with_reducible refine Kd.C_alloc ?_ _) | (with_reducible refine Kd.C_drewN ?_ _) | (with_reducible refine Kd.C_drew ?_)))
      (case side4 => exact (Kd.R_reads' HO1172.out).2.1)
      rintro e w89 ⟨rfl, hb⟩
      refine ⟨_, rfl, ?_⟩
      have n0_ := Aside0.mk (Kd.R_below (sR_ HO1137.out) hb)
      have n1_ := Aside0.mk (Kd.R_below (sR_ HO1142.out) hb)
      have n2_ := Aside0.mk (Kd.R_below (sR_ HO1147.out) hb)
      have n3_ := Aside0.mk (Kd.R_below (sR_ HO1153.out) hb)
      have n4_ := Aside0.mk (Kd.R_below (sR_ HO1159.out) hb)
      have n5_ := Aside0.mk (Kd.R_below (sR_ HO1165.out) hb)
      have n6_ := Aside0.mk (Kd.R_below (sR_ HO1172.out) hb)
      have n7_ := Aside0.mk (blk_below (sB_ BK1129.out) hb)
      have n8_ := Aside0.mk (blk_below (sB_ BK1130.out) hb)
      have n9_ := Aside0.mk (blk_below (sB_ BK1148.out) hb)
      have n10_ := Aside0.mk (blk_below (sB_ BK1154.out) hb)
      have n11_ := Aside0.mk (blk_below (sB_ BK1160.out) hb)
      have n12_ := Aside0.mk (blk_below (sB_ BK1166.out) hb)
      have n13_ := Aside0.mk (below_step (sW_ HB.out) hb)
      clear HO1137 HO1142 HO1147 HO1153 HO1159 HO1165 HO1172 BK1129 BK1130 BK1148 BK1154 BK1160 BK1166 HB; have HO1137 := n0_; have HO1142 := n1_; have HO1147 := n2_; have HO1153 := n3_; have HO1159 := n4_; have HO1165 := n5_; have HO1172 := n6_; have BK1129 := n7_; have BK1130 := n8_; have BK1148 := n9_; have BK1154 := n10_; have BK1160 := n11_; have BK1166 := n12_; have HB := n13_; clear n0_ n1_ n2_ n3_ n4_ n5_ n6_ n7_ n8_ n9_ n10_ n11_ n12_ n13_
      (try clear hb)
      (try clear hb2)
      (try clear hk)
      (try clear hi)
      refine hK.out _ _ ⟨(blk_cell BK1154.out 0).trans rfl, (blk_cell BK1154.out 1).trans rfl, (blk_cell BK1154.out 2).trans rfl, (blk_cell BK1129.out 0).trans rfl, (blk_cell BK1129.out 1).trans rfl, (blk_cell BK1129.out 2).trans rfl⟩ (fun hHeld => ?_)
      clear hK K
      refine norm_ (a' := ?_) ?_ ?_
      rotate_left
      ·show Act.put _ (some 43) _ = _
       simp only [Act.put, List.setIfInBounds_toArray, List.set_cons_zero, List.set_cons_succ, i64_w, i32_w]
       rfl
      refine pure_ (i := 4) (N := some 44) (v := ?_) (a' := ?_) #[true, true, true, true, true] rfl rfl (by kernel_rfl) (fun _ _ _ h => h) (Or.inl ⟨by rfl, ?_⟩) ?_ ?_
      rotate_left
      ·intro w'
       go_simp
       with_reducible rfl
      rotate_left
      ·simp only [Act.put, List.setIfInBounds_toArray, List.set_cons_zero, List.set_cons_succ, i64_w, i32_w]
       rfl
      refine done_ (by kernel_rfl) ?_
      try go_wp2
      have n0_ := Aside0.mk (Kd.R_drew HO1137.out)
      have n1_ := Aside0.mk (Kd.R_drew HO1142.out)
      have n2_ := Aside0.mk (Kd.R_drew HO1147.out)
      have n3_ := Aside0.mk (Kd.R_drew HO1153.out)
      have n4_ := Aside0.mk (Kd.R_drew HO1159.out)
      have n5_ := Aside0.mk (Kd.R_drew HO1165.out)
      have n6_ := Aside0.mk (Kd.R_drew HO1172.out)
      have n7_ := Aside0.mk (blk_drew BK1129.out)
      have n8_ := Aside0.mk (blk_drew BK1130.out)
      have n9_ := Aside0.mk (blk_drew BK1148.out)
      have n10_ := Aside0.mk (blk_drew BK1154.out)
      have n11_ := Aside0.mk (blk_drew BK1160.out)
      have n12_ := Aside0.mk (blk_drew BK1166.out)
      have n13_ := Aside0.mk (below_drew1 HB.out)
      clear HO1137 HO1142 HO1147 HO1153 HO1159 HO1165 HO1172 BK1129 BK1130 BK1148 BK1154 BK1160 BK1166 HB; have HO1137 := n0_; have HO1142 := n1_; have HO1147 := n2_; have HO1153 := n3_; have HO1159 := n4_; have HO1165 := n5_; have HO1172 := n6_; have BK1129 := n7_; have BK1130 := n8_; have BK1148 := n9_; have BK1154 := n10_; have BK1160 := n11_; have BK1166 := n12_; have HB := n13_; clear n0_ n1_ n2_ n3_ n4_ n5_ n6_ n7_ n8_ n9_ n10_ n11_ n12_ n13_
      refine start_ (n := 5) (S := fun w' => w'.cell? ⟨gb1160, 0, none⟩ = some (.int .i64 t1155) ∧ w'.cell? ⟨gb1160, 1, none⟩ = some (.int .i64 t1156) ∧ w'.cell? ⟨gb1160, 2, none⟩ = some (.slice Ao73 t1157.length co73) ∧ w'.cell? ⟨gb1130, 0, none⟩ = some (.int .i64 a1_0) ∧ w'.cell? ⟨gb1130, 1, none⟩ = some (.int .i64 a1_1) ∧ w'.cell? ⟨gb1130, 2, none⟩ = some (.slice A1_2 l1_2.length c1_2)) (ds := []) #[false, false, false, false, false] (by kernel_rfl) rfl rfl ⟨(blk_cell BK1160.out 0).trans rfl, (blk_cell BK1160.out 1).trans rfl, (blk_cell BK1160.out 2).trans rfl, (blk_cell BK1130.out 0).trans rfl, (blk_cell BK1130.out 1).trans rfl, (blk_cell BK1130.out 2).trans rfl⟩ (fun hHeld => ?_)
      generalize w89.drew = w90 at HO1137 HO1142 HO1147 HO1153 HO1159 HO1165 HO1172 BK1129 BK1130 BK1148 BK1154 BK1160 BK1166 HB hHeld ⊢
      refine take_ (i := 0) (N := some 45) (v := ?_) (a' := ?_) #[true, false, false, false, false] rfl rfl (by kernel_rfl) (fun _ _ _ h => h) (Or.inl ⟨by rfl, ?_⟩) hHeld ?_ ?_
      rotate_left
      ·rintro w' ⟨s0, s1, s2, s3, s4, s5⟩
       go_simp
       with_reducible rfl
      rotate_left
      ·simp only [Act.put, List.setIfInBounds_toArray, List.set_cons_zero, List.set_cons_succ, i64_w, i32_w]
       rfl
      refine take_ (i := 1) (N := some 46) (v := ?_) (a' := ?_) #[true, true, false, false, false] rfl rfl (by kernel_rfl) (fun _ _ _ h => h) (Or.inl ⟨by rfl, ?_⟩) hHeld ?_ ?_
      rotate_left
      ·rintro w' ⟨s0, s1, s2, s3, s4, s5⟩
       go_simp
       with_reducible rfl
      rotate_left
      ·simp only [Act.put, List.setIfInBounds_toArray, List.set_cons_zero, List.set_cons_succ, i64_w, i32_w]
       rfl
      refine one_ (i := 2) (N := some 47) #[true, true, true, false, false] rfl rfl (by kernel_rfl) (by decide) (fun K hK => ?_)
      refine goes_ Try.func48 (by kernel_rfl) rfl #[.agg #[.int .i64 a1_0, .int .i64 a1_1, .slice A1_2 l1_2.length c1_2]] (by rfl) rfl rfl sL_ ?_
      with_reducible refine (laws_toPicture.calls k a1_0 a1_1 _ _ l1_2 t1174 t1175 t1176 _ ?side1 ?side2 A30.out).mono ?_
      (case side1 => repeat (first | exact (Kd.C_below HR1_2.out HB.out) | (with_reducible refine Kd.C_alloc ?_ _) | (with_reducible refine Kd.C_drewN ?_ _) | (with_reducible refine Kd.C_drew ?_)))
      (case side2 => exact HC1_2.out)
      rintro e w91 ⟨v1177, rfl, ho0, hb⟩
      refine ⟨_, rfl, ?_⟩
      have n0_ := Aside0.mk (Kd.R_elder' (sR_ HO1137.out) (Kd.R_base ho0) hb)
      have n1_ := Aside0.mk (Kd.R_elder' (sR_ HO1142.out) (Kd.R_base ho0) hb)
      have n2_ := Aside0.mk (Kd.R_elder' (sR_ HO1147.out) (Kd.R_base ho0) hb)
      have n3_ := Aside0.mk (Kd.R_elder' (sR_ HO1153.out) (Kd.R_base ho0) hb)
      have n4_ := Aside0.mk (Kd.R_elder' (sR_ HO1159.out) (Kd.R_base ho0) hb)
      have n5_ := Aside0.mk (Kd.R_elder' (sR_ HO1165.out) (Kd.R_base ho0) hb)
      have n6_ := Aside0.mk (Kd.R_elder' (sR_ HO1172.out) (Kd.R_base ho0) hb)
      have n7_ := Aside0.mk (Kd.R_lower (Kd.R_new' (Kd.R_new' (Kd.R_new' (Kd.R_new' (Kd.R_new' (Kd.R_new' (Kd.R_new' ho0 (Kd.R_lt (sR_ HO1137.out))) (Kd.R_lt (sR_ HO1142.out))) (Kd.R_lt (sR_ HO1147.out))) (Kd.R_lt (sR_ HO1153.out))) (Kd.R_lt (sR_ HO1159.out))) (Kd.R_lt (sR_ HO1165.out))) (Kd.R_lt (sR_ HO1172.out))) (below_size (sW_ HB.out)))
      have n8_ := Aside0.mk (blk_below (sB_ BK1129.out) hb)
      have n9_ := Aside0.mk (blk_below (sB_ BK1130.out) hb)
      have n10_ := Aside0.mk (blk_below (sB_ BK1148.out) hb)
      have n11_ := Aside0.mk (blk_below (sB_ BK1154.out) hb)
      have n12_ := Aside0.mk (blk_below (sB_ BK1160.out) hb)
      have n13_ := Aside0.mk (blk_below (sB_ BK1166.out) hb)
      have n14_ := Aside0.mk (below_step (sW_ HB.out) hb)
      clear HO1137 HO1142 HO1147 HO1153 HO1159 HO1165 HO1172 BK1129 BK1130 BK1148 BK1154 BK1160 BK1166 HB; have HO1137 := n0_; have HO1142 := n1_; have HO1147 := n2_; have HO1153 := n3_; have HO1159 := n4_; have HO1165 := n5_; have HO1172 := n6_; have HO1178 := n7_; have BK1129 := n8_; have BK1130 := n9_; have BK1148 := n10_; have BK1154 := n11_; have BK1160 := n12_; have BK1166 := n13_; have HB := n14_; clear n0_ n1_ n2_ n3_ n4_ n5_ n6_ n7_ n8_ n9_ n10_ n11_ n12_ n13_ n14_
      (try clear hb)
      (try clear hb2)
      (try clear hk)
      (try clear hi)
      (try clear ho0)
      obtain ⟨Ao92, co92, eo92⟩ := Kd.R_slice HO1178.out
      (first | subst eo92 | (injection eo92 with f1_ f2_ f3_; have f4_ := f1_.symm; have f5_ := f3_.symm; clear f1_ f2_ f3_; subst f4_; subst f5_))
      refine hK.out _ _ ⟨(blk_cell BK1160.out 0).trans rfl, (blk_cell BK1160.out 1).trans rfl, (blk_cell BK1160.out 2).trans rfl, (blk_cell BK1130.out 0).trans rfl, (blk_cell BK1130.out 1).trans rfl, (blk_cell BK1130.out 2).trans rfl⟩ (fun hHeld => ?_)
      clear hK K
      refine norm_ (a' := ?_) ?_ ?_
      rotate_left
      ·show Act.put _ (some 47) _ = _
       simp only [Act.put, List.setIfInBounds_toArray, List.set_cons_zero, List.set_cons_succ, i64_w, i32_w]
       rfl
      refine one_ (i := 3) (N := some 48) #[true, true, true, true, false] rfl rfl (by kernel_rfl) (by decide) (fun K hK => ?_)
      refine goes_ Try.func49 (by kernel_rfl) rfl #[.agg #[.int .i64 t1155, .int .i64 t1156, .slice Ao73 t1157.length co73], .agg #[.int .i64 t1174, .int .i64 t1175, .slice Ao92 t1176.length co92]] (by rfl) rfl rfl sL_ ?_
      with_reducible refine (laws_eqPicture.calls k t1155 t1156 _ _ t1157 t1174 t1175 _ _ t1176 true _ ?side1 ?side2 ?side3 ?side4 A31.out).mono ?_
      (case side1 => repeat (first | exact (Kd.R_reads' HO1159.out).2.2 | (with_reducible refine Kd.C_alloc ?_ _) | (with_reducible refine Kd.C_drewN ?_ _) | (with_reducible refine Kd.C_drew ?_)))
      (case side2 => exact (Kd.R_reads' HO1159.out).2.1)
      (case side3 => repeat (first | exact (Kd.R_reads' HO1178.out).2.2 | (with_reducible refine Kd.C_alloc ?_ _) | (with_reducible refine Kd.C_drewN ?_ _) | (with_reducible refine Kd.C_drew ?_)))
      (case side4 => exact (Kd.R_reads' HO1178.out).2.1)
      rintro e w93 ⟨rfl, hb⟩
      refine ⟨_, rfl, ?_⟩
      have n0_ := Aside0.mk (Kd.R_below (sR_ HO1137.out) hb)
      have n1_ := Aside0.mk (Kd.R_below (sR_ HO1142.out) hb)
      have n2_ := Aside0.mk (Kd.R_below (sR_ HO1147.out) hb)
      have n3_ := Aside0.mk (Kd.R_below (sR_ HO1153.out) hb)
      have n4_ := Aside0.mk (Kd.R_below (sR_ HO1159.out) hb)
      have n5_ := Aside0.mk (Kd.R_below (sR_ HO1165.out) hb)
      have n6_ := Aside0.mk (Kd.R_below (sR_ HO1172.out) hb)
      have n7_ := Aside0.mk (Kd.R_below (sR_ HO1178.out) hb)
      have n8_ := Aside0.mk (blk_below (sB_ BK1129.out) hb)
      have n9_ := Aside0.mk (blk_below (sB_ BK1130.out) hb)
      have n10_ := Aside0.mk (blk_below (sB_ BK1148.out) hb)
      have n11_ := Aside0.mk (blk_below (sB_ BK1154.out) hb)
      have n12_ := Aside0.mk (blk_below (sB_ BK1160.out) hb)
      have n13_ := Aside0.mk (blk_below (sB_ BK1166.out) hb)
      have n14_ := Aside0.mk (below_step (sW_ HB.out) hb)
      clear HO1137 HO1142 HO1147 HO1153 HO1159 HO1165 HO1172 HO1178 BK1129 BK1130 BK1148 BK1154 BK1160 BK1166 HB; have HO1137 := n0_; have HO1142 := n1_; have HO1147 := n2_; have HO1153 := n3_; have HO1159 := n4_; have HO1165 := n5_; have HO1172 := n6_; have HO1178 := n7_; have BK1129 := n8_; have BK1130 := n9_; have BK1148 := n10_; have BK1154 := n11_; have BK1160 := n12_; have BK1166 := n13_; have HB := n14_; clear n0_ n1_ n2_ n3_ n4_ n5_ n6_ n7_ n8_ n9_ n10_ n11_ n12_ n13_ n14_
      (try clear hb)
      (try clear hb2)
      (try clear hk)
      (try clear hi)
      refine hK.out _ _ ⟨(blk_cell BK1160.out 0).trans rfl, (blk_cell BK1160.out 1).trans rfl, (blk_cell BK1160.out 2).trans rfl, (blk_cell BK1130.out 0).trans rfl, (blk_cell BK1130.out 1).trans rfl, (blk_cell BK1130.out 2).trans rfl⟩ (fun hHeld => ?_)
      clear hK K
      refine norm_ (a' := ?_) ?_ ?_
      rotate_left
      ·show Act.put _ (some 48) _ = _
       simp only [Act.put, List.setIfInBounds_toArray, List.set_cons_zero, List.set_cons_succ, i64_w, i32_w]
       rfl
      refine pure_ (i := 4) (N := some 49) (v := ?_) (a' := ?_) #[true, true, true, true, true] rfl rfl (by kernel_rfl) (fun _ _ _ h => h) (Or.inl ⟨by rfl, ?_⟩) ?_ ?_
      rotate_left
      ·intro w'
       go_simp
       with_reducible rfl
      rotate_left
      ·simp only [Act.put, List.setIfInBounds_toArray, List.set_cons_zero, List.set_cons_succ, i64_w, i32_w]
       rfl
      refine done_ (by kernel_rfl) ?_
      have hcz94_0 : w93.cell? ⟨gb1154, 0, none⟩ = some (.int .i64 t1149) := (blk_cell BK1154.out 0).trans rfl
      have hcz94_1 : w93.cell? ⟨gb1154, 1, none⟩ = some (.int .i64 t1150) := (blk_cell BK1154.out 1).trans rfl
      have hcz94_2 : w93.cell? ⟨gb1154, 2, none⟩ = some (.slice Ao63 t1151.length co63) := (blk_cell BK1154.out 2).trans rfl
      have hfz94_0 := blk_frozen BK1154.out 0
      have hfz94_1 := blk_frozen BK1154.out 1
      have hfz94_2 := blk_frozen BK1154.out 2
      go_upto_region 21 with (first | ((with_reducible refine gate_callee (f := 35) rfl ?_); refine goesL_ (some 52) rfl rfl Try.func35 (by kernel_rfl) rfl #[.agg #[.int .i64 t1149, .int .i64 t1150, .slice Ao63 t1151.length co63], .int .i64 1] rfl sL_ ?_; (with_reducible refine (laws_markMatrix.calls k t1149 t1150 (fun k_ => some k_ = (.slice Ao63 t1151.length co63 : Value).ownBlock) (.slice Ao63 t1151.length co63) t1151 1 t1180 t1181 w _ ?side1 ?side2 A33.out).mono ?_); (case side1 => repeat (first | (with_reducible first | exact HB.out | apply below_alloc | apply pw_below_drewN | apply below_drew1 | refine below_set ?_ GE1129.out | refine below_set ?_ GE1130.out | refine below_set ?_ GE1148.out | refine below_set ?_ GE1154.out | refine below_set ?_ GE1160.out | refine below_set ?_ GE1166.out) | exact HB.out)); (case side2 => exact Kd.R_tight rfl HO1153.out); rintro e w95 ⟨rfl, hy0, hb, hkp⟩; refine ⟨_, rfl, ?_⟩; have n0_ := Aside0.mk (blk_kept (sB_ BK1129.out) hkp (fun hs_ => (fun e_ => (Kd.R_ne HO1153.out BK1129.out (by decide)) e_) hs_)); have n1_ := Aside0.mk (blk_kept (sB_ BK1130.out) hkp (fun hs_ => (fun e_ => (Kd.R_ne HO1153.out BK1130.out (by decide)) e_) hs_)); have n2_ := Aside0.mk (Kd.R_mono (ok' := fun k_ => some k_ ≠ (v1141 : Value).ownBlock ∧ some k_ ≠ (.slice Ao53 t1145.length co53 : Value).ownBlock ∧ some k_ ≠ (.slice Ao63 t1151.length co63 : Value).ownBlock ∧ some k_ ≠ (.slice Ao73 t1157.length co73 : Value).ownBlock ∧ some k_ ≠ (.slice Ao83 t1163.length co83 : Value).ownBlock ∧ some k_ ≠ (.slice Ao88 t1170.length co88 : Value).ownBlock ∧ some k_ ≠ (.slice Ao92 t1176.length co92 : Value).ownBlock) (Kd.R_keptB (HO1137.out) hkp (fun k_ hk_ hs_ => (hk_.1.1.1.1.2) hs_)) (fun k_ hk_ => ⟨hk_.1.1.1.1.1.1.1, hk_.1.1.1.1.1.1.2, hk_.1.1.1.1.1.2, hk_.1.1.1.1.2, hk_.1.1.1.2, hk_.1.1.2, hk_.1.2⟩)); have n3_ := Aside0.mk (Kd.R_mono (ok' := fun k_ => some k_ ≠ (v1136 : Value).ownBlock ∧ some k_ ≠ (.slice Ao53 t1145.length co53 : Value).ownBlock ∧ some k_ ≠ (.slice Ao63 t1151.length co63 : Value).ownBlock ∧ some k_ ≠ (.slice Ao73 t1157.length co73 : Value).ownBlock ∧ some k_ ≠ (.slice Ao83 t1163.length co83 : Value).ownBlock ∧ some k_ ≠ (.slice Ao88 t1170.length co88 : Value).ownBlock ∧ some k_ ≠ (.slice Ao92 t1176.length co92 : Value).ownBlock) (Kd.R_keptB (HO1142.out) hkp (fun k_ hk_ hs_ => (hk_.1.1.1.1.2) hs_)) (fun k_ hk_ => ⟨hk_.1.1.1.1.1.1.1, hk_.1.1.1.1.1.1.2, hk_.1.1.1.1.1.2, hk_.1.1.1.1.2, hk_.1.1.1.2, hk_.1.1.2, hk_.1.2⟩)); have n4_ := Aside0.mk (Kd.R_mono (ok' := fun k_ => some k_ ≠ (v1136 : Value).ownBlock ∧ some k_ ≠ (v1141 : Value).ownBlock ∧ some k_ ≠ (.slice Ao63 t1151.length co63 : Value).ownBlock ∧ some k_ ≠ (.slice Ao73 t1157.length co73 : Value).ownBlock ∧ some k_ ≠ (.slice Ao83 t1163.length co83 : Value).ownBlock ∧ some k_ ≠ (.slice Ao88 t1170.length co88 : Value).ownBlock ∧ some k_ ≠ (.slice Ao92 t1176.length co92 : Value).ownBlock) (Kd.R_keptB (HO1147.out) hkp (fun k_ hk_ hs_ => (hk_.1.1.1.1.2) hs_)) (fun k_ hk_ => ⟨hk_.1.1.1.1.1.1.1, hk_.1.1.1.1.1.1.2, hk_.1.1.1.1.1.2, hk_.1.1.1.1.2, hk_.1.1.1.2, hk_.1.1.2, hk_.1.2⟩)); have n5_ := Aside0.mk (blk_kept (sB_ BK1148.out) hkp (fun hs_ => (fun e_ => (Kd.R_ne HO1153.out BK1148.out (by decide)) e_) hs_)); have n6_ := Aside0.mk (Kd.R_reok rfl hy0 (fun k_ e_ => HO1153.out.1 k_ e_)); have n7_ := Aside0.mk (blk_kept (sB_ BK1154.out) hkp (fun hs_ => (fun e_ => (Kd.R_ne HO1153.out BK1154.out (by decide)) e_) hs_)); have n8_ := Aside0.mk (Kd.R_mono (ok' := fun k_ => some k_ ≠ (v1136 : Value).ownBlock ∧ some k_ ≠ (v1141 : Value).ownBlock ∧ some k_ ≠ (.slice Ao53 t1145.length co53 : Value).ownBlock ∧ some k_ ≠ (.slice Ao63 t1151.length co63 : Value).ownBlock ∧ some k_ ≠ (.slice Ao83 t1163.length co83 : Value).ownBlock ∧ some k_ ≠ (.slice Ao88 t1170.length co88 : Value).ownBlock ∧ some k_ ≠ (.slice Ao92 t1176.length co92 : Value).ownBlock) (Kd.R_keptB (HO1159.out) hkp (fun k_ hk_ hs_ => (hk_.1.1.1.2) hs_)) (fun k_ hk_ => ⟨hk_.1.1.1.1.1.1.1.2, hk_.1.1.1.1.1.1.2, hk_.1.1.1.1.1.2, hk_.1.1.1.1.2, hk_.1.1.1.2, hk_.1.1.2, hk_.1.2⟩)); have n9_ := Aside0.mk (blk_kept (sB_ BK1160.out) hkp (fun hs_ => (fun e_ => (Kd.R_ne HO1153.out BK1160.out (by decide)) e_) hs_)); have n10_ := Aside0.mk (Kd.R_mono (ok' := fun k_ => some k_ ≠ (v1136 : Value).ownBlock ∧ some k_ ≠ (v1141 : Value).ownBlock ∧ some k_ ≠ (.slice Ao53 t1145.length co53 : Value).ownBlock ∧ some k_ ≠ (.slice Ao63 t1151.length co63 : Value).ownBlock ∧ some k_ ≠ (.slice Ao73 t1157.length co73 : Value).ownBlock ∧ some k_ ≠ (.slice Ao88 t1170.length co88 : Value).ownBlock ∧ some k_ ≠ (.slice Ao92 t1176.length co92 : Value).ownBlock) (Kd.R_keptB (HO1165.out) hkp (fun k_ hk_ hs_ => (hk_.1.1.1.2) hs_)) (fun k_ hk_ => ⟨hk_.1.1.1.1.1.1.1.2, hk_.1.1.1.1.1.1.2, hk_.1.1.1.1.1.2, hk_.1.1.1.1.2, hk_.1.1.1.2, hk_.1.1.2, hk_.1.2⟩)); have n11_ := Aside0.mk (blk_kept (sB_ BK1166.out) hkp (fun hs_ => (fun e_ => (Kd.R_ne HO1153.out BK1166.out (by decide)) e_) hs_)); have n12_ := Aside0.mk (Kd.R_mono (ok' := fun k_ => some k_ ≠ (v1136 : Value).ownBlock ∧ some k_ ≠ (v1141 : Value).ownBlock ∧ some k_ ≠ (.slice Ao53 t1145.length co53 : Value).ownBlock ∧ some k_ ≠ (.slice Ao63 t1151.length co63 : Value).ownBlock ∧ some k_ ≠ (.slice Ao73 t1157.length co73 : Value).ownBlock ∧ some k_ ≠ (.slice Ao83 t1163.length co83 : Value).ownBlock ∧ some k_ ≠ (.slice Ao92 t1176.length co92 : Value).ownBlock) (Kd.R_keptB (HO1172.out) hkp (fun k_ hk_ hs_ => (hk_.1.1.1.2) hs_)) (fun k_ hk_ => ⟨hk_.1.1.1.1.1.1.1.2, hk_.1.1.1.1.1.1.2, hk_.1.1.1.1.1.2, hk_.1.1.1.1.2, hk_.1.1.1.2, hk_.1.1.2, hk_.1.2⟩)); have n13_ := Aside0.mk (Kd.R_mono (ok' := fun k_ => some k_ ≠ (v1136 : Value).ownBlock ∧ some k_ ≠ (v1141 : Value).ownBlock ∧ some k_ ≠ (.slice Ao53 t1145.length co53 : Value).ownBlock ∧ some k_ ≠ (.slice Ao63 t1151.length co63 : Value).ownBlock ∧ some k_ ≠ (.slice Ao73 t1157.length co73 : Value).ownBlock ∧ some k_ ≠ (.slice Ao83 t1163.length co83 : Value).ownBlock ∧ some k_ ≠ (.slice Ao88 t1170.length co88 : Value).ownBlock) (Kd.R_keptB (HO1178.out) hkp (fun k_ hk_ hs_ => (hk_.1.1.1.2) hs_)) (fun k_ hk_ => ⟨hk_.1.1.1.1.1.1.1.2, hk_.1.1.1.1.1.1.2, hk_.1.1.1.1.1.2, hk_.1.1.1.1.2, hk_.1.1.1.2, hk_.1.1.2, hk_.1.2⟩)); have n14_ := Aside0.mk (hb); clear BK1129; clear BK1130; clear HO1137; clear HO1142; clear HO1147; clear BK1148; clear HO1153; clear BK1154; clear HO1159; clear BK1160; clear HO1165; clear BK1166; clear HO1172; clear HO1178; clear HB; have BK1129 := n0_; have BK1130 := n1_; have HO1137 := n2_; have HO1142 := n3_; have HO1147 := n4_; have BK1148 := n5_; have HO1153 := n6_; have BK1154 := n7_; have HO1159 := n8_; have BK1160 := n9_; have HO1165 := n10_; have BK1166 := n11_; have HO1172 := n12_; have HO1178 := n13_; have HB := n14_; clear n0_ n1_ n2_ n3_ n4_ n5_ n6_ n7_ n8_ n9_ n10_ n11_ n12_ n13_ n14_; (try clear hb); (try clear hkp); (try clear hy0); have hcz96_0 : w95.cell? ⟨gb1160, 0, none⟩ = some (.int .i64 t1155) := (blk_cell BK1160.out 0).trans rfl; have hcz96_1 : w95.cell? ⟨gb1160, 1, none⟩ = some (.int .i64 t1156) := (blk_cell BK1160.out 1).trans rfl; have hcz96_2 : w95.cell? ⟨gb1160, 2, none⟩ = some (.slice Ao73 t1157.length co73) := (blk_cell BK1160.out 2).trans rfl; have hfz96_0 := blk_frozen BK1160.out 0; have hfz96_1 := blk_frozen BK1160.out 1; have hfz96_2 := blk_frozen BK1160.out 2) | ((with_reducible refine gate_callee (f := 50) rfl ?_); refine goesL_ (some 55) rfl rfl Try.func50 (by kernel_rfl) rfl #[.agg #[.int .i64 t1155, .int .i64 t1156, .slice Ao73 t1157.length co73], .int .i64 t1180] rfl sL_ ?_; (with_reducible refine (laws_markPicture.calls k t1155 t1156 (fun k_ => some k_ = (.slice Ao73 t1157.length co73 : Value).ownBlock) (.slice Ao73 t1157.length co73) t1157 t1180 t1182 t1183 w _ ?side1 ?side2 A34.out).mono ?_); (case side1 => repeat (first | (with_reducible first | exact HB.out | apply below_alloc | apply pw_below_drewN | apply below_drew1 | refine below_set ?_ GE1129.out | refine below_set ?_ GE1130.out | refine below_set ?_ GE1148.out | refine below_set ?_ GE1154.out | refine below_set ?_ GE1160.out | refine below_set ?_ GE1166.out) | exact HB.out)); (case side2 => exact Kd.R_tight rfl HO1159.out); rintro e w97 ⟨rfl, hy0, hb, hkp⟩; refine ⟨_, rfl, ?_⟩; have n0_ := Aside0.mk (blk_kept (sB_ BK1129.out) hkp (fun hs_ => (fun e_ => (Kd.R_ne HO1159.out BK1129.out (by decide)) e_) hs_)); have n1_ := Aside0.mk (blk_kept (sB_ BK1130.out) hkp (fun hs_ => (fun e_ => (Kd.R_ne HO1159.out BK1130.out (by decide)) e_) hs_)); have n2_ := Aside0.mk (Kd.R_mono (ok' := fun k_ => some k_ ≠ (v1141 : Value).ownBlock ∧ some k_ ≠ (.slice Ao53 t1145.length co53 : Value).ownBlock ∧ some k_ ≠ (.slice Ao63 t1151.length co63 : Value).ownBlock ∧ some k_ ≠ (.slice Ao73 t1157.length co73 : Value).ownBlock ∧ some k_ ≠ (.slice Ao83 t1163.length co83 : Value).ownBlock ∧ some k_ ≠ (.slice Ao88 t1170.length co88 : Value).ownBlock ∧ some k_ ≠ (.slice Ao92 t1176.length co92 : Value).ownBlock) (Kd.R_keptB (HO1137.out) hkp (fun k_ hk_ hs_ => (hk_.2.2.2.1) hs_)) (fun k_ hk_ => ⟨hk_.1.1, hk_.1.2.1, hk_.1.2.2.1, hk_.1.2.2.2.1, hk_.1.2.2.2.2.1, hk_.1.2.2.2.2.2.1, hk_.1.2.2.2.2.2.2⟩)); have n3_ := Aside0.mk (Kd.R_mono (ok' := fun k_ => some k_ ≠ (v1136 : Value).ownBlock ∧ some k_ ≠ (.slice Ao53 t1145.length co53 : Value).ownBlock ∧ some k_ ≠ (.slice Ao63 t1151.length co63 : Value).ownBlock ∧ some k_ ≠ (.slice Ao73 t1157.length co73 : Value).ownBlock ∧ some k_ ≠ (.slice Ao83 t1163.length co83 : Value).ownBlock ∧ some k_ ≠ (.slice Ao88 t1170.length co88 : Value).ownBlock ∧ some k_ ≠ (.slice Ao92 t1176.length co92 : Value).ownBlock) (Kd.R_keptB (HO1142.out) hkp (fun k_ hk_ hs_ => (hk_.2.2.2.1) hs_)) (fun k_ hk_ => ⟨hk_.1.1, hk_.1.2.1, hk_.1.2.2.1, hk_.1.2.2.2.1, hk_.1.2.2.2.2.1, hk_.1.2.2.2.2.2.1, hk_.1.2.2.2.2.2.2⟩)); have n4_ := Aside0.mk (Kd.R_mono (ok' := fun k_ => some k_ ≠ (v1136 : Value).ownBlock ∧ some k_ ≠ (v1141 : Value).ownBlock ∧ some k_ ≠ (.slice Ao63 t1151.length co63 : Value).ownBlock ∧ some k_ ≠ (.slice Ao73 t1157.length co73 : Value).ownBlock ∧ some k_ ≠ (.slice Ao83 t1163.length co83 : Value).ownBlock ∧ some k_ ≠ (.slice Ao88 t1170.length co88 : Value).ownBlock ∧ some k_ ≠ (.slice Ao92 t1176.length co92 : Value).ownBlock) (Kd.R_keptB (HO1147.out) hkp (fun k_ hk_ hs_ => (hk_.2.2.2.1) hs_)) (fun k_ hk_ => ⟨hk_.1.1, hk_.1.2.1, hk_.1.2.2.1, hk_.1.2.2.2.1, hk_.1.2.2.2.2.1, hk_.1.2.2.2.2.2.1, hk_.1.2.2.2.2.2.2⟩)); have n5_ := Aside0.mk (blk_kept (sB_ BK1148.out) hkp (fun hs_ => (fun e_ => (Kd.R_ne HO1159.out BK1148.out (by decide)) e_) hs_)); have n6_ := Aside0.mk (Kd.R_mono (ok' := fun k_ => some k_ ≠ (v1136 : Value).ownBlock ∧ some k_ ≠ (v1141 : Value).ownBlock ∧ some k_ ≠ (.slice Ao53 t1145.length co53 : Value).ownBlock ∧ some k_ ≠ (.slice Ao73 t1157.length co73 : Value).ownBlock ∧ some k_ ≠ (.slice Ao83 t1163.length co83 : Value).ownBlock ∧ some k_ ≠ (.slice Ao88 t1170.length co88 : Value).ownBlock ∧ some k_ ≠ (.slice Ao92 t1176.length co92 : Value).ownBlock) (Kd.R_keptB (HO1153.out) hkp (fun k_ hk_ hs_ => (hk_.1.1.1.2) hs_)) (fun k_ hk_ => ⟨hk_.1.1.1.1.1.1.1.2, hk_.1.1.1.1.1.1.2, hk_.1.1.1.1.1.2, hk_.1.1.1.1.2, hk_.1.1.1.2, hk_.1.1.2, hk_.1.2⟩)); have n7_ := Aside0.mk (blk_kept (sB_ BK1154.out) hkp (fun hs_ => (fun e_ => (Kd.R_ne HO1159.out BK1154.out (by decide)) e_) hs_)); have n8_ := Aside0.mk (Kd.R_reok rfl hy0 (fun k_ e_ => HO1159.out.1 k_ e_)); have n9_ := Aside0.mk (blk_kept (sB_ BK1160.out) hkp (fun hs_ => (fun e_ => (Kd.R_ne HO1159.out BK1160.out (by decide)) e_) hs_)); have n10_ := Aside0.mk (Kd.R_mono (ok' := fun k_ => some k_ ≠ (v1136 : Value).ownBlock ∧ some k_ ≠ (v1141 : Value).ownBlock ∧ some k_ ≠ (.slice Ao53 t1145.length co53 : Value).ownBlock ∧ some k_ ≠ (.slice Ao63 t1151.length co63 : Value).ownBlock ∧ some k_ ≠ (.slice Ao73 t1157.length co73 : Value).ownBlock ∧ some k_ ≠ (.slice Ao88 t1170.length co88 : Value).ownBlock ∧ some k_ ≠ (.slice Ao92 t1176.length co92 : Value).ownBlock) (Kd.R_keptB (HO1165.out) hkp (fun k_ hk_ hs_ => (hk_.2.2.2.2.1) hs_)) (fun k_ hk_ => ⟨hk_.1.1, hk_.1.2.1, hk_.1.2.2.1, hk_.1.2.2.2.1, hk_.1.2.2.2.2.1, hk_.1.2.2.2.2.2.1, hk_.1.2.2.2.2.2.2⟩)); have n11_ := Aside0.mk (blk_kept (sB_ BK1166.out) hkp (fun hs_ => (fun e_ => (Kd.R_ne HO1159.out BK1166.out (by decide)) e_) hs_)); have n12_ := Aside0.mk (Kd.R_mono (ok' := fun k_ => some k_ ≠ (v1136 : Value).ownBlock ∧ some k_ ≠ (v1141 : Value).ownBlock ∧ some k_ ≠ (.slice Ao53 t1145.length co53 : Value).ownBlock ∧ some k_ ≠ (.slice Ao63 t1151.length co63 : Value).ownBlock ∧ some k_ ≠ (.slice Ao73 t1157.length co73 : Value).ownBlock ∧ some k_ ≠ (.slice Ao83 t1163.length co83 : Value).ownBlock ∧ some k_ ≠ (.slice Ao92 t1176.length co92 : Value).ownBlock) (Kd.R_keptB (HO1172.out) hkp (fun k_ hk_ hs_ => (hk_.2.2.2.2.1) hs_)) (fun k_ hk_ => ⟨hk_.1.1, hk_.1.2.1, hk_.1.2.2.1, hk_.1.2.2.2.1, hk_.1.2.2.2.2.1, hk_.1.2.2.2.2.2.1, hk_.1.2.2.2.2.2.2⟩)); have n13_ := Aside0.mk (Kd.R_mono (ok' := fun k_ => some k_ ≠ (v1136 : Value).ownBlock ∧ some k_ ≠ (v1141 : Value).ownBlock ∧ some k_ ≠ (.slice Ao53 t1145.length co53 : Value).ownBlock ∧ some k_ ≠ (.slice Ao63 t1151.length co63 : Value).ownBlock ∧ some k_ ≠ (.slice Ao73 t1157.length co73 : Value).ownBlock ∧ some k_ ≠ (.slice Ao83 t1163.length co83 : Value).ownBlock ∧ some k_ ≠ (.slice Ao88 t1170.length co88 : Value).ownBlock) (Kd.R_keptB (HO1178.out) hkp (fun k_ hk_ hs_ => (hk_.2.2.2.2.1) hs_)) (fun k_ hk_ => ⟨hk_.1.1, hk_.1.2.1, hk_.1.2.2.1, hk_.1.2.2.2.1, hk_.1.2.2.2.2.1, hk_.1.2.2.2.2.2.1, hk_.1.2.2.2.2.2.2⟩)); have n14_ := Aside0.mk (hb); clear BK1129; clear BK1130; clear HO1137; clear HO1142; clear HO1147; clear BK1148; clear HO1153; clear BK1154; clear HO1159; clear BK1160; clear HO1165; clear BK1166; clear HO1172; clear HO1178; clear HB; have BK1129 := n0_; have BK1130 := n1_; have HO1137 := n2_; have HO1142 := n3_; have HO1147 := n4_; have BK1148 := n5_; have HO1153 := n6_; have BK1154 := n7_; have HO1159 := n8_; have BK1160 := n9_; have HO1165 := n10_; have BK1166 := n11_; have HO1172 := n12_; have HO1178 := n13_; have HB := n14_; clear n0_ n1_ n2_ n3_ n4_ n5_ n6_ n7_ n8_ n9_ n10_ n11_ n12_ n13_ n14_; (try clear hb); (try clear hkp); (try clear hy0)))
      (try simp only [Act.put, List.setIfInBounds_toArray, List.set_cons_zero, List.set_cons_succ])
      go_cut [63] (fun v63 wc => ∃ (kq : Nat) (x63_34 : Bool), v63 = .bool x63_34 ∧ Aside0 (laws_FnExactScreenPicture.j0 kq x63_34 a0_0 a0_1 l0_2 a1_0 a1_1 l1_2 t1143 t1144 t1145 t1161 t1162 t1163 = some r) ∧ Aside0 (kq ≤ k) ∧ Aside0 (Kd.R (Kd.int .i64) 3 wc w.heap.size (fun k_ => some k_ ≠ ((.slice Ao63 t1151.length co63) : Value).ownBlock ∧ some k_ ≠ ((.slice Ao73 t1157.length co73) : Value).ownBlock ∧ some k_ ≠ ((.slice Ao83 t1163.length co83) : Value).ownBlock) (.slice Ao53 t1145.length co53) t1145) ∧ Aside0 (Kd.R (Kd.int .i64) 3 wc w.heap.size (fun k_ => some k_ ≠ ((.slice Ao53 t1145.length co53) : Value).ownBlock ∧ some k_ ≠ ((.slice Ao73 t1157.length co73) : Value).ownBlock ∧ some k_ ≠ ((.slice Ao83 t1163.length co83) : Value).ownBlock) (.slice Ao63 t1151.length co63) t1181) ∧ Aside0 (Kd.R (Kd.int .i64) 3 wc w.heap.size (fun k_ => some k_ ≠ ((.slice Ao53 t1145.length co53) : Value).ownBlock ∧ some k_ ≠ ((.slice Ao63 t1151.length co63) : Value).ownBlock ∧ some k_ ≠ ((.slice Ao83 t1163.length co83) : Value).ownBlock) (.slice Ao73 t1157.length co73) t1183) ∧ Aside0 (Kd.R (Kd.int .i64) 3 wc w.heap.size (fun k_ => some k_ ≠ ((.slice Ao53 t1145.length co53) : Value).ownBlock ∧ some k_ ≠ ((.slice Ao63 t1151.length co63) : Value).ownBlock ∧ some k_ ≠ ((.slice Ao73 t1157.length co73) : Value).ownBlock) (.slice Ao83 t1163.length co83) t1163) ∧ Aside0 (wc.heap[gb1129]? = some (.cells #[.int .i64 a0_0, .int .i64 a0_1, (.slice A0_2 l0_2.length c0_2)] 55 (0, 0))) ∧ Aside0 (wc.heap[gb1130]? = some (.cells #[.int .i64 a1_0, .int .i64 a1_1, (.slice A1_2 l1_2.length c1_2)] 48 (0, 0))) ∧ Aside0 (wc.heap[gb1148]? = some (.cells #[.int .i64 t1143, .int .i64 t1144, (.slice Ao53 t1145.length co53)] 41 (0, 0))) ∧ Aside0 (wc.heap[gb1154]? = some (.cells #[.int .i64 t1149, .int .i64 t1150, (.slice Ao63 t1151.length co63)] 26 (0, 0))) ∧ Aside0 (wc.heap[gb1160]? = some (.cells #[.int .i64 t1155, .int .i64 t1156, (.slice Ao73 t1157.length co73)] 41 (0, 0))) ∧ Aside0 (wc.heap[gb1166]? = some (.cells #[.int .i64 t1161, .int .i64 t1162, (.slice Ao83 t1163.length co83)] 41 (0, 0))) ∧ Aside0 (Below w.heap.size w wc))
      case first =>
       have H := HC35.out; clear HC35
       by_cases c98 : t1182 < 0
       ·rw [if_pos c98] at H
        have c98b0 : decide (t1182 < 0) = true := decide_eq_true c98
        clear c98
        (first | rw [c98b0] | (simp only [i64_w, i32_w]; rw [c98b0]) | skip)
        have H' := Aside0.mk H
        clear H
        go_wp2
        go_meet
        case rel => exact ⟨_, (true), (by first | rfl | (simp; done) | (simp [*]; done)), H', ⟨by first | omega | exact Nat.le_refl _⟩, ⟨by (with_reducible repeat (first | apply Kd.R_alloc | apply Kd.R_drewN | apply Kd.R_drew)); exact Kd.R_mono HO1147.out (fun _ hk => ⟨hk.2.2.1, ⟨hk.2.2.2.1, hk.2.2.2.2.1⟩⟩)⟩, ⟨by (with_reducible repeat (first | apply Kd.R_alloc | apply Kd.R_drewN | apply Kd.R_drew)); exact Kd.R_mono HO1153.out (fun _ hk => ⟨hk.2.2.1, ⟨hk.2.2.2.1, hk.2.2.2.2.1⟩⟩)⟩, ⟨by (with_reducible repeat (first | apply Kd.R_alloc | apply Kd.R_drewN | apply Kd.R_drew)); exact Kd.R_mono HO1159.out (fun _ hk => ⟨hk.2.2.1, ⟨hk.2.2.2.1, hk.2.2.2.2.1⟩⟩)⟩, ⟨by (with_reducible repeat (first | apply Kd.R_alloc | apply Kd.R_drewN | apply Kd.R_drew)); exact Kd.R_mono HO1165.out (fun _ hk => ⟨hk.2.2.1, ⟨hk.2.2.2.1, hk.2.2.2.2.1⟩⟩)⟩, ⟨by refine sB_ ?_; exact BK1129.out⟩, ⟨by refine sB_ ?_; exact BK1130.out⟩, ⟨by refine sB_ ?_; exact BK1148.out⟩, ⟨by refine sB_ ?_; exact BK1154.out⟩, ⟨by refine sB_ ?_; exact BK1160.out⟩, ⟨by refine sB_ ?_; exact BK1166.out⟩, ⟨by repeat (first | (with_reducible first | exact HB.out | apply below_alloc | apply pw_below_drewN | apply below_drew1 | refine below_set ?_ GE1129.out | refine below_set ?_ GE1130.out | refine below_set ?_ GE1148.out | refine below_set ?_ GE1154.out | refine below_set ?_ GE1160.out | refine below_set ?_ GE1166.out) | exact HB.out)⟩⟩
       ·rw [if_neg c98] at H
        have c98b0 : decide (t1182 < 0) = false := decide_eq_false c98
        clear c98
        (first | rw [c98b0] | (simp only [i64_w, i32_w]; rw [c98b0]) | skip)
        replace H := Option.bind_eq_some_iff.mp H
        obtain ⟨t1184, A990, H⟩ := H
        replace H : (laws_FnExactScreenPicture.j0 k (!t1184) a0_0 a0_1 l0_2 a1_0 a1_1 l1_2 t1143 t1144 t1145 t1161 t1162 t1163) = some r := H
        have A99 := Aside0.mk A990
        clear A990
        have H' := Aside0.mk H
        clear H; have hnb100 := NB1166_1129.out; have hnc100 := NB1129_1166.out; have hnb101 := NB1166_1130.out; have hnc101 := NB1130_1166.out; have hnb102 := NB1166_1148.out; have hnc102 := NB1148_1166.out; have hnb103 := NB1166_1154.out; have hnc103 := NB1154_1166.out; have hnb104 := NB1166_1160.out; have hnc104 := NB1160_1166.out
        have hcz105_0 : w97.cell? ⟨gb1166, 0, none⟩ = some (.int .i64 t1161) := (blk_cell BK1166.out 0).trans rfl
        have hcz105_1 : w97.cell? ⟨gb1166, 1, none⟩ = some (.int .i64 t1162) := (blk_cell BK1166.out 1).trans rfl
        have hcz105_2 : w97.cell? ⟨gb1166, 2, none⟩ = some (.slice Ao83 t1163.length co83) := (blk_cell BK1166.out 2).trans rfl
        have hfz105_0 := blk_frozen BK1166.out 0
        have hfz105_1 := blk_frozen BK1166.out 1
        have hfz105_2 := blk_frozen BK1166.out 2
        have hnb106 := NB1148_1129.out; have hnc106 := NB1129_1148.out; have hnb107 := NB1148_1130.out; have hnc107 := NB1130_1148.out; have hnb108 := NB1148_1154.out; have hnc108 := NB1154_1148.out; have hnb109 := NB1148_1160.out; have hnc109 := NB1160_1148.out
        have hcz110_0 : w97.cell? ⟨gb1148, 0, none⟩ = some (.int .i64 t1143) := (blk_cell BK1148.out 0).trans rfl
        have hcz110_1 : w97.cell? ⟨gb1148, 1, none⟩ = some (.int .i64 t1144) := (blk_cell BK1148.out 1).trans rfl
        have hcz110_2 : w97.cell? ⟨gb1148, 2, none⟩ = some (.slice Ao53 t1145.length co53) := (blk_cell BK1148.out 2).trans rfl
        have hfz110_0 := blk_frozen BK1148.out 0
        have hfz110_1 := blk_frozen BK1148.out 1
        have hfz110_2 := blk_frozen BK1148.out 2
        go_wp2_with (first | (go_at_call 49; (with_reducible refine (laws_eqPicture.calls k t1161 t1162 _ _ t1163 t1143 t1144 _ _ t1145 t1184 _ ?side1 ?side2 ?side3 ?side4 A99.out).mono ?_); (case side1 => repeat (first | exact (Kd.R_reads' HO1165.out).2.2 | (with_reducible refine Kd.C_alloc ?_ _) | (with_reducible refine Kd.C_drewN ?_ _) | (with_reducible refine Kd.C_drew ?_))); (case side2 => exact (Kd.R_reads' HO1165.out).2.1); (case side3 => repeat (first | exact (Kd.R_reads' HO1147.out).2.2 | (with_reducible refine Kd.C_alloc ?_ _) | (with_reducible refine Kd.C_drewN ?_ _) | (with_reducible refine Kd.C_drew ?_))); (case side4 => exact (Kd.R_reads' HO1147.out).2.1); rintro e w111 ⟨rfl, hb⟩; have n0_ := Aside0.mk (Kd.R_below (sR_ HO1137.out) hb); have n1_ := Aside0.mk (Kd.R_below (sR_ HO1142.out) hb); have n2_ := Aside0.mk (Kd.R_below (sR_ HO1147.out) hb); have n3_ := Aside0.mk (Kd.R_below (sR_ HO1153.out) hb); have n4_ := Aside0.mk (Kd.R_below (sR_ HO1159.out) hb); have n5_ := Aside0.mk (Kd.R_below (sR_ HO1165.out) hb); have n6_ := Aside0.mk (Kd.R_below (sR_ HO1172.out) hb); have n7_ := Aside0.mk (Kd.R_below (sR_ HO1178.out) hb); have n8_ := Aside0.mk (blk_below (sB_ BK1129.out) hb); have n9_ := Aside0.mk (blk_below (sB_ BK1130.out) hb); have n10_ := Aside0.mk (blk_below (sB_ BK1148.out) hb); have n11_ := Aside0.mk (blk_below (sB_ BK1154.out) hb); have n12_ := Aside0.mk (blk_below (sB_ BK1160.out) hb); have n13_ := Aside0.mk (blk_below (sB_ BK1166.out) hb); have n14_ := Aside0.mk (below_step (sW_ HB.out) hb); clear HO1137; clear HO1142; clear HO1147; clear HO1153; clear HO1159; clear HO1165; clear HO1172; clear HO1178; clear BK1129; clear BK1130; clear BK1148; clear BK1154; clear BK1160; clear BK1166; clear HB; have HO1137 := n0_; have HO1142 := n1_; have HO1147 := n2_; have HO1153 := n3_; have HO1159 := n4_; have HO1165 := n5_; have HO1172 := n6_; have HO1178 := n7_; have BK1129 := n8_; have BK1130 := n9_; have BK1148 := n10_; have BK1154 := n11_; have BK1160 := n12_; have BK1166 := n13_; have HB := n14_; clear n0_ n1_ n2_ n3_ n4_ n5_ n6_ n7_ n8_ n9_ n10_ n11_ n12_ n13_ n14_; (try clear hb); (try clear hb2); (try clear hk); (try clear hi)))
        go_meet
        case rel => exact ⟨_, (!t1184), (by first | rfl | (simp; done) | (simp [*]; done)), H', ⟨by first | omega | exact Nat.le_refl _⟩, ⟨by (with_reducible repeat (first | apply Kd.R_alloc | apply Kd.R_drewN | apply Kd.R_drew)); exact Kd.R_mono HO1147.out (fun _ hk => ⟨hk.2.2.1, ⟨hk.2.2.2.1, hk.2.2.2.2.1⟩⟩)⟩, ⟨by (with_reducible repeat (first | apply Kd.R_alloc | apply Kd.R_drewN | apply Kd.R_drew)); exact Kd.R_mono HO1153.out (fun _ hk => ⟨hk.2.2.1, ⟨hk.2.2.2.1, hk.2.2.2.2.1⟩⟩)⟩, ⟨by (with_reducible repeat (first | apply Kd.R_alloc | apply Kd.R_drewN | apply Kd.R_drew)); exact Kd.R_mono HO1159.out (fun _ hk => ⟨hk.2.2.1, ⟨hk.2.2.2.1, hk.2.2.2.2.1⟩⟩)⟩, ⟨by (with_reducible repeat (first | apply Kd.R_alloc | apply Kd.R_drewN | apply Kd.R_drew)); exact Kd.R_mono HO1165.out (fun _ hk => ⟨hk.2.2.1, ⟨hk.2.2.2.1, hk.2.2.2.2.1⟩⟩)⟩, ⟨by refine sB_ ?_; exact BK1129.out⟩, ⟨by refine sB_ ?_; exact BK1130.out⟩, ⟨by refine sB_ ?_; exact BK1148.out⟩, ⟨by refine sB_ ?_; exact BK1154.out⟩, ⟨by refine sB_ ?_; exact BK1160.out⟩, ⟨by refine sB_ ?_; exact BK1166.out⟩, ⟨by repeat (first | (with_reducible first | exact HB.out | apply below_alloc | apply pw_below_drewN | apply below_drew1 | refine below_set ?_ GE1129.out | refine below_set ?_ GE1130.out | refine below_set ?_ GE1148.out | refine below_set ?_ GE1154.out | refine below_set ?_ GE1160.out | refine below_set ?_ GE1166.out) | exact HB.out)⟩⟩
      case rest =>
       clear HC35
       try clear c1
       try clear p2
       try clear c3
       try clear c4
       try clear c5
       try clear c6
       try clear c7
       try clear c8
       try clear c9
       try clear c10
       try clear c34
       try clear c35
       try clear c48
       try clear c49
       try clear c50
       try clear c55
       try clear c58
       try clear c59
       try clear c60
       try clear c61
       try clear c64
       try clear c68
       try clear c69
       try clear c70
       try clear c71
       try clear c72
       try clear c77
       try clear c78
       try clear c79
       try clear c80
       try clear c81
       try clear c98
       try clear c98b0
       try clear c100
       try clear c101
       try clear c102
       try clear c103
       try clear c104
       try clear c106
       try clear c107
       try clear c108
       try clear c109
       try clear hcz105_0
       try clear hcz105_1
       try clear hcz105_2
       try clear hcz110_0
       try clear hcz110_1
       try clear hcz110_2
       try clear hcz56_0
       try clear hcz56_1
       try clear hcz56_2
       try clear hcz62_0
       try clear hcz62_1
       try clear hcz62_2
       try clear hcz65_0
       try clear hcz65_1
       try clear hcz65_2
       try clear hcz72_0
       try clear hcz72_1
       try clear hcz72_2
       try clear hcz74_0
       try clear hcz74_1
       try clear hcz74_2
       try clear hcz82_0
       try clear hcz82_1
       try clear hcz82_2
       try clear hcz84_0
       try clear hcz84_1
       try clear hcz84_2
       try clear hcz94_0
       try clear hcz94_1
       try clear hcz94_2
       try clear hcz96_0
       try clear hcz96_1
       try clear hcz96_2
       try clear hfz105_0
       try clear hfz105_1
       try clear hfz105_2
       try clear hfz110_0
       try clear hfz110_1
       try clear hfz110_2
       try clear hfz56_0
       try clear hfz56_1
       try clear hfz56_2
       try clear hfz62_0
       try clear hfz62_1
       try clear hfz62_2
       try clear hfz65_0
       try clear hfz65_1
       try clear hfz65_2
       try clear hfz72_0
       try clear hfz72_1
       try clear hfz72_2
       try clear hfz74_0
       try clear hfz74_1
       try clear hfz74_2
       try clear hfz82_0
       try clear hfz82_1
       try clear hfz82_2
       try clear hfz84_0
       try clear hfz84_1
       try clear hfz84_2
       try clear hfz94_0
       try clear hfz94_1
       try clear hfz94_2
       try clear hfz96_0
       try clear hfz96_1
       try clear hfz96_2
       obtain ⟨kq, x63_34, rfl, HA, HJ34, HO_1149002, HO_1155002, HO_1161002, HO_1167002, BK1129, BK1130, BK1148, BK1154, BK1160, BK1166, HB⟩ := hcut
       have hl1155002_34 := (Kd.R_reads' HO_1155002.out).1
       rw [hl1155002_34] at HO_1155002
       (try simp only [hl1155002_34])
       (try simp only [hl1155002_34] at BK1129)
       (try simp only [hl1155002_34] at BK1130)
       (try simp only [hl1155002_34] at BK1148)
       (try simp only [hl1155002_34] at BK1154)
       (try simp only [hl1155002_34] at BK1160)
       (try simp only [hl1155002_34] at BK1166)
       (try simp only [hl1155002_34] at HO_1149002)
       (try simp only [hl1155002_34] at HO_1161002)
       (try simp only [hl1155002_34] at HO_1167002)
       have hl1161002_34 := (Kd.R_reads' HO_1161002.out).1
       rw [hl1161002_34] at HO_1161002
       (try simp only [hl1161002_34])
       (try simp only [hl1161002_34] at BK1129)
       (try simp only [hl1161002_34] at BK1130)
       (try simp only [hl1161002_34] at BK1148)
       (try simp only [hl1161002_34] at BK1154)
       (try simp only [hl1161002_34] at BK1160)
       (try simp only [hl1161002_34] at BK1166)
       (try simp only [hl1161002_34] at HO_1149002)
       (try simp only [hl1161002_34] at HO_1155002)
       (try simp only [hl1161002_34] at HO_1167002)
       cases kq with
       | zero => exact absurd HA.out (by simp [laws_FnExactScreenPicture.j0])
       | succ kj34 =>
        have H := HA.out; clear HA
        simp only [laws_FnExactScreenPicture.j0] at H
        by_cases c112 : x63_34 = true
        ·subst c112
         have H1 : (some false) = some r := by rw [if_pos rfl] at H; exact H
         clear H; have H := H1; clear H1
         exact absurd ((Option.some.inj H).trans hT.out) (by decide)
        ·replace c112 := Bool.eq_false_iff.mpr c112
         subst c112
         have H1 : ((laws_markPicture.f kj34 t1161 t1162 t1163 1).bind fun bt1185 => ((laws_heldPicture.f kj34 t1161 t1162 bt1185.2 1).bind fun t1187 => (if t1187 < 0 then (some false) else (if t1187 = bt1185.1 then ((laws_toMatrix.f kj34 a0_0 a0_1 l0_2).bind fun bt1188 => ((laws_toPicture.f kj34 a1_0 a1_1 l1_2).bind fun bt1193 => ((impl_ScreenPicture.f bt1188.1 bt1188.2.1 bt1188.2.2 bt1193.1 bt1193.2.1 bt1193.2.2).bind fun bt1198 => ((laws_eqPicture.f kj34 bt1198.1 bt1198.2.1 bt1198.2.2 t1143 t1144 t1145).bind fun t1204 => (if t1204 = true then ((laws_heldPicture.f kj34 t1161 t1162 bt1185.2 1).bind fun t1205 => (if t1205 < 0 then (some false) else (if t1205 = bt1185.1 then (some true) else (some false)))) else (some false)))))) else (some false))))) = some r := by rw [if_neg (show ¬ (false = true) by decide)] at H; exact H
         clear H; have H := H1; clear H1
         replace H := Option.bind_eq_some_iff.mp H
         obtain ⟨⟨t1185, t1186⟩, A1130, H⟩ := H
         replace H : ((laws_heldPicture.f kj34 t1161 t1162 t1186 1).bind fun t1187 => (if t1187 < 0 then (some false) else (if t1187 = t1185 then ((laws_toMatrix.f kj34 a0_0 a0_1 l0_2).bind fun bt1188 => ((laws_toPicture.f kj34 a1_0 a1_1 l1_2).bind fun bt1193 => ((impl_ScreenPicture.f bt1188.1 bt1188.2.1 bt1188.2.2 bt1193.1 bt1193.2.1 bt1193.2.2).bind fun bt1198 => ((laws_eqPicture.f kj34 bt1198.1 bt1198.2.1 bt1198.2.2 t1143 t1144 t1145).bind fun t1204 => (if t1204 = true then ((laws_heldPicture.f kj34 t1161 t1162 t1186 1).bind fun t1205 => (if t1205 < 0 then (some false) else (if t1205 = t1185 then (some true) else (some false)))) else (some false)))))) else (some false)))) = some r := H
         have A113 := Aside0.mk A1130
         clear A1130
         replace H := Option.bind_eq_some_iff.mp H
         obtain ⟨t1187, A1140, H⟩ := H
         replace H : (if t1187 < 0 then (some false) else (if t1187 = t1185 then ((laws_toMatrix.f kj34 a0_0 a0_1 l0_2).bind fun bt1188 => ((laws_toPicture.f kj34 a1_0 a1_1 l1_2).bind fun bt1193 => ((impl_ScreenPicture.f bt1188.1 bt1188.2.1 bt1188.2.2 bt1193.1 bt1193.2.1 bt1193.2.2).bind fun bt1198 => ((laws_eqPicture.f kj34 bt1198.1 bt1198.2.1 bt1198.2.2 t1143 t1144 t1145).bind fun t1204 => (if t1204 = true then ((laws_heldPicture.f kj34 t1161 t1162 t1186 1).bind fun t1205 => (if t1205 < 0 then (some false) else (if t1205 = t1185 then (some true) else (some false)))) else (some false)))))) else (some false))) = some r := H
         have A114 := Aside0.mk A1140
         clear A1140
         by_cases c115 : t1187 < 0
         ·rw [if_pos c115] at H
          have c115b0 : decide (t1187 < 0) = true := decide_eq_true c115
          clear c115
          exact absurd ((Option.some.inj H).trans hT.out) (by decide)
         ·rw [if_neg c115] at H
          have c115b0 : decide (t1187 < 0) = false := decide_eq_false c115
          clear c115
          by_cases c116 : t1187 = t1185
          ·rw [if_pos c116] at H
           have c116b0 : (t1187 == t1185) = true := beq_iff_eq.mpr c116
           have c116b1 : (t1187 != t1185) = false := bne_eq_false_iff_eq.mpr c116
           clear c116
           replace H := Option.bind_eq_some_iff.mp H
           obtain ⟨⟨t1188, t1189, t1190⟩, A1170, H⟩ := H
           replace H : ((laws_toPicture.f kj34 a1_0 a1_1 l1_2).bind fun bt1193 => ((impl_ScreenPicture.f t1188 t1189 t1190 bt1193.1 bt1193.2.1 bt1193.2.2).bind fun bt1198 => ((laws_eqPicture.f kj34 bt1198.1 bt1198.2.1 bt1198.2.2 t1143 t1144 t1145).bind fun t1204 => (if t1204 = true then ((laws_heldPicture.f kj34 t1161 t1162 t1186 1).bind fun t1205 => (if t1205 < 0 then (some false) else (if t1205 = t1185 then (some true) else (some false)))) else (some false))))) = some r := H
           have A117 := Aside0.mk A1170
           clear A1170
           replace H := Option.bind_eq_some_iff.mp H
           obtain ⟨⟨t1193, t1194, t1195⟩, A1180, H⟩ := H
           replace H : ((impl_ScreenPicture.f t1188 t1189 t1190 t1193 t1194 t1195).bind fun bt1198 => ((laws_eqPicture.f kj34 bt1198.1 bt1198.2.1 bt1198.2.2 t1143 t1144 t1145).bind fun t1204 => (if t1204 = true then ((laws_heldPicture.f kj34 t1161 t1162 t1186 1).bind fun t1205 => (if t1205 < 0 then (some false) else (if t1205 = t1185 then (some true) else (some false)))) else (some false)))) = some r := H
           have A118 := Aside0.mk A1180
           clear A1180
           replace H := Option.bind_eq_some_iff.mp H
           obtain ⟨⟨t1198, t1199, t1200⟩, A1190, H⟩ := H
           replace H : ((laws_eqPicture.f kj34 t1198 t1199 t1200 t1143 t1144 t1145).bind fun t1204 => (if t1204 = true then ((laws_heldPicture.f kj34 t1161 t1162 t1186 1).bind fun t1205 => (if t1205 < 0 then (some false) else (if t1205 = t1185 then (some true) else (some false)))) else (some false))) = some r := H
           have A119 := Aside0.mk A1190
           clear A1190
           replace H := Option.bind_eq_some_iff.mp H
           obtain ⟨t1204, A1200, H⟩ := H
           replace H : (if t1204 = true then ((laws_heldPicture.f kj34 t1161 t1162 t1186 1).bind fun t1205 => (if t1205 < 0 then (some false) else (if t1205 = t1185 then (some true) else (some false)))) else (some false)) = some r := H
           have A120 := Aside0.mk A1200
           clear A1200
           by_cases c121 : t1204 = true
           ·subst c121
            have H1 : ((laws_heldPicture.f kj34 t1161 t1162 t1186 1).bind fun t1205 => (if t1205 < 0 then (some false) else (if t1205 = t1185 then (some true) else (some false)))) = some r := by rw [if_pos rfl] at H; exact H
            clear H; have H := H1; clear H1
            replace H := Option.bind_eq_some_iff.mp H
            obtain ⟨t1205, A1220, H⟩ := H
            replace H : (if t1205 < 0 then (some false) else (if t1205 = t1185 then (some true) else (some false))) = some r := H
            have A122 := Aside0.mk A1220
            clear A1220
            by_cases c123 : t1205 < 0
            ·rw [if_pos c123] at H
             have c123b0 : decide (t1205 < 0) = true := decide_eq_true c123
             clear c123
             exact absurd ((Option.some.inj H).trans hT.out) (by decide)
            ·rw [if_neg c123] at H
             have c123b0 : decide (t1205 < 0) = false := decide_eq_false c123
             clear c123
             by_cases c124 : t1205 = t1185
             ·rw [if_pos c124] at H
              have c124b0 : (t1205 == t1185) = true := beq_iff_eq.mpr c124
              have c124b1 : (t1205 != t1185) = false := bne_eq_false_iff_eq.mpr c124
              clear c124
              obtain rfl := Option.some.inj H
              have hnb125 := NB1166_1129.out; have hnc125 := NB1129_1166.out; have hnb126 := NB1166_1130.out; have hnc126 := NB1130_1166.out; have hnb127 := NB1166_1148.out; have hnc127 := NB1148_1166.out; have hnb128 := NB1166_1154.out; have hnc128 := NB1154_1166.out; have hnb129 := NB1166_1160.out; have hnc129 := NB1160_1166.out
              have hcz130_0 : wc.cell? ⟨gb1166, 0, none⟩ = some (.int .i64 t1161) := (blk_cell BK1166.out 0).trans rfl
              have hcz130_1 : wc.cell? ⟨gb1166, 1, none⟩ = some (.int .i64 t1162) := (blk_cell BK1166.out 1).trans rfl
              have hcz130_2 : wc.cell? ⟨gb1166, 2, none⟩ = some (.slice Ao83 t1163.length co83) := (blk_cell BK1166.out 2).trans rfl
              have hfz130_0 := blk_frozen BK1166.out 0
              have hfz130_1 := blk_frozen BK1166.out 1
              have hfz130_2 := blk_frozen BK1166.out 2
              try go_wp2_with (first | ((with_reducible refine gate_callee (f := 50) rfl ?_); refine goesL_ (some 66) rfl rfl Try.func50 (by kernel_rfl) rfl #[.agg #[.int .i64 t1161, .int .i64 t1162, .slice Ao83 t1163.length co83], .int .i64 1] rfl sL_ ?_; (with_reducible refine (laws_markPicture.calls kj34 t1161 t1162 (fun k_ => some k_ = (.slice Ao83 t1163.length co83 : Value).ownBlock) (.slice Ao83 t1163.length co83) t1163 1 t1185 t1186 w _ ?side1 ?side2 A113.out).mono ?_); (case side1 => repeat (first | (with_reducible first | exact HB.out | apply below_alloc | apply pw_below_drewN | apply below_drew1 | refine below_set ?_ GE1129.out | refine below_set ?_ GE1130.out | refine below_set ?_ GE1148.out | refine below_set ?_ GE1154.out | refine below_set ?_ GE1160.out | refine below_set ?_ GE1166.out) | exact HB.out)); (case side2 => exact Kd.R_tight rfl HO_1167002.out); rintro e w131 ⟨rfl, hy0, hb, hkp⟩; refine ⟨_, rfl, ?_⟩; have n0_ := Aside0.mk (Kd.R_mono (ok' := fun k_ => some k_ ≠ (.slice Ao63 t1181.length co63 : Value).ownBlock ∧ some k_ ≠ (.slice Ao73 t1183.length co73 : Value).ownBlock ∧ some k_ ≠ (.slice Ao83 t1163.length co83 : Value).ownBlock) (Kd.R_keptB (HO_1149002.out) hkp (fun k_ hk_ hs_ => (hk_.2.2) hs_)) (fun k_ hk_ => ⟨hk_.1.1, hk_.1.2.1, hk_.1.2.2⟩)); have n1_ := Aside0.mk (Kd.R_mono (ok' := fun k_ => some k_ ≠ (.slice Ao53 t1145.length co53 : Value).ownBlock ∧ some k_ ≠ (.slice Ao73 t1183.length co73 : Value).ownBlock ∧ some k_ ≠ (.slice Ao83 t1163.length co83 : Value).ownBlock) (Kd.R_keptB (HO_1155002.out) hkp (fun k_ hk_ hs_ => (hk_.2.2) hs_)) (fun k_ hk_ => ⟨hk_.1.1, hk_.1.2.1, hk_.1.2.2⟩)); have n2_ := Aside0.mk (Kd.R_mono (ok' := fun k_ => some k_ ≠ (.slice Ao53 t1145.length co53 : Value).ownBlock ∧ some k_ ≠ (.slice Ao63 t1181.length co63 : Value).ownBlock ∧ some k_ ≠ (.slice Ao83 t1163.length co83 : Value).ownBlock) (Kd.R_keptB (HO_1161002.out) hkp (fun k_ hk_ hs_ => (hk_.2.2) hs_)) (fun k_ hk_ => ⟨hk_.1.1, hk_.1.2.1, hk_.1.2.2⟩)); have n3_ := Aside0.mk (Kd.R_reok rfl hy0 (fun k_ e_ => HO_1167002.out.1 k_ e_)); have n4_ := Aside0.mk (blk_kept (sB_ BK1129.out) hkp (fun hs_ => (fun e_ => (Kd.R_ne HO_1167002.out BK1129.out (by decide)) e_) hs_)); have n5_ := Aside0.mk (blk_kept (sB_ BK1130.out) hkp (fun hs_ => (fun e_ => (Kd.R_ne HO_1167002.out BK1130.out (by decide)) e_) hs_)); have n6_ := Aside0.mk (blk_kept (sB_ BK1148.out) hkp (fun hs_ => (fun e_ => (Kd.R_ne HO_1167002.out BK1148.out (by decide)) e_) hs_)); have n7_ := Aside0.mk (blk_kept (sB_ BK1154.out) hkp (fun hs_ => (fun e_ => (Kd.R_ne HO_1167002.out BK1154.out (by decide)) e_) hs_)); have n8_ := Aside0.mk (blk_kept (sB_ BK1160.out) hkp (fun hs_ => (fun e_ => (Kd.R_ne HO_1167002.out BK1160.out (by decide)) e_) hs_)); have n9_ := Aside0.mk (blk_kept (sB_ BK1166.out) hkp (fun hs_ => (fun e_ => (Kd.R_ne HO_1167002.out BK1166.out (by decide)) e_) hs_)); have n10_ := Aside0.mk (hb); clear HO_1149002; clear HO_1155002; clear HO_1161002; clear HO_1167002; clear BK1129; clear BK1130; clear BK1148; clear BK1154; clear BK1160; clear BK1166; clear HB; have HO_1149002 := n0_; have HO_1155002 := n1_; have HO_1161002 := n2_; have HO_1167002 := n3_; have BK1129 := n4_; have BK1130 := n5_; have BK1148 := n6_; have BK1154 := n7_; have BK1160 := n8_; have BK1166 := n9_; have HB := n10_; clear n0_ n1_ n2_ n3_ n4_ n5_ n6_ n7_ n8_ n9_ n10_; (try clear hb); (try clear hkp); (try clear hy0); have hcz132_0 : w131.cell? ⟨gb1166, 0, none⟩ = some (.int .i64 t1161) := (blk_cell BK1166.out 0).trans rfl; have hcz132_1 : w131.cell? ⟨gb1166, 1, none⟩ = some (.int .i64 t1162) := (blk_cell BK1166.out 1).trans rfl; have hcz132_2 : w131.cell? ⟨gb1166, 2, none⟩ = some (.slice Ao83 t1163.length co83) := (blk_cell BK1166.out 2).trans rfl; have hfz132_0 := blk_frozen BK1166.out 0; have hfz132_1 := blk_frozen BK1166.out 1; have hfz132_2 := blk_frozen BK1166.out 2) | ((with_reducible refine gate_callee (f := 51) rfl ?_); refine goesL_ (some 69) rfl rfl Try.func51 (by kernel_rfl) rfl #[.agg #[.int .i64 t1161, .int .i64 t1162, .slice Ao83 t1186.length co83], .int .i64 1] rfl (by (try simp only [List.map_toArray, List.map_cons, List.map_nil]); first | done | (rw [show t1186.length = t1163.length from (Kd.R_reads' HO_1167002.out).1.symm] <;> rfl) | rfl | (simp only [List.length_drop, List.length_take]; rfl)) ?_; (with_reducible refine (laws_heldPicture.calls kj34 t1161 t1162 _ _ t1186 1 t1187 _ ?side1 ?side2 A114.out).mono ?_); (case side1 => repeat (first | exact (Kd.R_reads' HO_1167002.out).2.2 | (with_reducible refine Kd.C_alloc ?_ _) | (with_reducible refine Kd.C_drewN ?_ _) | (with_reducible refine Kd.C_drew ?_))); (case side2 => rw [show t1186.length = t1163.length from (Kd.R_reads' HO_1167002.out).1.symm]; exact (Kd.R_reads' HO_1167002.out).2.1); rintro e w133 ⟨rfl, hb⟩; refine ⟨_, rfl, ?_⟩; have n0_ := Aside0.mk (Kd.R_below (sR_ HO_1149002.out) hb); have n1_ := Aside0.mk (Kd.R_below (sR_ HO_1155002.out) hb); have n2_ := Aside0.mk (Kd.R_below (sR_ HO_1161002.out) hb); have n3_ := Aside0.mk (Kd.R_below (sR_ HO_1167002.out) hb); have n4_ := Aside0.mk (blk_below (sB_ BK1129.out) hb); have n5_ := Aside0.mk (blk_below (sB_ BK1130.out) hb); have n6_ := Aside0.mk (blk_below (sB_ BK1148.out) hb); have n7_ := Aside0.mk (blk_below (sB_ BK1154.out) hb); have n8_ := Aside0.mk (blk_below (sB_ BK1160.out) hb); have n9_ := Aside0.mk (blk_below (sB_ BK1166.out) hb); have n10_ := Aside0.mk (below_step (sW_ HB.out) hb); clear HO_1149002; clear HO_1155002; clear HO_1161002; clear HO_1167002; clear BK1129; clear BK1130; clear BK1148; clear BK1154; clear BK1160; clear BK1166; clear HB; have HO_1149002 := n0_; have HO_1155002 := n1_; have HO_1161002 := n2_; have HO_1167002 := n3_; have BK1129 := n4_; have BK1130 := n5_; have BK1148 := n6_; have BK1154 := n7_; have BK1160 := n8_; have BK1166 := n9_; have HB := n10_; clear n0_ n1_ n2_ n3_ n4_ n5_ n6_ n7_ n8_ n9_ n10_; (try clear hb); (try clear hb2); (try clear hk); (try clear hi)))
              have n0_ := Aside0.mk (Kd.R_drew HO_1149002.out)
              have n1_ := Aside0.mk (Kd.R_drew HO_1155002.out)
              have n2_ := Aside0.mk (Kd.R_drew HO_1161002.out)
              have n3_ := Aside0.mk (Kd.R_drew HO_1167002.out)
              have n4_ := Aside0.mk (blk_drew BK1129.out)
              have n5_ := Aside0.mk (blk_drew BK1130.out)
              have n6_ := Aside0.mk (blk_drew BK1148.out)
              have n7_ := Aside0.mk (blk_drew BK1154.out)
              have n8_ := Aside0.mk (blk_drew BK1160.out)
              have n9_ := Aside0.mk (blk_drew BK1166.out)
              have n10_ := Aside0.mk (below_drew1 HB.out)
              clear HO_1149002 HO_1155002 HO_1161002 HO_1167002 BK1129 BK1130 BK1148 BK1154 BK1160 BK1166 HB; have HO_1149002 := n0_; have HO_1155002 := n1_; have HO_1161002 := n2_; have HO_1167002 := n3_; have BK1129 := n4_; have BK1130 := n5_; have BK1148 := n6_; have BK1154 := n7_; have BK1160 := n8_; have BK1166 := n9_; have HB := n10_; clear n0_ n1_ n2_ n3_ n4_ n5_ n6_ n7_ n8_ n9_ n10_
              refine start_ (n := 7) (S := fun w' => w'.cell? ⟨gb1129, 0, none⟩ = some (.int .i64 a0_0) ∧ w'.cell? ⟨gb1129, 1, none⟩ = some (.int .i64 a0_1) ∧ w'.cell? ⟨gb1129, 2, none⟩ = some (.slice A0_2 l0_2.length c0_2) ∧ w'.cell? ⟨gb1130, 0, none⟩ = some (.int .i64 a1_0) ∧ w'.cell? ⟨gb1130, 1, none⟩ = some (.int .i64 a1_1) ∧ w'.cell? ⟨gb1130, 2, none⟩ = some (.slice A1_2 l1_2.length c1_2)) (ds := []) #[false, false, false, false, false, false, false] (by kernel_rfl) rfl rfl ⟨(blk_cell BK1129.out 0).trans rfl, (blk_cell BK1129.out 1).trans rfl, (blk_cell BK1129.out 2).trans rfl, (blk_cell BK1130.out 0).trans rfl, (blk_cell BK1130.out 1).trans rfl, (blk_cell BK1130.out 2).trans rfl⟩ (fun hHeld => ?_)
              generalize w133.drew = w134 at HO_1149002 HO_1155002 HO_1161002 HO_1167002 BK1129 BK1130 BK1148 BK1154 BK1160 BK1166 HB hHeld ⊢
              refine take_ (i := 0) (N := some 75) (v := ?_) (a' := ?_) #[true, false, false, false, false, false, false] rfl rfl (by kernel_rfl) (fun _ _ _ h => h) (Or.inl ⟨by rfl, ?_⟩) hHeld ?_ ?_
              rotate_left
              ·rintro w' ⟨s0, s1, s2, s3, s4, s5⟩
               go_simp
               with_reducible rfl
              rotate_left
              ·simp only [Act.put, List.setIfInBounds_toArray, List.set_cons_zero, List.set_cons_succ, i64_w, i32_w]
               rfl
              refine take_ (i := 2) (N := some 77) (v := ?_) (a' := ?_) #[true, false, true, false, false, false, false] rfl rfl (by kernel_rfl) (fun _ _ _ h => h) (Or.inl ⟨by rfl, ?_⟩) hHeld ?_ ?_
              rotate_left
              ·rintro w' ⟨s0, s1, s2, s3, s4, s5⟩
               go_simp
               with_reducible rfl
              rotate_left
              ·simp only [Act.put, List.setIfInBounds_toArray, List.set_cons_zero, List.set_cons_succ, i64_w, i32_w]
               rfl
              refine join_ (σ := Value × Value × Value × Nat) 1 #[true, true, true, true, true, true, false] (fun s_ => [(76, .agg #[.int .i64 t1188, .int .i64 t1189, s_.1]), (78, .agg #[.int .i64 t1193, .int .i64 t1194, s_.2.1]), (79, .agg #[.int .i64 t1198, .int .i64 t1199, s_.2.2.1]), (13, .pointer (some ⟨s_.2.2.2, 0, none⟩))]) (fun s_ w' => (w'.cell? ⟨gb1129, 0, none⟩ = some (.int .i64 a0_0) ∧ w'.cell? ⟨gb1129, 1, none⟩ = some (.int .i64 a0_1) ∧ w'.cell? ⟨gb1129, 2, none⟩ = some (.slice A0_2 l0_2.length c0_2) ∧ w'.cell? ⟨gb1130, 0, none⟩ = some (.int .i64 a1_0) ∧ w'.cell? ⟨gb1130, 1, none⟩ = some (.int .i64 a1_1) ∧ w'.cell? ⟨gb1130, 2, none⟩ = some (.slice A1_2 l1_2.length c1_2)) ∧ (Kd.R (Kd.int .i64) 3 w' w.heap.size (fun k_ => some k_ ≠ (s_.2.1 : Value).ownBlock ∧ some k_ ≠ (s_.2.2.1 : Value).ownBlock ∧ some k_ ≠ (.slice Ao53 t1145.length co53 : Value).ownBlock ∧ some k_ ≠ (.slice Ao63 t1181.length co63 : Value).ownBlock ∧ some k_ ≠ (.slice Ao73 t1183.length co73 : Value).ownBlock ∧ some k_ ≠ (.slice Ao83 t1163.length co83 : Value).ownBlock) s_.1 t1190) ∧ (Kd.R (Kd.int .i64) 3 w' w.heap.size (fun k_ => some k_ ≠ (s_.1 : Value).ownBlock ∧ some k_ ≠ (s_.2.2.1 : Value).ownBlock ∧ some k_ ≠ (.slice Ao53 t1145.length co53 : Value).ownBlock ∧ some k_ ≠ (.slice Ao63 t1181.length co63 : Value).ownBlock ∧ some k_ ≠ (.slice Ao73 t1183.length co73 : Value).ownBlock ∧ some k_ ≠ (.slice Ao83 t1163.length co83 : Value).ownBlock) s_.2.1 t1195) ∧ (Kd.R (Kd.int .i64) 3 w' w.heap.size (fun k_ => some k_ ≠ (s_.1 : Value).ownBlock ∧ some k_ ≠ (s_.2.1 : Value).ownBlock ∧ some k_ ≠ (.slice Ao53 t1145.length co53 : Value).ownBlock ∧ some k_ ≠ (.slice Ao63 t1181.length co63 : Value).ownBlock ∧ some k_ ≠ (.slice Ao73 t1183.length co73 : Value).ownBlock ∧ some k_ ≠ (.slice Ao83 t1163.length co83 : Value).ownBlock) s_.2.2.1 t1200) ∧ (Kd.R (Kd.int .i64) 3 w' w.heap.size (fun k_ => some k_ ≠ (s_.1 : Value).ownBlock ∧ some k_ ≠ (s_.2.1 : Value).ownBlock ∧ some k_ ≠ (s_.2.2.1 : Value).ownBlock ∧ some k_ ≠ (.slice Ao63 t1181.length co63 : Value).ownBlock ∧ some k_ ≠ (.slice Ao73 t1183.length co73 : Value).ownBlock ∧ some k_ ≠ (.slice Ao83 t1163.length co83 : Value).ownBlock) (.slice Ao53 t1145.length co53) t1145) ∧ (Kd.R (Kd.int .i64) 3 w' w.heap.size (fun k_ => some k_ ≠ (s_.1 : Value).ownBlock ∧ some k_ ≠ (s_.2.1 : Value).ownBlock ∧ some k_ ≠ (s_.2.2.1 : Value).ownBlock ∧ some k_ ≠ (.slice Ao53 t1145.length co53 : Value).ownBlock ∧ some k_ ≠ (.slice Ao73 t1183.length co73 : Value).ownBlock ∧ some k_ ≠ (.slice Ao83 t1163.length co83 : Value).ownBlock) (.slice Ao63 t1181.length co63) t1181) ∧ (Kd.R (Kd.int .i64) 3 w' w.heap.size (fun k_ => some k_ ≠ (s_.1 : Value).ownBlock ∧ some k_ ≠ (s_.2.1 : Value).ownBlock ∧ some k_ ≠ (s_.2.2.1 : Value).ownBlock ∧ some k_ ≠ (.slice Ao53 t1145.length co53 : Value).ownBlock ∧ some k_ ≠ (.slice Ao63 t1181.length co63 : Value).ownBlock ∧ some k_ ≠ (.slice Ao83 t1163.length co83 : Value).ownBlock) (.slice Ao73 t1183.length co73) t1183) ∧ (Kd.R (Kd.int .i64) 3 w' w.heap.size (fun k_ => some k_ ≠ (s_.1 : Value).ownBlock ∧ some k_ ≠ (s_.2.1 : Value).ownBlock ∧ some k_ ≠ (s_.2.2.1 : Value).ownBlock ∧ some k_ ≠ (.slice Ao53 t1145.length co53 : Value).ownBlock ∧ some k_ ≠ (.slice Ao63 t1181.length co63 : Value).ownBlock ∧ some k_ ≠ (.slice Ao73 t1183.length co73 : Value).ownBlock) (.slice Ao83 t1163.length co83) t1186) ∧ (w'.heap[gb1129]? = some (.cells #[.int .i64 a0_0, .int .i64 a0_1, .slice A0_2 l0_2.length c0_2] 55 (0, 0))) ∧ (w'.heap[gb1130]? = some (.cells #[.int .i64 a1_0, .int .i64 a1_1, .slice A1_2 l1_2.length c1_2] 48 (0, 0))) ∧ (w'.heap[gb1148]? = some (.cells #[.int .i64 t1143, .int .i64 t1144, .slice Ao53 t1145.length co53] 41 (0, 0))) ∧ (w'.heap[gb1154]? = some (.cells #[.int .i64 t1149, .int .i64 t1150, .slice Ao63 t1181.length co63] 26 (0, 0))) ∧ (w'.heap[gb1160]? = some (.cells #[.int .i64 t1155, .int .i64 t1156, .slice Ao73 t1183.length co73] 41 (0, 0))) ∧ (w'.heap[gb1166]? = some (.cells #[.int .i64 t1161, .int .i64 t1162, .slice Ao83 t1163.length co83] 41 (0, 0))) ∧ (w'.heap[s_.2.2.2]? = some (.cells #[.int .i64 0, .int .i64 0, .slice none 0 0] 41 (0, 0))) ∧ (w.heap.size ≤ s_.2.2.2) ∧ (w.heap.size ≤ s_.2.2.2) ∧ (gb1129 ≠ s_.2.2.2) ∧ (s_.2.2.2 ≠ gb1129) ∧ (gb1130 ≠ s_.2.2.2) ∧ (s_.2.2.2 ≠ gb1130) ∧ (gb1148 ≠ s_.2.2.2) ∧ (s_.2.2.2 ≠ gb1148) ∧ (gb1154 ≠ s_.2.2.2) ∧ (s_.2.2.2 ≠ gb1154) ∧ (gb1160 ≠ s_.2.2.2) ∧ (s_.2.2.2 ≠ gb1160) ∧ (gb1166 ≠ s_.2.2.2) ∧ (s_.2.2.2 ≠ gb1166) ∧ (Below w.heap.size w w')) ?_ ?_
              rotate_left
              ·intro hCont
               refine two_ (i := 1) (j := 5) (Ni := some 76) (Nj := some 13) #[true, true, true, false, false, false, false] #[true, false, true, false, false, true, false] rfl rfl rfl rfl (by kernel_rfl) (by decide) (by decide) (fun K hK => ?_) (fun K hK => ?_)
               ·skip
                refine goes_ Try.func58 (by kernel_rfl) rfl #[.agg #[.int .i64 a0_0, .int .i64 a0_1, .slice A0_2 l0_2.length c0_2]] (by rfl) rfl rfl sL_ ?_
                with_reducible refine (laws_toMatrix.calls kj34 a0_0 a0_1 _ _ l0_2 t1188 t1189 t1190 _ ?side1 ?side2 A117.out).mono ?_
                (case side1 => repeat (first | exact (Kd.C_below HR0_2.out HB.out) | (with_reducible refine Kd.C_alloc ?_ _) | (with_reducible refine Kd.C_drewN ?_ _) | (with_reducible refine Kd.C_drew ?_)))
                (case side2 => exact HC0_2.out)
                rintro e w135 ⟨v1191, rfl, ho0, hb⟩
                refine ⟨_, rfl, ?_⟩
                have n0_ := Aside0.mk (Kd.R_elder' (sR_ HO_1149002.out) (Kd.R_base ho0) hb)
                have n1_ := Aside0.mk (Kd.R_elder' (sR_ HO_1155002.out) (Kd.R_base ho0) hb)
                have n2_ := Aside0.mk (Kd.R_elder' (sR_ HO_1161002.out) (Kd.R_base ho0) hb)
                have n3_ := Aside0.mk (Kd.R_elder' (sR_ HO_1167002.out) (Kd.R_base ho0) hb)
                have n4_ := Aside0.mk (Kd.R_lower (Kd.R_new' (Kd.R_new' (Kd.R_new' (Kd.R_new' ho0 (Kd.R_lt (sR_ HO_1149002.out))) (Kd.R_lt (sR_ HO_1155002.out))) (Kd.R_lt (sR_ HO_1161002.out))) (Kd.R_lt (sR_ HO_1167002.out))) (below_size (sW_ HB.out)))
                have n5_ := Aside0.mk (blk_below (sB_ BK1129.out) hb)
                have n6_ := Aside0.mk (blk_below (sB_ BK1130.out) hb)
                have n7_ := Aside0.mk (blk_below (sB_ BK1148.out) hb)
                have n8_ := Aside0.mk (blk_below (sB_ BK1154.out) hb)
                have n9_ := Aside0.mk (blk_below (sB_ BK1160.out) hb)
                have n10_ := Aside0.mk (blk_below (sB_ BK1166.out) hb)
                have n11_ := Aside0.mk (below_step (sW_ HB.out) hb)
                clear HO_1149002 HO_1155002 HO_1161002 HO_1167002 BK1129 BK1130 BK1148 BK1154 BK1160 BK1166 HB; have HO_1149002 := n0_; have HO_1155002 := n1_; have HO_1161002 := n2_; have HO_1167002 := n3_; have HO1192 := n4_; have BK1129 := n5_; have BK1130 := n6_; have BK1148 := n7_; have BK1154 := n8_; have BK1160 := n9_; have BK1166 := n10_; have HB := n11_; clear n0_ n1_ n2_ n3_ n4_ n5_ n6_ n7_ n8_ n9_ n10_ n11_
                (try clear hb)
                (try clear hb2)
                (try clear hk)
                (try clear hi)
                (try clear ho0)
                refine hK.out _ _ ⟨(blk_cell BK1129.out 0).trans rfl, (blk_cell BK1129.out 1).trans rfl, (blk_cell BK1129.out 2).trans rfl, (blk_cell BK1130.out 0).trans rfl, (blk_cell BK1130.out 1).trans rfl, (blk_cell BK1130.out 2).trans rfl⟩ (fun hHeld => ?_)
                clear hK K
                refine norm_ (a' := ?_) ?_ ?_
                rotate_left
                ·show Act.put _ (some 76) _ = _
                 simp only [Act.put, List.setIfInBounds_toArray, List.set_cons_zero, List.set_cons_succ, i64_w, i32_w]
                 rfl
                refine two_ (i := 3) (j := 5) (Ni := some 78) (Nj := some 13) #[true, true, true, true, false, false, false] #[true, true, true, false, false, true, false] rfl rfl rfl rfl (by kernel_rfl) (by decide) (by decide) (fun K hK => ?_) (fun K hK => ?_)
                ·skip
                 refine goes_ Try.func48 (by kernel_rfl) rfl #[.agg #[.int .i64 a1_0, .int .i64 a1_1, .slice A1_2 l1_2.length c1_2]] (by rfl) rfl rfl sL_ ?_
                 with_reducible refine (laws_toPicture.calls kj34 a1_0 a1_1 _ _ l1_2 t1193 t1194 t1195 _ ?side1 ?side2 A118.out).mono ?_
                 (case side1 => repeat (first | exact (Kd.C_below HR1_2.out HB.out) | (with_reducible refine Kd.C_alloc ?_ _) | (with_reducible refine Kd.C_drewN ?_ _) | (with_reducible refine Kd.C_drew ?_)))
                 (case side2 => exact HC1_2.out)
                 rintro e w136 ⟨v1196, rfl, ho0, hb⟩
                 refine ⟨_, rfl, ?_⟩
                 have n0_ := Aside0.mk (Kd.R_elder' (sR_ HO_1149002.out) (Kd.R_base ho0) hb)
                 have n1_ := Aside0.mk (Kd.R_elder' (sR_ HO_1155002.out) (Kd.R_base ho0) hb)
                 have n2_ := Aside0.mk (Kd.R_elder' (sR_ HO_1161002.out) (Kd.R_base ho0) hb)
                 have n3_ := Aside0.mk (Kd.R_elder' (sR_ HO_1167002.out) (Kd.R_base ho0) hb)
                 have n4_ := Aside0.mk (Kd.R_elder' (sR_ HO1192.out) (Kd.R_base ho0) hb)
                 have n5_ := Aside0.mk (Kd.R_lower (Kd.R_new' (Kd.R_new' (Kd.R_new' (Kd.R_new' (Kd.R_new' ho0 (Kd.R_lt (sR_ HO_1149002.out))) (Kd.R_lt (sR_ HO_1155002.out))) (Kd.R_lt (sR_ HO_1161002.out))) (Kd.R_lt (sR_ HO_1167002.out))) (Kd.R_lt (sR_ HO1192.out))) (below_size (sW_ HB.out)))
                 have n6_ := Aside0.mk (blk_below (sB_ BK1129.out) hb)
                 have n7_ := Aside0.mk (blk_below (sB_ BK1130.out) hb)
                 have n8_ := Aside0.mk (blk_below (sB_ BK1148.out) hb)
                 have n9_ := Aside0.mk (blk_below (sB_ BK1154.out) hb)
                 have n10_ := Aside0.mk (blk_below (sB_ BK1160.out) hb)
                 have n11_ := Aside0.mk (blk_below (sB_ BK1166.out) hb)
                 have n12_ := Aside0.mk (below_step (sW_ HB.out) hb)
                 clear HO_1149002 HO_1155002 HO_1161002 HO_1167002 HO1192 BK1129 BK1130 BK1148 BK1154 BK1160 BK1166 HB; have HO_1149002 := n0_; have HO_1155002 := n1_; have HO_1161002 := n2_; have HO_1167002 := n3_; have HO1192 := n4_; have HO1197 := n5_; have BK1129 := n6_; have BK1130 := n7_; have BK1148 := n8_; have BK1154 := n9_; have BK1160 := n10_; have BK1166 := n11_; have HB := n12_; clear n0_ n1_ n2_ n3_ n4_ n5_ n6_ n7_ n8_ n9_ n10_ n11_ n12_
                 (try clear hb)
                 (try clear hb2)
                 (try clear hk)
                 (try clear hi)
                 (try clear ho0)
                 obtain ⟨Ao137, co137, eo137⟩ := Kd.R_slice HO1192.out
                 (first | subst eo137 | (injection eo137 with f1_ f2_ f3_; have f4_ := f1_.symm; have f5_ := f3_.symm; clear f1_ f2_ f3_; subst f4_; subst f5_))
                 obtain ⟨Ao138, co138, eo138⟩ := Kd.R_slice HO1197.out
                 (first | subst eo138 | (injection eo138 with f1_ f2_ f3_; have f4_ := f1_.symm; have f5_ := f3_.symm; clear f1_ f2_ f3_; subst f4_; subst f5_))
                 refine hK.out _ _ ⟨(blk_cell BK1129.out 0).trans rfl, (blk_cell BK1129.out 1).trans rfl, (blk_cell BK1129.out 2).trans rfl, (blk_cell BK1130.out 0).trans rfl, (blk_cell BK1130.out 1).trans rfl, (blk_cell BK1130.out 2).trans rfl⟩ (fun hHeld => ?_)
                 clear hK K
                 refine norm_ (a' := ?_) ?_ ?_
                 rotate_left
                 ·show Act.put _ (some 78) _ = _
                  simp only [Act.put, List.setIfInBounds_toArray, List.set_cons_zero, List.set_cons_succ, i64_w, i32_w]
                  rfl
                 refine two_ (i := 4) (j := 5) (Ni := some 79) (Nj := some 13) #[true, true, true, true, true, false, false] #[true, true, true, true, false, true, false] rfl rfl rfl rfl (by kernel_rfl) (by decide) (by decide) (fun K hK => ?_) (fun K hK => ?_)
                 ·skip
                  refine goes_ Try.func72 (by kernel_rfl) rfl #[.agg #[.int .i64 t1188, .int .i64 t1189, .slice Ao137 t1190.length co137], .agg #[.int .i64 t1193, .int .i64 t1194, .slice Ao138 t1195.length co138]] (by rfl) rfl rfl sL_ ?_
                  with_reducible refine (impl_ScreenPicture.calls t1188 t1189 _ _ t1190 t1193 t1194 _ _ t1195 t1198 t1199 t1200 _ ?side1 ?side2 ?side3 ?side4 A119.out).mono ?_
                  (case side1 => repeat (first | exact (Kd.R_reads' HO1192.out).2.2 | (with_reducible refine Kd.C_alloc ?_ _) | (with_reducible refine Kd.C_drewN ?_ _) | (with_reducible refine Kd.C_drew ?_)))
                  (case side2 => exact (Kd.R_reads' HO1192.out).2.1)
                  (case side3 => repeat (first | exact (Kd.R_reads' HO1197.out).2.2 | (with_reducible refine Kd.C_alloc ?_ _) | (with_reducible refine Kd.C_drewN ?_ _) | (with_reducible refine Kd.C_drew ?_)))
                  (case side4 => exact (Kd.R_reads' HO1197.out).2.1)
                  rintro e w139 ⟨v1201, rfl, ho0, hb⟩
                  refine ⟨_, rfl, ?_⟩
                  have n0_ := Aside0.mk (Kd.R_elder' (sR_ HO_1149002.out) (Kd.R_base ho0) hb)
                  have n1_ := Aside0.mk (Kd.R_elder' (sR_ HO_1155002.out) (Kd.R_base ho0) hb)
                  have n2_ := Aside0.mk (Kd.R_elder' (sR_ HO_1161002.out) (Kd.R_base ho0) hb)
                  have n3_ := Aside0.mk (Kd.R_elder' (sR_ HO_1167002.out) (Kd.R_base ho0) hb)
                  have n4_ := Aside0.mk (Kd.R_elder' (sR_ HO1192.out) (Kd.R_base ho0) hb)
                  have n5_ := Aside0.mk (Kd.R_elder' (sR_ HO1197.out) (Kd.R_base ho0) hb)
                  have n6_ := Aside0.mk (Kd.R_lower (Kd.R_new' (Kd.R_new' (Kd.R_new' (Kd.R_new' (Kd.R_new' (Kd.R_new' ho0 (Kd.R_lt (sR_ HO_1149002.out))) (Kd.R_lt (sR_ HO_1155002.out))) (Kd.R_lt (sR_ HO_1161002.out))) (Kd.R_lt (sR_ HO_1167002.out))) (Kd.R_lt (sR_ HO1192.out))) (Kd.R_lt (sR_ HO1197.out))) (below_size (sW_ HB.out)))
                  have n7_ := Aside0.mk (blk_below (sB_ BK1129.out) hb)
                  have n8_ := Aside0.mk (blk_below (sB_ BK1130.out) hb)
                  have n9_ := Aside0.mk (blk_below (sB_ BK1148.out) hb)
                  have n10_ := Aside0.mk (blk_below (sB_ BK1154.out) hb)
                  have n11_ := Aside0.mk (blk_below (sB_ BK1160.out) hb)
                  have n12_ := Aside0.mk (blk_below (sB_ BK1166.out) hb)
                  have n13_ := Aside0.mk (below_step (sW_ HB.out) hb)
                  clear HO_1149002 HO_1155002 HO_1161002 HO_1167002 HO1192 HO1197 BK1129 BK1130 BK1148 BK1154 BK1160 BK1166 HB; have HO_1149002 := n0_; have HO_1155002 := n1_; have HO_1161002 := n2_; have HO_1167002 := n3_; have HO1192 := n4_; have HO1197 := n5_; have HO1202 := n6_; have BK1129 := n7_; have BK1130 := n8_; have BK1148 := n9_; have BK1154 := n10_; have BK1160 := n11_; have BK1166 := n12_; have HB := n13_; clear n0_ n1_ n2_ n3_ n4_ n5_ n6_ n7_ n8_ n9_ n10_ n11_ n12_ n13_
                  (try clear hb)
                  (try clear hb2)
                  (try clear hk)
                  (try clear hi)
                  (try clear ho0)
                  refine hK.out _ _ ⟨(blk_cell BK1129.out 0).trans rfl, (blk_cell BK1129.out 1).trans rfl, (blk_cell BK1129.out 2).trans rfl, (blk_cell BK1130.out 0).trans rfl, (blk_cell BK1130.out 1).trans rfl, (blk_cell BK1130.out 2).trans rfl⟩ (fun hHeld => ?_)
                  clear hK K
                  refine norm_ (a' := ?_) ?_ ?_
                  rotate_left
                  ·show Act.put _ (some 79) _ = _
                   simp only [Act.put, List.setIfInBounds_toArray, List.set_cons_zero, List.set_cons_succ, i64_w, i32_w]
                   rfl
                  refine one_ (i := 5) (N := some 13) #[true, true, true, true, true, true, false] rfl rfl (by kernel_rfl) (by decide) (fun K hK => ?_)
                  refine box_step ?hg (N := 13) ?hd (cs := #[.int .i64 0, .int .i64 0, .slice none 0 0]) (t := 41) ?hr ?_; (case hd => rfl); (case hg => rfl); (case hr => first | (go_simp; done) | (go_simp; rfl))
                  intro gb1203 hg w140 hbox hb
                  have n0_ := Aside0.mk (Kd.R_below (sR_ HO_1149002.out) hb)
                  have n1_ := Aside0.mk (Kd.R_below (sR_ HO_1155002.out) hb)
                  have n2_ := Aside0.mk (Kd.R_below (sR_ HO_1161002.out) hb)
                  have n3_ := Aside0.mk (Kd.R_below (sR_ HO_1167002.out) hb)
                  have n4_ := Aside0.mk (Kd.R_below (sR_ HO1192.out) hb)
                  have n5_ := Aside0.mk (Kd.R_below (sR_ HO1197.out) hb)
                  have n6_ := Aside0.mk (Kd.R_below (sR_ HO1202.out) hb)
                  have n7_ := Aside0.mk (blk_below (sB_ BK1129.out) hb)
                  have n8_ := Aside0.mk (blk_below (sB_ BK1130.out) hb)
                  have n9_ := Aside0.mk (blk_below (sB_ BK1148.out) hb)
                  have n10_ := Aside0.mk (blk_below (sB_ BK1154.out) hb)
                  have n11_ := Aside0.mk (blk_below (sB_ BK1160.out) hb)
                  have n12_ := Aside0.mk (blk_below (sB_ BK1166.out) hb)
                  have n13_ := Aside0.mk (below_step (sW_ HB.out) hb)
                  have n14_ := Aside0.mk (hbox)
                  have n15_ := Aside0.mk ((by rw [hg]; exact (below_size (sW_ HB.out)) : w.heap.size ≤ gb1203))
                  have n16_ := Aside0.mk ((by rw [hg]; exact (below_size (sW_ HB.out)) : w.heap.size ≤ gb1203))
                  have n17_ := Aside0.mk ((by rw [hg]; exact Nat.ne_of_lt (blk_lt (sB_ BK1129.out)) : gb1129 ≠ gb1203))
                  have n18_ := Aside0.mk ((by rw [hg]; exact Nat.ne_of_gt (blk_lt (sB_ BK1129.out)) : gb1203 ≠ gb1129))
                  have n19_ := Aside0.mk ((by rw [hg]; exact Nat.ne_of_lt (blk_lt (sB_ BK1130.out)) : gb1130 ≠ gb1203))
                  have n20_ := Aside0.mk ((by rw [hg]; exact Nat.ne_of_gt (blk_lt (sB_ BK1130.out)) : gb1203 ≠ gb1130))
                  have n21_ := Aside0.mk ((by rw [hg]; exact Nat.ne_of_lt (blk_lt (sB_ BK1148.out)) : gb1148 ≠ gb1203))
                  have n22_ := Aside0.mk ((by rw [hg]; exact Nat.ne_of_gt (blk_lt (sB_ BK1148.out)) : gb1203 ≠ gb1148))
                  have n23_ := Aside0.mk ((by rw [hg]; exact Nat.ne_of_lt (blk_lt (sB_ BK1154.out)) : gb1154 ≠ gb1203))
                  have n24_ := Aside0.mk ((by rw [hg]; exact Nat.ne_of_gt (blk_lt (sB_ BK1154.out)) : gb1203 ≠ gb1154))
                  have n25_ := Aside0.mk ((by rw [hg]; exact Nat.ne_of_lt (blk_lt (sB_ BK1160.out)) : gb1160 ≠ gb1203))
                  have n26_ := Aside0.mk ((by rw [hg]; exact Nat.ne_of_gt (blk_lt (sB_ BK1160.out)) : gb1203 ≠ gb1160))
                  have n27_ := Aside0.mk ((by rw [hg]; exact Nat.ne_of_lt (blk_lt (sB_ BK1166.out)) : gb1166 ≠ gb1203))
                  have n28_ := Aside0.mk ((by rw [hg]; exact Nat.ne_of_gt (blk_lt (sB_ BK1166.out)) : gb1203 ≠ gb1166))
                  clear HO_1149002 HO_1155002 HO_1161002 HO_1167002 HO1192 HO1197 HO1202 BK1129 BK1130 BK1148 BK1154 BK1160 BK1166 HB; have HO_1149002 := n0_; have HO_1155002 := n1_; have HO_1161002 := n2_; have HO_1167002 := n3_; have HO1192 := n4_; have HO1197 := n5_; have HO1202 := n6_; have BK1129 := n7_; have BK1130 := n8_; have BK1148 := n9_; have BK1154 := n10_; have BK1160 := n11_; have BK1166 := n12_; have HB := n13_; have BK1203 := n14_; have GW1203 := n15_; have GE1203 := n16_; have NB1129_1203 := n17_; have NB1203_1129 := n18_; have NB1130_1203 := n19_; have NB1203_1130 := n20_; have NB1148_1203 := n21_; have NB1203_1148 := n22_; have NB1154_1203 := n23_; have NB1203_1154 := n24_; have NB1160_1203 := n25_; have NB1203_1160 := n26_; have NB1166_1203 := n27_; have NB1203_1166 := n28_; clear n0_ n1_ n2_ n3_ n4_ n5_ n6_ n7_ n8_ n9_ n10_ n11_ n12_ n13_ n14_ n15_ n16_ n17_ n18_ n19_ n20_ n21_ n22_ n23_ n24_ n25_ n26_ n27_ n28_ hb hbox hg
                  refine hK.out _ _ ⟨(blk_cell BK1129.out 0).trans rfl, (blk_cell BK1129.out 1).trans rfl, (blk_cell BK1129.out 2).trans rfl, (blk_cell BK1130.out 0).trans rfl, (blk_cell BK1130.out 1).trans rfl, (blk_cell BK1130.out 2).trans rfl⟩ (fun hHeld => ?_)
                  clear hK K
                  refine norm_ (a' := ?_) ?_ ?_
                  rotate_left
                  ·show Act.put _ (some 13) _ = _
                   simp only [Act.put, List.setIfInBounds_toArray, List.set_cons_zero, List.set_cons_succ, i64_w, i32_w]
                   rfl
                  exact norm_ sP_ (hCont (.slice Ao137 t1190.length co137, .slice Ao138 t1195.length co138, v1201, gb1203) _ ⟨hHeld, (by (with_reducible repeat (first | apply Kd.R_alloc | apply Kd.R_drewN | apply Kd.R_drew)); exact Kd.R_mono HO1192.out (fun _ hk => ⟨hk.1.2, ⟨hk.2, ⟨hk.1.1.1.1.1.2, ⟨hk.1.1.1.1.2, ⟨hk.1.1.1.2, hk.1.1.2⟩⟩⟩⟩⟩)), (by (with_reducible repeat (first | apply Kd.R_alloc | apply Kd.R_drewN | apply Kd.R_drew)); exact Kd.R_mono HO1197.out (fun _ hk => ⟨hk.1.2, ⟨hk.2, ⟨hk.1.1.1.1.1.2, ⟨hk.1.1.1.1.2, ⟨hk.1.1.1.2, hk.1.1.2⟩⟩⟩⟩⟩)), (by (with_reducible repeat (first | apply Kd.R_alloc | apply Kd.R_drewN | apply Kd.R_drew)); exact Kd.R_mono HO1202.out (fun _ hk => ⟨hk.1.2, ⟨hk.2, ⟨hk.1.1.1.1.1.2, ⟨hk.1.1.1.1.2, ⟨hk.1.1.1.2, hk.1.1.2⟩⟩⟩⟩⟩)), (by (with_reducible repeat (first | apply Kd.R_alloc | apply Kd.R_drewN | apply Kd.R_drew)); exact Kd.R_mono HO_1149002.out (fun _ hk => ⟨hk.1.1.2, ⟨hk.1.2, ⟨hk.2, ⟨hk.1.1.1.1, ⟨hk.1.1.1.2.1, hk.1.1.1.2.2⟩⟩⟩⟩⟩)), (by (with_reducible repeat (first | apply Kd.R_alloc | apply Kd.R_drewN | apply Kd.R_drew)); exact Kd.R_mono HO_1155002.out (fun _ hk => ⟨hk.1.1.2, ⟨hk.1.2, ⟨hk.2, ⟨hk.1.1.1.1, ⟨hk.1.1.1.2.1, hk.1.1.1.2.2⟩⟩⟩⟩⟩)), (by (with_reducible repeat (first | apply Kd.R_alloc | apply Kd.R_drewN | apply Kd.R_drew)); exact Kd.R_mono HO_1161002.out (fun _ hk => ⟨hk.1.1.2, ⟨hk.1.2, ⟨hk.2, ⟨hk.1.1.1.1, ⟨hk.1.1.1.2.1, hk.1.1.1.2.2⟩⟩⟩⟩⟩)), (by (with_reducible repeat (first | apply Kd.R_alloc | apply Kd.R_drewN | apply Kd.R_drew)); exact Kd.R_mono HO_1167002.out (fun _ hk => ⟨hk.1.1.2, ⟨hk.1.2, ⟨hk.2, ⟨hk.1.1.1.1, ⟨hk.1.1.1.2.1, hk.1.1.1.2.2⟩⟩⟩⟩⟩)), (sB_ BK1129.out), (sB_ BK1130.out), (sB_ BK1148.out), (sB_ BK1154.out), (sB_ BK1160.out), (sB_ BK1166.out), (sB_ BK1203.out), GW1203.out, GE1203.out, NB1129_1203.out, NB1203_1129.out, NB1130_1203.out, NB1203_1130.out, NB1148_1203.out, NB1203_1148.out, NB1154_1203.out, NB1203_1154.out, NB1160_1203.out, NB1203_1160.out, NB1166_1203.out, NB1203_1166.out, (sW_ HB.out)⟩)
                 ·skip
                  refine box_step ?hg (N := 13) ?hd (cs := #[.int .i64 0, .int .i64 0, .slice none 0 0]) (t := 41) ?hr ?_; (case hd => rfl); (case hg => rfl); (case hr => first | (go_simp; done) | (go_simp; rfl))
                  intro gb1203 hg w137 hbox hb
                  have n0_ := Aside0.mk (Kd.R_below (sR_ HO_1149002.out) hb)
                  have n1_ := Aside0.mk (Kd.R_below (sR_ HO_1155002.out) hb)
                  have n2_ := Aside0.mk (Kd.R_below (sR_ HO_1161002.out) hb)
                  have n3_ := Aside0.mk (Kd.R_below (sR_ HO_1167002.out) hb)
                  have n4_ := Aside0.mk (Kd.R_below (sR_ HO1192.out) hb)
                  have n5_ := Aside0.mk (Kd.R_below (sR_ HO1197.out) hb)
                  have n6_ := Aside0.mk (blk_below (sB_ BK1129.out) hb)
                  have n7_ := Aside0.mk (blk_below (sB_ BK1130.out) hb)
                  have n8_ := Aside0.mk (blk_below (sB_ BK1148.out) hb)
                  have n9_ := Aside0.mk (blk_below (sB_ BK1154.out) hb)
                  have n10_ := Aside0.mk (blk_below (sB_ BK1160.out) hb)
                  have n11_ := Aside0.mk (blk_below (sB_ BK1166.out) hb)
                  have n12_ := Aside0.mk (below_step (sW_ HB.out) hb)
                  have n13_ := Aside0.mk (hbox)
                  have n14_ := Aside0.mk ((by rw [hg]; exact (below_size (sW_ HB.out)) : w.heap.size ≤ gb1203))
                  have n15_ := Aside0.mk ((by rw [hg]; exact (below_size (sW_ HB.out)) : w.heap.size ≤ gb1203))
                  have n16_ := Aside0.mk ((by rw [hg]; exact Nat.ne_of_lt (blk_lt (sB_ BK1129.out)) : gb1129 ≠ gb1203))
                  have n17_ := Aside0.mk ((by rw [hg]; exact Nat.ne_of_gt (blk_lt (sB_ BK1129.out)) : gb1203 ≠ gb1129))
                  have n18_ := Aside0.mk ((by rw [hg]; exact Nat.ne_of_lt (blk_lt (sB_ BK1130.out)) : gb1130 ≠ gb1203))
                  have n19_ := Aside0.mk ((by rw [hg]; exact Nat.ne_of_gt (blk_lt (sB_ BK1130.out)) : gb1203 ≠ gb1130))
                  have n20_ := Aside0.mk ((by rw [hg]; exact Nat.ne_of_lt (blk_lt (sB_ BK1148.out)) : gb1148 ≠ gb1203))
                  have n21_ := Aside0.mk ((by rw [hg]; exact Nat.ne_of_gt (blk_lt (sB_ BK1148.out)) : gb1203 ≠ gb1148))
                  have n22_ := Aside0.mk ((by rw [hg]; exact Nat.ne_of_lt (blk_lt (sB_ BK1154.out)) : gb1154 ≠ gb1203))
                  have n23_ := Aside0.mk ((by rw [hg]; exact Nat.ne_of_gt (blk_lt (sB_ BK1154.out)) : gb1203 ≠ gb1154))
                  have n24_ := Aside0.mk ((by rw [hg]; exact Nat.ne_of_lt (blk_lt (sB_ BK1160.out)) : gb1160 ≠ gb1203))
                  have n25_ := Aside0.mk ((by rw [hg]; exact Nat.ne_of_gt (blk_lt (sB_ BK1160.out)) : gb1203 ≠ gb1160))
                  have n26_ := Aside0.mk ((by rw [hg]; exact Nat.ne_of_lt (blk_lt (sB_ BK1166.out)) : gb1166 ≠ gb1203))
                  have n27_ := Aside0.mk ((by rw [hg]; exact Nat.ne_of_gt (blk_lt (sB_ BK1166.out)) : gb1203 ≠ gb1166))
                  clear HO_1149002 HO_1155002 HO_1161002 HO_1167002 HO1192 HO1197 BK1129 BK1130 BK1148 BK1154 BK1160 BK1166 HB; have HO_1149002 := n0_; have HO_1155002 := n1_; have HO_1161002 := n2_; have HO_1167002 := n3_; have HO1192 := n4_; have HO1197 := n5_; have BK1129 := n6_; have BK1130 := n7_; have BK1148 := n8_; have BK1154 := n9_; have BK1160 := n10_; have BK1166 := n11_; have HB := n12_; have BK1203 := n13_; have GW1203 := n14_; have GE1203 := n15_; have NB1129_1203 := n16_; have NB1203_1129 := n17_; have NB1130_1203 := n18_; have NB1203_1130 := n19_; have NB1148_1203 := n20_; have NB1203_1148 := n21_; have NB1154_1203 := n22_; have NB1203_1154 := n23_; have NB1160_1203 := n24_; have NB1203_1160 := n25_; have NB1166_1203 := n26_; have NB1203_1166 := n27_; clear n0_ n1_ n2_ n3_ n4_ n5_ n6_ n7_ n8_ n9_ n10_ n11_ n12_ n13_ n14_ n15_ n16_ n17_ n18_ n19_ n20_ n21_ n22_ n23_ n24_ n25_ n26_ n27_ hb hbox hg
                  obtain ⟨Ao138, co138, eo138⟩ := Kd.R_slice HO1192.out
                  (first | subst eo138 | (injection eo138 with f1_ f2_ f3_; have f4_ := f1_.symm; have f5_ := f3_.symm; clear f1_ f2_ f3_; subst f4_; subst f5_))
                  obtain ⟨Ao139, co139, eo139⟩ := Kd.R_slice HO1197.out
                  (first | subst eo139 | (injection eo139 with f1_ f2_ f3_; have f4_ := f1_.symm; have f5_ := f3_.symm; clear f1_ f2_ f3_; subst f4_; subst f5_))
                  refine hK.out _ _ ⟨(blk_cell BK1129.out 0).trans rfl, (blk_cell BK1129.out 1).trans rfl, (blk_cell BK1129.out 2).trans rfl, (blk_cell BK1130.out 0).trans rfl, (blk_cell BK1130.out 1).trans rfl, (blk_cell BK1130.out 2).trans rfl⟩ (fun hHeld => ?_)
                  clear hK K
                  refine norm_ (a' := ?_) ?_ ?_
                  rotate_left
                  ·show Act.put _ (some 13) _ = _
                   simp only [Act.put, List.setIfInBounds_toArray, List.set_cons_zero, List.set_cons_succ, i64_w, i32_w]
                   rfl
                  refine one_ (i := 4) (N := some 79) #[true, true, true, true, true, true, false] rfl rfl (by kernel_rfl) (by decide) (fun K hK => ?_)
                  refine goes_ Try.func72 (by kernel_rfl) rfl #[.agg #[.int .i64 t1188, .int .i64 t1189, .slice Ao138 t1190.length co138], .agg #[.int .i64 t1193, .int .i64 t1194, .slice Ao139 t1195.length co139]] (by rfl) rfl rfl sL_ ?_
                  with_reducible refine (impl_ScreenPicture.calls t1188 t1189 _ _ t1190 t1193 t1194 _ _ t1195 t1198 t1199 t1200 _ ?side1 ?side2 ?side3 ?side4 A119.out).mono ?_
                  (case side1 => repeat (first | exact (Kd.R_reads' HO1192.out).2.2 | (with_reducible refine Kd.C_alloc ?_ _) | (with_reducible refine Kd.C_drewN ?_ _) | (with_reducible refine Kd.C_drew ?_)))
                  (case side2 => exact (Kd.R_reads' HO1192.out).2.1)
                  (case side3 => repeat (first | exact (Kd.R_reads' HO1197.out).2.2 | (with_reducible refine Kd.C_alloc ?_ _) | (with_reducible refine Kd.C_drewN ?_ _) | (with_reducible refine Kd.C_drew ?_)))
                  (case side4 => exact (Kd.R_reads' HO1197.out).2.1)
                  rintro e w140 ⟨v1201, rfl, ho0, hb⟩
                  refine ⟨_, rfl, ?_⟩
                  have n0_ := Aside0.mk (Kd.R_elder' (sR_ HO_1149002.out) (Kd.R_base ho0) hb)
                  have n1_ := Aside0.mk (Kd.R_elder' (sR_ HO_1155002.out) (Kd.R_base ho0) hb)
                  have n2_ := Aside0.mk (Kd.R_elder' (sR_ HO_1161002.out) (Kd.R_base ho0) hb)
                  have n3_ := Aside0.mk (Kd.R_elder' (sR_ HO_1167002.out) (Kd.R_base ho0) hb)
                  have n4_ := Aside0.mk (Kd.R_elder' (sR_ HO1192.out) (Kd.R_base ho0) hb)
                  have n5_ := Aside0.mk (Kd.R_elder' (sR_ HO1197.out) (Kd.R_base ho0) hb)
                  have n6_ := Aside0.mk (Kd.R_lower (Kd.R_new' (Kd.R_new' (Kd.R_new' (Kd.R_new' (Kd.R_new' (Kd.R_new' ho0 (Kd.R_lt (sR_ HO_1149002.out))) (Kd.R_lt (sR_ HO_1155002.out))) (Kd.R_lt (sR_ HO_1161002.out))) (Kd.R_lt (sR_ HO_1167002.out))) (Kd.R_lt (sR_ HO1192.out))) (Kd.R_lt (sR_ HO1197.out))) (below_size (sW_ HB.out)))
                  have n7_ := Aside0.mk (blk_below (sB_ BK1129.out) hb)
                  have n8_ := Aside0.mk (blk_below (sB_ BK1130.out) hb)
                  have n9_ := Aside0.mk (blk_below (sB_ BK1148.out) hb)
                  have n10_ := Aside0.mk (blk_below (sB_ BK1154.out) hb)
                  have n11_ := Aside0.mk (blk_below (sB_ BK1160.out) hb)
                  have n12_ := Aside0.mk (blk_below (sB_ BK1166.out) hb)
                  have n13_ := Aside0.mk (blk_below (sB_ BK1203.out) hb)
                  have n14_ := Aside0.mk (below_step (sW_ HB.out) hb)
                  clear HO_1149002 HO_1155002 HO_1161002 HO_1167002 HO1192 HO1197 BK1129 BK1130 BK1148 BK1154 BK1160 BK1166 BK1203 HB; have HO_1149002 := n0_; have HO_1155002 := n1_; have HO_1161002 := n2_; have HO_1167002 := n3_; have HO1192 := n4_; have HO1197 := n5_; have HO1202 := n6_; have BK1129 := n7_; have BK1130 := n8_; have BK1148 := n9_; have BK1154 := n10_; have BK1160 := n11_; have BK1166 := n12_; have BK1203 := n13_; have HB := n14_; clear n0_ n1_ n2_ n3_ n4_ n5_ n6_ n7_ n8_ n9_ n10_ n11_ n12_ n13_ n14_
                  (try clear hb)
                  (try clear hb2)
                  (try clear hk)
                  (try clear hi)
                  (try clear ho0)
                  refine hK.out _ _ ⟨(blk_cell BK1129.out 0).trans rfl, (blk_cell BK1129.out 1).trans rfl, (blk_cell BK1129.out 2).trans rfl, (blk_cell BK1130.out 0).trans rfl, (blk_cell BK1130.out 1).trans rfl, (blk_cell BK1130.out 2).trans rfl⟩ (fun hHeld => ?_)
                  clear hK K
                  refine norm_ (a' := ?_) ?_ ?_
                  rotate_left
                  ·show Act.put _ (some 79) _ = _
                   simp only [Act.put, List.setIfInBounds_toArray, List.set_cons_zero, List.set_cons_succ, i64_w, i32_w]
                   rfl
                  exact norm_ sP_ (hCont (.slice Ao138 t1190.length co138, .slice Ao139 t1195.length co139, v1201, gb1203) _ ⟨hHeld, (by (with_reducible repeat (first | apply Kd.R_alloc | apply Kd.R_drewN | apply Kd.R_drew)); exact Kd.R_mono HO1192.out (fun _ hk => ⟨hk.1.2, ⟨hk.2, ⟨hk.1.1.1.1.1.2, ⟨hk.1.1.1.1.2, ⟨hk.1.1.1.2, hk.1.1.2⟩⟩⟩⟩⟩)), (by (with_reducible repeat (first | apply Kd.R_alloc | apply Kd.R_drewN | apply Kd.R_drew)); exact Kd.R_mono HO1197.out (fun _ hk => ⟨hk.1.2, ⟨hk.2, ⟨hk.1.1.1.1.1.2, ⟨hk.1.1.1.1.2, ⟨hk.1.1.1.2, hk.1.1.2⟩⟩⟩⟩⟩)), (by (with_reducible repeat (first | apply Kd.R_alloc | apply Kd.R_drewN | apply Kd.R_drew)); exact Kd.R_mono HO1202.out (fun _ hk => ⟨hk.1.2, ⟨hk.2, ⟨hk.1.1.1.1.1.2, ⟨hk.1.1.1.1.2, ⟨hk.1.1.1.2, hk.1.1.2⟩⟩⟩⟩⟩)), (by (with_reducible repeat (first | apply Kd.R_alloc | apply Kd.R_drewN | apply Kd.R_drew)); exact Kd.R_mono HO_1149002.out (fun _ hk => ⟨hk.1.1.2, ⟨hk.1.2, ⟨hk.2, ⟨hk.1.1.1.1, ⟨hk.1.1.1.2.1, hk.1.1.1.2.2⟩⟩⟩⟩⟩)), (by (with_reducible repeat (first | apply Kd.R_alloc | apply Kd.R_drewN | apply Kd.R_drew)); exact Kd.R_mono HO_1155002.out (fun _ hk => ⟨hk.1.1.2, ⟨hk.1.2, ⟨hk.2, ⟨hk.1.1.1.1, ⟨hk.1.1.1.2.1, hk.1.1.1.2.2⟩⟩⟩⟩⟩)), (by (with_reducible repeat (first | apply Kd.R_alloc | apply Kd.R_drewN | apply Kd.R_drew)); exact Kd.R_mono HO_1161002.out (fun _ hk => ⟨hk.1.1.2, ⟨hk.1.2, ⟨hk.2, ⟨hk.1.1.1.1, ⟨hk.1.1.1.2.1, hk.1.1.1.2.2⟩⟩⟩⟩⟩)), (by (with_reducible repeat (first | apply Kd.R_alloc | apply Kd.R_drewN | apply Kd.R_drew)); exact Kd.R_mono HO_1167002.out (fun _ hk => ⟨hk.1.1.2, ⟨hk.1.2, ⟨hk.2, ⟨hk.1.1.1.1, ⟨hk.1.1.1.2.1, hk.1.1.1.2.2⟩⟩⟩⟩⟩)), (sB_ BK1129.out), (sB_ BK1130.out), (sB_ BK1148.out), (sB_ BK1154.out), (sB_ BK1160.out), (sB_ BK1166.out), (sB_ BK1203.out), GW1203.out, GE1203.out, NB1129_1203.out, NB1203_1129.out, NB1130_1203.out, NB1203_1130.out, NB1148_1203.out, NB1203_1148.out, NB1154_1203.out, NB1203_1154.out, NB1160_1203.out, NB1203_1160.out, NB1166_1203.out, NB1203_1166.out, (sW_ HB.out)⟩)
                ·skip
                 refine box_step ?hg (N := 13) ?hd (cs := #[.int .i64 0, .int .i64 0, .slice none 0 0]) (t := 41) ?hr ?_; (case hd => rfl); (case hg => rfl); (case hr => first | (go_simp; done) | (go_simp; rfl))
                 intro gb1203 hg w136 hbox hb
                 have n0_ := Aside0.mk (Kd.R_below (sR_ HO_1149002.out) hb)
                 have n1_ := Aside0.mk (Kd.R_below (sR_ HO_1155002.out) hb)
                 have n2_ := Aside0.mk (Kd.R_below (sR_ HO_1161002.out) hb)
                 have n3_ := Aside0.mk (Kd.R_below (sR_ HO_1167002.out) hb)
                 have n4_ := Aside0.mk (Kd.R_below (sR_ HO1192.out) hb)
                 have n5_ := Aside0.mk (blk_below (sB_ BK1129.out) hb)
                 have n6_ := Aside0.mk (blk_below (sB_ BK1130.out) hb)
                 have n7_ := Aside0.mk (blk_below (sB_ BK1148.out) hb)
                 have n8_ := Aside0.mk (blk_below (sB_ BK1154.out) hb)
                 have n9_ := Aside0.mk (blk_below (sB_ BK1160.out) hb)
                 have n10_ := Aside0.mk (blk_below (sB_ BK1166.out) hb)
                 have n11_ := Aside0.mk (below_step (sW_ HB.out) hb)
                 have n12_ := Aside0.mk (hbox)
                 have n13_ := Aside0.mk ((by rw [hg]; exact (below_size (sW_ HB.out)) : w.heap.size ≤ gb1203))
                 have n14_ := Aside0.mk ((by rw [hg]; exact (below_size (sW_ HB.out)) : w.heap.size ≤ gb1203))
                 have n15_ := Aside0.mk ((by rw [hg]; exact Nat.ne_of_lt (blk_lt (sB_ BK1129.out)) : gb1129 ≠ gb1203))
                 have n16_ := Aside0.mk ((by rw [hg]; exact Nat.ne_of_gt (blk_lt (sB_ BK1129.out)) : gb1203 ≠ gb1129))
                 have n17_ := Aside0.mk ((by rw [hg]; exact Nat.ne_of_lt (blk_lt (sB_ BK1130.out)) : gb1130 ≠ gb1203))
                 have n18_ := Aside0.mk ((by rw [hg]; exact Nat.ne_of_gt (blk_lt (sB_ BK1130.out)) : gb1203 ≠ gb1130))
                 have n19_ := Aside0.mk ((by rw [hg]; exact Nat.ne_of_lt (blk_lt (sB_ BK1148.out)) : gb1148 ≠ gb1203))
                 have n20_ := Aside0.mk ((by rw [hg]; exact Nat.ne_of_gt (blk_lt (sB_ BK1148.out)) : gb1203 ≠ gb1148))
                 have n21_ := Aside0.mk ((by rw [hg]; exact Nat.ne_of_lt (blk_lt (sB_ BK1154.out)) : gb1154 ≠ gb1203))
                 have n22_ := Aside0.mk ((by rw [hg]; exact Nat.ne_of_gt (blk_lt (sB_ BK1154.out)) : gb1203 ≠ gb1154))
                 have n23_ := Aside0.mk ((by rw [hg]; exact Nat.ne_of_lt (blk_lt (sB_ BK1160.out)) : gb1160 ≠ gb1203))
                 have n24_ := Aside0.mk ((by rw [hg]; exact Nat.ne_of_gt (blk_lt (sB_ BK1160.out)) : gb1203 ≠ gb1160))
                 have n25_ := Aside0.mk ((by rw [hg]; exact Nat.ne_of_lt (blk_lt (sB_ BK1166.out)) : gb1166 ≠ gb1203))
                 have n26_ := Aside0.mk ((by rw [hg]; exact Nat.ne_of_gt (blk_lt (sB_ BK1166.out)) : gb1203 ≠ gb1166))
                 clear HO_1149002 HO_1155002 HO_1161002 HO_1167002 HO1192 BK1129 BK1130 BK1148 BK1154 BK1160 BK1166 HB; have HO_1149002 := n0_; have HO_1155002 := n1_; have HO_1161002 := n2_; have HO_1167002 := n3_; have HO1192 := n4_; have BK1129 := n5_; have BK1130 := n6_; have BK1148 := n7_; have BK1154 := n8_; have BK1160 := n9_; have BK1166 := n10_; have HB := n11_; have BK1203 := n12_; have GW1203 := n13_; have GE1203 := n14_; have NB1129_1203 := n15_; have NB1203_1129 := n16_; have NB1130_1203 := n17_; have NB1203_1130 := n18_; have NB1148_1203 := n19_; have NB1203_1148 := n20_; have NB1154_1203 := n21_; have NB1203_1154 := n22_; have NB1160_1203 := n23_; have NB1203_1160 := n24_; have NB1166_1203 := n25_; have NB1203_1166 := n26_; clear n0_ n1_ n2_ n3_ n4_ n5_ n6_ n7_ n8_ n9_ n10_ n11_ n12_ n13_ n14_ n15_ n16_ n17_ n18_ n19_ n20_ n21_ n22_ n23_ n24_ n25_ n26_ hb hbox hg
                 refine hK.out _ _ ⟨(blk_cell BK1129.out 0).trans rfl, (blk_cell BK1129.out 1).trans rfl, (blk_cell BK1129.out 2).trans rfl, (blk_cell BK1130.out 0).trans rfl, (blk_cell BK1130.out 1).trans rfl, (blk_cell BK1130.out 2).trans rfl⟩ (fun hHeld => ?_)
                 clear hK K
                 refine norm_ (a' := ?_) ?_ ?_
                 rotate_left
                 ·show Act.put _ (some 13) _ = _
                  simp only [Act.put, List.setIfInBounds_toArray, List.set_cons_zero, List.set_cons_succ, i64_w, i32_w]
                  rfl
                 refine one_ (i := 3) (N := some 78) #[true, true, true, true, false, true, false] rfl rfl (by kernel_rfl) (by decide) (fun K hK => ?_)
                 refine goes_ Try.func48 (by kernel_rfl) rfl #[.agg #[.int .i64 a1_0, .int .i64 a1_1, .slice A1_2 l1_2.length c1_2]] (by rfl) rfl rfl sL_ ?_
                 with_reducible refine (laws_toPicture.calls kj34 a1_0 a1_1 _ _ l1_2 t1193 t1194 t1195 _ ?side1 ?side2 A118.out).mono ?_
                 (case side1 => repeat (first | exact (Kd.C_below HR1_2.out HB.out) | (with_reducible refine Kd.C_alloc ?_ _) | (with_reducible refine Kd.C_drewN ?_ _) | (with_reducible refine Kd.C_drew ?_)))
                 (case side2 => exact HC1_2.out)
                 rintro e w137 ⟨v1196, rfl, ho0, hb⟩
                 refine ⟨_, rfl, ?_⟩
                 have n0_ := Aside0.mk (Kd.R_elder' (sR_ HO_1149002.out) (Kd.R_base ho0) hb)
                 have n1_ := Aside0.mk (Kd.R_elder' (sR_ HO_1155002.out) (Kd.R_base ho0) hb)
                 have n2_ := Aside0.mk (Kd.R_elder' (sR_ HO_1161002.out) (Kd.R_base ho0) hb)
                 have n3_ := Aside0.mk (Kd.R_elder' (sR_ HO_1167002.out) (Kd.R_base ho0) hb)
                 have n4_ := Aside0.mk (Kd.R_elder' (sR_ HO1192.out) (Kd.R_base ho0) hb)
                 have n5_ := Aside0.mk (Kd.R_lower (Kd.R_new' (Kd.R_new' (Kd.R_new' (Kd.R_new' (Kd.R_new' ho0 (Kd.R_lt (sR_ HO_1149002.out))) (Kd.R_lt (sR_ HO_1155002.out))) (Kd.R_lt (sR_ HO_1161002.out))) (Kd.R_lt (sR_ HO_1167002.out))) (Kd.R_lt (sR_ HO1192.out))) (below_size (sW_ HB.out)))
                 have n6_ := Aside0.mk (blk_below (sB_ BK1129.out) hb)
                 have n7_ := Aside0.mk (blk_below (sB_ BK1130.out) hb)
                 have n8_ := Aside0.mk (blk_below (sB_ BK1148.out) hb)
                 have n9_ := Aside0.mk (blk_below (sB_ BK1154.out) hb)
                 have n10_ := Aside0.mk (blk_below (sB_ BK1160.out) hb)
                 have n11_ := Aside0.mk (blk_below (sB_ BK1166.out) hb)
                 have n12_ := Aside0.mk (blk_below (sB_ BK1203.out) hb)
                 have n13_ := Aside0.mk (below_step (sW_ HB.out) hb)
                 clear HO_1149002 HO_1155002 HO_1161002 HO_1167002 HO1192 BK1129 BK1130 BK1148 BK1154 BK1160 BK1166 BK1203 HB; have HO_1149002 := n0_; have HO_1155002 := n1_; have HO_1161002 := n2_; have HO_1167002 := n3_; have HO1192 := n4_; have HO1197 := n5_; have BK1129 := n6_; have BK1130 := n7_; have BK1148 := n8_; have BK1154 := n9_; have BK1160 := n10_; have BK1166 := n11_; have BK1203 := n12_; have HB := n13_; clear n0_ n1_ n2_ n3_ n4_ n5_ n6_ n7_ n8_ n9_ n10_ n11_ n12_ n13_
                 (try clear hb)
                 (try clear hb2)
                 (try clear hk)
                 (try clear hi)
                 (try clear ho0)
                 obtain ⟨Ao138, co138, eo138⟩ := Kd.R_slice HO1192.out
                 (first | subst eo138 | (injection eo138 with f1_ f2_ f3_; have f4_ := f1_.symm; have f5_ := f3_.symm; clear f1_ f2_ f3_; subst f4_; subst f5_))
                 obtain ⟨Ao139, co139, eo139⟩ := Kd.R_slice HO1197.out
                 (first | subst eo139 | (injection eo139 with f1_ f2_ f3_; have f4_ := f1_.symm; have f5_ := f3_.symm; clear f1_ f2_ f3_; subst f4_; subst f5_))
                 refine hK.out _ _ ⟨(blk_cell BK1129.out 0).trans rfl, (blk_cell BK1129.out 1).trans rfl, (blk_cell BK1129.out 2).trans rfl, (blk_cell BK1130.out 0).trans rfl, (blk_cell BK1130.out 1).trans rfl, (blk_cell BK1130.out 2).trans rfl⟩ (fun hHeld => ?_)
                 clear hK K
                 refine norm_ (a' := ?_) ?_ ?_
                 rotate_left
                 ·show Act.put _ (some 78) _ = _
                  simp only [Act.put, List.setIfInBounds_toArray, List.set_cons_zero, List.set_cons_succ, i64_w, i32_w]
                  rfl
                 refine one_ (i := 4) (N := some 79) #[true, true, true, true, true, true, false] rfl rfl (by kernel_rfl) (by decide) (fun K hK => ?_)
                 refine goes_ Try.func72 (by kernel_rfl) rfl #[.agg #[.int .i64 t1188, .int .i64 t1189, .slice Ao138 t1190.length co138], .agg #[.int .i64 t1193, .int .i64 t1194, .slice Ao139 t1195.length co139]] (by rfl) rfl rfl sL_ ?_
                 with_reducible refine (impl_ScreenPicture.calls t1188 t1189 _ _ t1190 t1193 t1194 _ _ t1195 t1198 t1199 t1200 _ ?side1 ?side2 ?side3 ?side4 A119.out).mono ?_
                 (case side1 => repeat (first | exact (Kd.R_reads' HO1192.out).2.2 | (with_reducible refine Kd.C_alloc ?_ _) | (with_reducible refine Kd.C_drewN ?_ _) | (with_reducible refine Kd.C_drew ?_)))
                 (case side2 => exact (Kd.R_reads' HO1192.out).2.1)
                 (case side3 => repeat (first | exact (Kd.R_reads' HO1197.out).2.2 | (with_reducible refine Kd.C_alloc ?_ _) | (with_reducible refine Kd.C_drewN ?_ _) | (with_reducible refine Kd.C_drew ?_)))
                 (case side4 => exact (Kd.R_reads' HO1197.out).2.1)
                 rintro e w140 ⟨v1201, rfl, ho0, hb⟩
                 refine ⟨_, rfl, ?_⟩
                 have n0_ := Aside0.mk (Kd.R_elder' (sR_ HO_1149002.out) (Kd.R_base ho0) hb)
                 have n1_ := Aside0.mk (Kd.R_elder' (sR_ HO_1155002.out) (Kd.R_base ho0) hb)
                 have n2_ := Aside0.mk (Kd.R_elder' (sR_ HO_1161002.out) (Kd.R_base ho0) hb)
                 have n3_ := Aside0.mk (Kd.R_elder' (sR_ HO_1167002.out) (Kd.R_base ho0) hb)
                 have n4_ := Aside0.mk (Kd.R_elder' (sR_ HO1192.out) (Kd.R_base ho0) hb)
                 have n5_ := Aside0.mk (Kd.R_elder' (sR_ HO1197.out) (Kd.R_base ho0) hb)
                 have n6_ := Aside0.mk (Kd.R_lower (Kd.R_new' (Kd.R_new' (Kd.R_new' (Kd.R_new' (Kd.R_new' (Kd.R_new' ho0 (Kd.R_lt (sR_ HO_1149002.out))) (Kd.R_lt (sR_ HO_1155002.out))) (Kd.R_lt (sR_ HO_1161002.out))) (Kd.R_lt (sR_ HO_1167002.out))) (Kd.R_lt (sR_ HO1192.out))) (Kd.R_lt (sR_ HO1197.out))) (below_size (sW_ HB.out)))
                 have n7_ := Aside0.mk (blk_below (sB_ BK1129.out) hb)
                 have n8_ := Aside0.mk (blk_below (sB_ BK1130.out) hb)
                 have n9_ := Aside0.mk (blk_below (sB_ BK1148.out) hb)
                 have n10_ := Aside0.mk (blk_below (sB_ BK1154.out) hb)
                 have n11_ := Aside0.mk (blk_below (sB_ BK1160.out) hb)
                 have n12_ := Aside0.mk (blk_below (sB_ BK1166.out) hb)
                 have n13_ := Aside0.mk (blk_below (sB_ BK1203.out) hb)
                 have n14_ := Aside0.mk (below_step (sW_ HB.out) hb)
                 clear HO_1149002 HO_1155002 HO_1161002 HO_1167002 HO1192 HO1197 BK1129 BK1130 BK1148 BK1154 BK1160 BK1166 BK1203 HB; have HO_1149002 := n0_; have HO_1155002 := n1_; have HO_1161002 := n2_; have HO_1167002 := n3_; have HO1192 := n4_; have HO1197 := n5_; have HO1202 := n6_; have BK1129 := n7_; have BK1130 := n8_; have BK1148 := n9_; have BK1154 := n10_; have BK1160 := n11_; have BK1166 := n12_; have BK1203 := n13_; have HB := n14_; clear n0_ n1_ n2_ n3_ n4_ n5_ n6_ n7_ n8_ n9_ n10_ n11_ n12_ n13_ n14_
                 (try clear hb)
                 (try clear hb2)
                 (try clear hk)
                 (try clear hi)
                 (try clear ho0)
                 refine hK.out _ _ ⟨(blk_cell BK1129.out 0).trans rfl, (blk_cell BK1129.out 1).trans rfl, (blk_cell BK1129.out 2).trans rfl, (blk_cell BK1130.out 0).trans rfl, (blk_cell BK1130.out 1).trans rfl, (blk_cell BK1130.out 2).trans rfl⟩ (fun hHeld => ?_)
                 clear hK K
                 refine norm_ (a' := ?_) ?_ ?_
                 rotate_left
                 ·show Act.put _ (some 79) _ = _
                  simp only [Act.put, List.setIfInBounds_toArray, List.set_cons_zero, List.set_cons_succ, i64_w, i32_w]
                  rfl
                 exact norm_ sP_ (hCont (.slice Ao138 t1190.length co138, .slice Ao139 t1195.length co139, v1201, gb1203) _ ⟨hHeld, (by (with_reducible repeat (first | apply Kd.R_alloc | apply Kd.R_drewN | apply Kd.R_drew)); exact Kd.R_mono HO1192.out (fun _ hk => ⟨hk.1.2, ⟨hk.2, ⟨hk.1.1.1.1.1.2, ⟨hk.1.1.1.1.2, ⟨hk.1.1.1.2, hk.1.1.2⟩⟩⟩⟩⟩)), (by (with_reducible repeat (first | apply Kd.R_alloc | apply Kd.R_drewN | apply Kd.R_drew)); exact Kd.R_mono HO1197.out (fun _ hk => ⟨hk.1.2, ⟨hk.2, ⟨hk.1.1.1.1.1.2, ⟨hk.1.1.1.1.2, ⟨hk.1.1.1.2, hk.1.1.2⟩⟩⟩⟩⟩)), (by (with_reducible repeat (first | apply Kd.R_alloc | apply Kd.R_drewN | apply Kd.R_drew)); exact Kd.R_mono HO1202.out (fun _ hk => ⟨hk.1.2, ⟨hk.2, ⟨hk.1.1.1.1.1.2, ⟨hk.1.1.1.1.2, ⟨hk.1.1.1.2, hk.1.1.2⟩⟩⟩⟩⟩)), (by (with_reducible repeat (first | apply Kd.R_alloc | apply Kd.R_drewN | apply Kd.R_drew)); exact Kd.R_mono HO_1149002.out (fun _ hk => ⟨hk.1.1.2, ⟨hk.1.2, ⟨hk.2, ⟨hk.1.1.1.1, ⟨hk.1.1.1.2.1, hk.1.1.1.2.2⟩⟩⟩⟩⟩)), (by (with_reducible repeat (first | apply Kd.R_alloc | apply Kd.R_drewN | apply Kd.R_drew)); exact Kd.R_mono HO_1155002.out (fun _ hk => ⟨hk.1.1.2, ⟨hk.1.2, ⟨hk.2, ⟨hk.1.1.1.1, ⟨hk.1.1.1.2.1, hk.1.1.1.2.2⟩⟩⟩⟩⟩)), (by (with_reducible repeat (first | apply Kd.R_alloc | apply Kd.R_drewN | apply Kd.R_drew)); exact Kd.R_mono HO_1161002.out (fun _ hk => ⟨hk.1.1.2, ⟨hk.1.2, ⟨hk.2, ⟨hk.1.1.1.1, ⟨hk.1.1.1.2.1, hk.1.1.1.2.2⟩⟩⟩⟩⟩)), (by (with_reducible repeat (first | apply Kd.R_alloc | apply Kd.R_drewN | apply Kd.R_drew)); exact Kd.R_mono HO_1167002.out (fun _ hk => ⟨hk.1.1.2, ⟨hk.1.2, ⟨hk.2, ⟨hk.1.1.1.1, ⟨hk.1.1.1.2.1, hk.1.1.1.2.2⟩⟩⟩⟩⟩)), (sB_ BK1129.out), (sB_ BK1130.out), (sB_ BK1148.out), (sB_ BK1154.out), (sB_ BK1160.out), (sB_ BK1166.out), (sB_ BK1203.out), GW1203.out, GE1203.out, NB1129_1203.out, NB1203_1129.out, NB1130_1203.out, NB1203_1130.out, NB1148_1203.out, NB1203_1148.out, NB1154_1203.out, NB1203_1154.out, NB1160_1203.out, NB1203_1160.out, NB1166_1203.out, NB1203_1166.out, (sW_ HB.out)⟩)
               ·skip
                refine box_step ?hg (N := 13) ?hd (cs := #[.int .i64 0, .int .i64 0, .slice none 0 0]) (t := 41) ?hr ?_; (case hd => rfl); (case hg => rfl); (case hr => first | (go_simp; done) | (go_simp; rfl))
                intro gb1203 hg w135 hbox hb
                have n0_ := Aside0.mk (Kd.R_below (sR_ HO_1149002.out) hb)
                have n1_ := Aside0.mk (Kd.R_below (sR_ HO_1155002.out) hb)
                have n2_ := Aside0.mk (Kd.R_below (sR_ HO_1161002.out) hb)
                have n3_ := Aside0.mk (Kd.R_below (sR_ HO_1167002.out) hb)
                have n4_ := Aside0.mk (blk_below (sB_ BK1129.out) hb)
                have n5_ := Aside0.mk (blk_below (sB_ BK1130.out) hb)
                have n6_ := Aside0.mk (blk_below (sB_ BK1148.out) hb)
                have n7_ := Aside0.mk (blk_below (sB_ BK1154.out) hb)
                have n8_ := Aside0.mk (blk_below (sB_ BK1160.out) hb)
                have n9_ := Aside0.mk (blk_below (sB_ BK1166.out) hb)
                have n10_ := Aside0.mk (below_step (sW_ HB.out) hb)
                have n11_ := Aside0.mk (hbox)
                have n12_ := Aside0.mk ((by rw [hg]; exact (below_size (sW_ HB.out)) : w.heap.size ≤ gb1203))
                have n13_ := Aside0.mk ((by rw [hg]; exact (below_size (sW_ HB.out)) : w.heap.size ≤ gb1203))
                have n14_ := Aside0.mk ((by rw [hg]; exact Nat.ne_of_lt (blk_lt (sB_ BK1129.out)) : gb1129 ≠ gb1203))
                have n15_ := Aside0.mk ((by rw [hg]; exact Nat.ne_of_gt (blk_lt (sB_ BK1129.out)) : gb1203 ≠ gb1129))
                have n16_ := Aside0.mk ((by rw [hg]; exact Nat.ne_of_lt (blk_lt (sB_ BK1130.out)) : gb1130 ≠ gb1203))
                have n17_ := Aside0.mk ((by rw [hg]; exact Nat.ne_of_gt (blk_lt (sB_ BK1130.out)) : gb1203 ≠ gb1130))
                have n18_ := Aside0.mk ((by rw [hg]; exact Nat.ne_of_lt (blk_lt (sB_ BK1148.out)) : gb1148 ≠ gb1203))
                have n19_ := Aside0.mk ((by rw [hg]; exact Nat.ne_of_gt (blk_lt (sB_ BK1148.out)) : gb1203 ≠ gb1148))
                have n20_ := Aside0.mk ((by rw [hg]; exact Nat.ne_of_lt (blk_lt (sB_ BK1154.out)) : gb1154 ≠ gb1203))
                have n21_ := Aside0.mk ((by rw [hg]; exact Nat.ne_of_gt (blk_lt (sB_ BK1154.out)) : gb1203 ≠ gb1154))
                have n22_ := Aside0.mk ((by rw [hg]; exact Nat.ne_of_lt (blk_lt (sB_ BK1160.out)) : gb1160 ≠ gb1203))
                have n23_ := Aside0.mk ((by rw [hg]; exact Nat.ne_of_gt (blk_lt (sB_ BK1160.out)) : gb1203 ≠ gb1160))
                have n24_ := Aside0.mk ((by rw [hg]; exact Nat.ne_of_lt (blk_lt (sB_ BK1166.out)) : gb1166 ≠ gb1203))
                have n25_ := Aside0.mk ((by rw [hg]; exact Nat.ne_of_gt (blk_lt (sB_ BK1166.out)) : gb1203 ≠ gb1166))
                clear HO_1149002 HO_1155002 HO_1161002 HO_1167002 BK1129 BK1130 BK1148 BK1154 BK1160 BK1166 HB; have HO_1149002 := n0_; have HO_1155002 := n1_; have HO_1161002 := n2_; have HO_1167002 := n3_; have BK1129 := n4_; have BK1130 := n5_; have BK1148 := n6_; have BK1154 := n7_; have BK1160 := n8_; have BK1166 := n9_; have HB := n10_; have BK1203 := n11_; have GW1203 := n12_; have GE1203 := n13_; have NB1129_1203 := n14_; have NB1203_1129 := n15_; have NB1130_1203 := n16_; have NB1203_1130 := n17_; have NB1148_1203 := n18_; have NB1203_1148 := n19_; have NB1154_1203 := n20_; have NB1203_1154 := n21_; have NB1160_1203 := n22_; have NB1203_1160 := n23_; have NB1166_1203 := n24_; have NB1203_1166 := n25_; clear n0_ n1_ n2_ n3_ n4_ n5_ n6_ n7_ n8_ n9_ n10_ n11_ n12_ n13_ n14_ n15_ n16_ n17_ n18_ n19_ n20_ n21_ n22_ n23_ n24_ n25_ hb hbox hg
                refine hK.out _ _ ⟨(blk_cell BK1129.out 0).trans rfl, (blk_cell BK1129.out 1).trans rfl, (blk_cell BK1129.out 2).trans rfl, (blk_cell BK1130.out 0).trans rfl, (blk_cell BK1130.out 1).trans rfl, (blk_cell BK1130.out 2).trans rfl⟩ (fun hHeld => ?_)
                clear hK K
                refine norm_ (a' := ?_) ?_ ?_
                rotate_left
                ·show Act.put _ (some 13) _ = _
                 simp only [Act.put, List.setIfInBounds_toArray, List.set_cons_zero, List.set_cons_succ, i64_w, i32_w]
                 rfl
                refine one_ (i := 1) (N := some 76) #[true, true, true, false, false, true, false] rfl rfl (by kernel_rfl) (by decide) (fun K hK => ?_)
                refine goes_ Try.func58 (by kernel_rfl) rfl #[.agg #[.int .i64 a0_0, .int .i64 a0_1, .slice A0_2 l0_2.length c0_2]] (by rfl) rfl rfl sL_ ?_
                with_reducible refine (laws_toMatrix.calls kj34 a0_0 a0_1 _ _ l0_2 t1188 t1189 t1190 _ ?side1 ?side2 A117.out).mono ?_
                (case side1 => repeat (first | exact (Kd.C_below HR0_2.out HB.out) | (with_reducible refine Kd.C_alloc ?_ _) | (with_reducible refine Kd.C_drewN ?_ _) | (with_reducible refine Kd.C_drew ?_)))
                (case side2 => exact HC0_2.out)
                rintro e w136 ⟨v1191, rfl, ho0, hb⟩
                refine ⟨_, rfl, ?_⟩
                have n0_ := Aside0.mk (Kd.R_elder' (sR_ HO_1149002.out) (Kd.R_base ho0) hb)
                have n1_ := Aside0.mk (Kd.R_elder' (sR_ HO_1155002.out) (Kd.R_base ho0) hb)
                have n2_ := Aside0.mk (Kd.R_elder' (sR_ HO_1161002.out) (Kd.R_base ho0) hb)
                have n3_ := Aside0.mk (Kd.R_elder' (sR_ HO_1167002.out) (Kd.R_base ho0) hb)
                have n4_ := Aside0.mk (Kd.R_lower (Kd.R_new' (Kd.R_new' (Kd.R_new' (Kd.R_new' ho0 (Kd.R_lt (sR_ HO_1149002.out))) (Kd.R_lt (sR_ HO_1155002.out))) (Kd.R_lt (sR_ HO_1161002.out))) (Kd.R_lt (sR_ HO_1167002.out))) (below_size (sW_ HB.out)))
                have n5_ := Aside0.mk (blk_below (sB_ BK1129.out) hb)
                have n6_ := Aside0.mk (blk_below (sB_ BK1130.out) hb)
                have n7_ := Aside0.mk (blk_below (sB_ BK1148.out) hb)
                have n8_ := Aside0.mk (blk_below (sB_ BK1154.out) hb)
                have n9_ := Aside0.mk (blk_below (sB_ BK1160.out) hb)
                have n10_ := Aside0.mk (blk_below (sB_ BK1166.out) hb)
                have n11_ := Aside0.mk (blk_below (sB_ BK1203.out) hb)
                have n12_ := Aside0.mk (below_step (sW_ HB.out) hb)
                clear HO_1149002 HO_1155002 HO_1161002 HO_1167002 BK1129 BK1130 BK1148 BK1154 BK1160 BK1166 BK1203 HB; have HO_1149002 := n0_; have HO_1155002 := n1_; have HO_1161002 := n2_; have HO_1167002 := n3_; have HO1192 := n4_; have BK1129 := n5_; have BK1130 := n6_; have BK1148 := n7_; have BK1154 := n8_; have BK1160 := n9_; have BK1166 := n10_; have BK1203 := n11_; have HB := n12_; clear n0_ n1_ n2_ n3_ n4_ n5_ n6_ n7_ n8_ n9_ n10_ n11_ n12_
                (try clear hb)
                (try clear hb2)
                (try clear hk)
                (try clear hi)
                (try clear ho0)
                refine hK.out _ _ ⟨(blk_cell BK1129.out 0).trans rfl, (blk_cell BK1129.out 1).trans rfl, (blk_cell BK1129.out 2).trans rfl, (blk_cell BK1130.out 0).trans rfl, (blk_cell BK1130.out 1).trans rfl, (blk_cell BK1130.out 2).trans rfl⟩ (fun hHeld => ?_)
                clear hK K
                refine norm_ (a' := ?_) ?_ ?_
                rotate_left
                ·show Act.put _ (some 76) _ = _
                 simp only [Act.put, List.setIfInBounds_toArray, List.set_cons_zero, List.set_cons_succ, i64_w, i32_w]
                 rfl
                refine one_ (i := 3) (N := some 78) #[true, true, true, true, false, true, false] rfl rfl (by kernel_rfl) (by decide) (fun K hK => ?_)
                refine goes_ Try.func48 (by kernel_rfl) rfl #[.agg #[.int .i64 a1_0, .int .i64 a1_1, .slice A1_2 l1_2.length c1_2]] (by rfl) rfl rfl sL_ ?_
                with_reducible refine (laws_toPicture.calls kj34 a1_0 a1_1 _ _ l1_2 t1193 t1194 t1195 _ ?side1 ?side2 A118.out).mono ?_
                (case side1 => repeat (first | exact (Kd.C_below HR1_2.out HB.out) | (with_reducible refine Kd.C_alloc ?_ _) | (with_reducible refine Kd.C_drewN ?_ _) | (with_reducible refine Kd.C_drew ?_)))
                (case side2 => exact HC1_2.out)
                rintro e w137 ⟨v1196, rfl, ho0, hb⟩
                refine ⟨_, rfl, ?_⟩
                have n0_ := Aside0.mk (Kd.R_elder' (sR_ HO_1149002.out) (Kd.R_base ho0) hb)
                have n1_ := Aside0.mk (Kd.R_elder' (sR_ HO_1155002.out) (Kd.R_base ho0) hb)
                have n2_ := Aside0.mk (Kd.R_elder' (sR_ HO_1161002.out) (Kd.R_base ho0) hb)
                have n3_ := Aside0.mk (Kd.R_elder' (sR_ HO_1167002.out) (Kd.R_base ho0) hb)
                have n4_ := Aside0.mk (Kd.R_elder' (sR_ HO1192.out) (Kd.R_base ho0) hb)
                have n5_ := Aside0.mk (Kd.R_lower (Kd.R_new' (Kd.R_new' (Kd.R_new' (Kd.R_new' (Kd.R_new' ho0 (Kd.R_lt (sR_ HO_1149002.out))) (Kd.R_lt (sR_ HO_1155002.out))) (Kd.R_lt (sR_ HO_1161002.out))) (Kd.R_lt (sR_ HO_1167002.out))) (Kd.R_lt (sR_ HO1192.out))) (below_size (sW_ HB.out)))
                have n6_ := Aside0.mk (blk_below (sB_ BK1129.out) hb)
                have n7_ := Aside0.mk (blk_below (sB_ BK1130.out) hb)
                have n8_ := Aside0.mk (blk_below (sB_ BK1148.out) hb)
                have n9_ := Aside0.mk (blk_below (sB_ BK1154.out) hb)
                have n10_ := Aside0.mk (blk_below (sB_ BK1160.out) hb)
                have n11_ := Aside0.mk (blk_below (sB_ BK1166.out) hb)
                have n12_ := Aside0.mk (blk_below (sB_ BK1203.out) hb)
                have n13_ := Aside0.mk (below_step (sW_ HB.out) hb)
                clear HO_1149002 HO_1155002 HO_1161002 HO_1167002 HO1192 BK1129 BK1130 BK1148 BK1154 BK1160 BK1166 BK1203 HB; have HO_1149002 := n0_; have HO_1155002 := n1_; have HO_1161002 := n2_; have HO_1167002 := n3_; have HO1192 := n4_; have HO1197 := n5_; have BK1129 := n6_; have BK1130 := n7_; have BK1148 := n8_; have BK1154 := n9_; have BK1160 := n10_; have BK1166 := n11_; have BK1203 := n12_; have HB := n13_; clear n0_ n1_ n2_ n3_ n4_ n5_ n6_ n7_ n8_ n9_ n10_ n11_ n12_ n13_
                (try clear hb)
                (try clear hb2)
                (try clear hk)
                (try clear hi)
                (try clear ho0)
                obtain ⟨Ao138, co138, eo138⟩ := Kd.R_slice HO1192.out
                (first | subst eo138 | (injection eo138 with f1_ f2_ f3_; have f4_ := f1_.symm; have f5_ := f3_.symm; clear f1_ f2_ f3_; subst f4_; subst f5_))
                obtain ⟨Ao139, co139, eo139⟩ := Kd.R_slice HO1197.out
                (first | subst eo139 | (injection eo139 with f1_ f2_ f3_; have f4_ := f1_.symm; have f5_ := f3_.symm; clear f1_ f2_ f3_; subst f4_; subst f5_))
                refine hK.out _ _ ⟨(blk_cell BK1129.out 0).trans rfl, (blk_cell BK1129.out 1).trans rfl, (blk_cell BK1129.out 2).trans rfl, (blk_cell BK1130.out 0).trans rfl, (blk_cell BK1130.out 1).trans rfl, (blk_cell BK1130.out 2).trans rfl⟩ (fun hHeld => ?_)
                clear hK K
                refine norm_ (a' := ?_) ?_ ?_
                rotate_left
                ·show Act.put _ (some 78) _ = _
                 simp only [Act.put, List.setIfInBounds_toArray, List.set_cons_zero, List.set_cons_succ, i64_w, i32_w]
                 rfl
                refine one_ (i := 4) (N := some 79) #[true, true, true, true, true, true, false] rfl rfl (by kernel_rfl) (by decide) (fun K hK => ?_)
                refine goes_ Try.func72 (by kernel_rfl) rfl #[.agg #[.int .i64 t1188, .int .i64 t1189, .slice Ao138 t1190.length co138], .agg #[.int .i64 t1193, .int .i64 t1194, .slice Ao139 t1195.length co139]] (by rfl) rfl rfl sL_ ?_
                with_reducible refine (impl_ScreenPicture.calls t1188 t1189 _ _ t1190 t1193 t1194 _ _ t1195 t1198 t1199 t1200 _ ?side1 ?side2 ?side3 ?side4 A119.out).mono ?_
                (case side1 => repeat (first | exact (Kd.R_reads' HO1192.out).2.2 | (with_reducible refine Kd.C_alloc ?_ _) | (with_reducible refine Kd.C_drewN ?_ _) | (with_reducible refine Kd.C_drew ?_)))
                (case side2 => exact (Kd.R_reads' HO1192.out).2.1)
                (case side3 => repeat (first | exact (Kd.R_reads' HO1197.out).2.2 | (with_reducible refine Kd.C_alloc ?_ _) | (with_reducible refine Kd.C_drewN ?_ _) | (with_reducible refine Kd.C_drew ?_)))
                (case side4 => exact (Kd.R_reads' HO1197.out).2.1)
                rintro e w140 ⟨v1201, rfl, ho0, hb⟩
                refine ⟨_, rfl, ?_⟩
                have n0_ := Aside0.mk (Kd.R_elder' (sR_ HO_1149002.out) (Kd.R_base ho0) hb)
                have n1_ := Aside0.mk (Kd.R_elder' (sR_ HO_1155002.out) (Kd.R_base ho0) hb)
                have n2_ := Aside0.mk (Kd.R_elder' (sR_ HO_1161002.out) (Kd.R_base ho0) hb)
                have n3_ := Aside0.mk (Kd.R_elder' (sR_ HO_1167002.out) (Kd.R_base ho0) hb)
                have n4_ := Aside0.mk (Kd.R_elder' (sR_ HO1192.out) (Kd.R_base ho0) hb)
                have n5_ := Aside0.mk (Kd.R_elder' (sR_ HO1197.out) (Kd.R_base ho0) hb)
                have n6_ := Aside0.mk (Kd.R_lower (Kd.R_new' (Kd.R_new' (Kd.R_new' (Kd.R_new' (Kd.R_new' (Kd.R_new' ho0 (Kd.R_lt (sR_ HO_1149002.out))) (Kd.R_lt (sR_ HO_1155002.out))) (Kd.R_lt (sR_ HO_1161002.out))) (Kd.R_lt (sR_ HO_1167002.out))) (Kd.R_lt (sR_ HO1192.out))) (Kd.R_lt (sR_ HO1197.out))) (below_size (sW_ HB.out)))
                have n7_ := Aside0.mk (blk_below (sB_ BK1129.out) hb)
                have n8_ := Aside0.mk (blk_below (sB_ BK1130.out) hb)
                have n9_ := Aside0.mk (blk_below (sB_ BK1148.out) hb)
                have n10_ := Aside0.mk (blk_below (sB_ BK1154.out) hb)
                have n11_ := Aside0.mk (blk_below (sB_ BK1160.out) hb)
                have n12_ := Aside0.mk (blk_below (sB_ BK1166.out) hb)
                have n13_ := Aside0.mk (blk_below (sB_ BK1203.out) hb)
                have n14_ := Aside0.mk (below_step (sW_ HB.out) hb)
                clear HO_1149002 HO_1155002 HO_1161002 HO_1167002 HO1192 HO1197 BK1129 BK1130 BK1148 BK1154 BK1160 BK1166 BK1203 HB; have HO_1149002 := n0_; have HO_1155002 := n1_; have HO_1161002 := n2_; have HO_1167002 := n3_; have HO1192 := n4_; have HO1197 := n5_; have HO1202 := n6_; have BK1129 := n7_; have BK1130 := n8_; have BK1148 := n9_; have BK1154 := n10_; have BK1160 := n11_; have BK1166 := n12_; have BK1203 := n13_; have HB := n14_; clear n0_ n1_ n2_ n3_ n4_ n5_ n6_ n7_ n8_ n9_ n10_ n11_ n12_ n13_ n14_
                (try clear hb)
                (try clear hb2)
                (try clear hk)
                (try clear hi)
                (try clear ho0)
                refine hK.out _ _ ⟨(blk_cell BK1129.out 0).trans rfl, (blk_cell BK1129.out 1).trans rfl, (blk_cell BK1129.out 2).trans rfl, (blk_cell BK1130.out 0).trans rfl, (blk_cell BK1130.out 1).trans rfl, (blk_cell BK1130.out 2).trans rfl⟩ (fun hHeld => ?_)
                clear hK K
                refine norm_ (a' := ?_) ?_ ?_
                rotate_left
                ·show Act.put _ (some 79) _ = _
                 simp only [Act.put, List.setIfInBounds_toArray, List.set_cons_zero, List.set_cons_succ, i64_w, i32_w]
                 rfl
                exact norm_ sP_ (hCont (.slice Ao138 t1190.length co138, .slice Ao139 t1195.length co139, v1201, gb1203) _ ⟨hHeld, (by (with_reducible repeat (first | apply Kd.R_alloc | apply Kd.R_drewN | apply Kd.R_drew)); exact Kd.R_mono HO1192.out (fun _ hk => ⟨hk.1.2, ⟨hk.2, ⟨hk.1.1.1.1.1.2, ⟨hk.1.1.1.1.2, ⟨hk.1.1.1.2, hk.1.1.2⟩⟩⟩⟩⟩)), (by (with_reducible repeat (first | apply Kd.R_alloc | apply Kd.R_drewN | apply Kd.R_drew)); exact Kd.R_mono HO1197.out (fun _ hk => ⟨hk.1.2, ⟨hk.2, ⟨hk.1.1.1.1.1.2, ⟨hk.1.1.1.1.2, ⟨hk.1.1.1.2, hk.1.1.2⟩⟩⟩⟩⟩)), (by (with_reducible repeat (first | apply Kd.R_alloc | apply Kd.R_drewN | apply Kd.R_drew)); exact Kd.R_mono HO1202.out (fun _ hk => ⟨hk.1.2, ⟨hk.2, ⟨hk.1.1.1.1.1.2, ⟨hk.1.1.1.1.2, ⟨hk.1.1.1.2, hk.1.1.2⟩⟩⟩⟩⟩)), (by (with_reducible repeat (first | apply Kd.R_alloc | apply Kd.R_drewN | apply Kd.R_drew)); exact Kd.R_mono HO_1149002.out (fun _ hk => ⟨hk.1.1.2, ⟨hk.1.2, ⟨hk.2, ⟨hk.1.1.1.1, ⟨hk.1.1.1.2.1, hk.1.1.1.2.2⟩⟩⟩⟩⟩)), (by (with_reducible repeat (first | apply Kd.R_alloc | apply Kd.R_drewN | apply Kd.R_drew)); exact Kd.R_mono HO_1155002.out (fun _ hk => ⟨hk.1.1.2, ⟨hk.1.2, ⟨hk.2, ⟨hk.1.1.1.1, ⟨hk.1.1.1.2.1, hk.1.1.1.2.2⟩⟩⟩⟩⟩)), (by (with_reducible repeat (first | apply Kd.R_alloc | apply Kd.R_drewN | apply Kd.R_drew)); exact Kd.R_mono HO_1161002.out (fun _ hk => ⟨hk.1.1.2, ⟨hk.1.2, ⟨hk.2, ⟨hk.1.1.1.1, ⟨hk.1.1.1.2.1, hk.1.1.1.2.2⟩⟩⟩⟩⟩)), (by (with_reducible repeat (first | apply Kd.R_alloc | apply Kd.R_drewN | apply Kd.R_drew)); exact Kd.R_mono HO_1167002.out (fun _ hk => ⟨hk.1.1.2, ⟨hk.1.2, ⟨hk.2, ⟨hk.1.1.1.1, ⟨hk.1.1.1.2.1, hk.1.1.1.2.2⟩⟩⟩⟩⟩)), (sB_ BK1129.out), (sB_ BK1130.out), (sB_ BK1148.out), (sB_ BK1154.out), (sB_ BK1160.out), (sB_ BK1166.out), (sB_ BK1203.out), GW1203.out, GE1203.out, NB1129_1203.out, NB1203_1129.out, NB1130_1203.out, NB1203_1130.out, NB1148_1203.out, NB1203_1148.out, NB1154_1203.out, NB1203_1154.out, NB1160_1203.out, NB1203_1160.out, NB1166_1203.out, NB1203_1166.out, (sW_ HB.out)⟩)
              rintro ⟨v1191, v1196, v1201, gb1203⟩ w141 ⟨hS_, h0_, h1_, h2_, h3_, h4_, h5_, h6_, h7_, h8_, h9_, h10_, h11_, h12_, h13_, h14_, h15_, h16_, h17_, h18_, h19_, h20_, h21_, h22_, h23_, h24_, h25_, h26_, h27_, h28_⟩
              have n0_ : Aside0 (Kd.R (Kd.int .i64) 3 w141 w.heap.size (fun k_ => some k_ ≠ (v1196 : Value).ownBlock ∧ some k_ ≠ (v1201 : Value).ownBlock ∧ some k_ ≠ (.slice Ao53 t1145.length co53 : Value).ownBlock ∧ some k_ ≠ (.slice Ao63 t1181.length co63 : Value).ownBlock ∧ some k_ ≠ (.slice Ao73 t1183.length co73 : Value).ownBlock ∧ some k_ ≠ (.slice Ao83 t1163.length co83 : Value).ownBlock) v1191 t1190) := ⟨h0_⟩
              have n1_ : Aside0 (Kd.R (Kd.int .i64) 3 w141 w.heap.size (fun k_ => some k_ ≠ (v1191 : Value).ownBlock ∧ some k_ ≠ (v1201 : Value).ownBlock ∧ some k_ ≠ (.slice Ao53 t1145.length co53 : Value).ownBlock ∧ some k_ ≠ (.slice Ao63 t1181.length co63 : Value).ownBlock ∧ some k_ ≠ (.slice Ao73 t1183.length co73 : Value).ownBlock ∧ some k_ ≠ (.slice Ao83 t1163.length co83 : Value).ownBlock) v1196 t1195) := ⟨h1_⟩
              have n2_ : Aside0 (Kd.R (Kd.int .i64) 3 w141 w.heap.size (fun k_ => some k_ ≠ (v1191 : Value).ownBlock ∧ some k_ ≠ (v1196 : Value).ownBlock ∧ some k_ ≠ (.slice Ao53 t1145.length co53 : Value).ownBlock ∧ some k_ ≠ (.slice Ao63 t1181.length co63 : Value).ownBlock ∧ some k_ ≠ (.slice Ao73 t1183.length co73 : Value).ownBlock ∧ some k_ ≠ (.slice Ao83 t1163.length co83 : Value).ownBlock) v1201 t1200) := ⟨h2_⟩
              have n3_ : Aside0 (Kd.R (Kd.int .i64) 3 w141 w.heap.size (fun k_ => some k_ ≠ (v1191 : Value).ownBlock ∧ some k_ ≠ (v1196 : Value).ownBlock ∧ some k_ ≠ (v1201 : Value).ownBlock ∧ some k_ ≠ (.slice Ao63 t1181.length co63 : Value).ownBlock ∧ some k_ ≠ (.slice Ao73 t1183.length co73 : Value).ownBlock ∧ some k_ ≠ (.slice Ao83 t1163.length co83 : Value).ownBlock) (.slice Ao53 t1145.length co53) t1145) := ⟨h3_⟩
              have n4_ : Aside0 (Kd.R (Kd.int .i64) 3 w141 w.heap.size (fun k_ => some k_ ≠ (v1191 : Value).ownBlock ∧ some k_ ≠ (v1196 : Value).ownBlock ∧ some k_ ≠ (v1201 : Value).ownBlock ∧ some k_ ≠ (.slice Ao53 t1145.length co53 : Value).ownBlock ∧ some k_ ≠ (.slice Ao73 t1183.length co73 : Value).ownBlock ∧ some k_ ≠ (.slice Ao83 t1163.length co83 : Value).ownBlock) (.slice Ao63 t1181.length co63) t1181) := ⟨h4_⟩
              have n5_ : Aside0 (Kd.R (Kd.int .i64) 3 w141 w.heap.size (fun k_ => some k_ ≠ (v1191 : Value).ownBlock ∧ some k_ ≠ (v1196 : Value).ownBlock ∧ some k_ ≠ (v1201 : Value).ownBlock ∧ some k_ ≠ (.slice Ao53 t1145.length co53 : Value).ownBlock ∧ some k_ ≠ (.slice Ao63 t1181.length co63 : Value).ownBlock ∧ some k_ ≠ (.slice Ao83 t1163.length co83 : Value).ownBlock) (.slice Ao73 t1183.length co73) t1183) := ⟨h5_⟩
              have n6_ : Aside0 (Kd.R (Kd.int .i64) 3 w141 w.heap.size (fun k_ => some k_ ≠ (v1191 : Value).ownBlock ∧ some k_ ≠ (v1196 : Value).ownBlock ∧ some k_ ≠ (v1201 : Value).ownBlock ∧ some k_ ≠ (.slice Ao53 t1145.length co53 : Value).ownBlock ∧ some k_ ≠ (.slice Ao63 t1181.length co63 : Value).ownBlock ∧ some k_ ≠ (.slice Ao73 t1183.length co73 : Value).ownBlock) (.slice Ao83 t1163.length co83) t1186) := ⟨h6_⟩
              have n7_ : Aside0 (w141.heap[gb1129]? = some (.cells #[.int .i64 a0_0, .int .i64 a0_1, .slice A0_2 l0_2.length c0_2] 55 (0, 0))) := ⟨h7_⟩
              have n8_ : Aside0 (w141.heap[gb1130]? = some (.cells #[.int .i64 a1_0, .int .i64 a1_1, .slice A1_2 l1_2.length c1_2] 48 (0, 0))) := ⟨h8_⟩
              have n9_ : Aside0 (w141.heap[gb1148]? = some (.cells #[.int .i64 t1143, .int .i64 t1144, .slice Ao53 t1145.length co53] 41 (0, 0))) := ⟨h9_⟩
              have n10_ : Aside0 (w141.heap[gb1154]? = some (.cells #[.int .i64 t1149, .int .i64 t1150, .slice Ao63 t1181.length co63] 26 (0, 0))) := ⟨h10_⟩
              have n11_ : Aside0 (w141.heap[gb1160]? = some (.cells #[.int .i64 t1155, .int .i64 t1156, .slice Ao73 t1183.length co73] 41 (0, 0))) := ⟨h11_⟩
              have n12_ : Aside0 (w141.heap[gb1166]? = some (.cells #[.int .i64 t1161, .int .i64 t1162, .slice Ao83 t1163.length co83] 41 (0, 0))) := ⟨h12_⟩
              have n13_ : Aside0 (w141.heap[gb1203]? = some (.cells #[.int .i64 0, .int .i64 0, .slice none 0 0] 41 (0, 0))) := ⟨h13_⟩
              have n14_ : Aside0 (w.heap.size ≤ gb1203) := ⟨h14_⟩
              have n15_ : Aside0 (w.heap.size ≤ gb1203) := ⟨h15_⟩
              have n16_ : Aside0 (gb1129 ≠ gb1203) := ⟨h16_⟩
              have n17_ : Aside0 (gb1203 ≠ gb1129) := ⟨h17_⟩
              have n18_ : Aside0 (gb1130 ≠ gb1203) := ⟨h18_⟩
              have n19_ : Aside0 (gb1203 ≠ gb1130) := ⟨h19_⟩
              have n20_ : Aside0 (gb1148 ≠ gb1203) := ⟨h20_⟩
              have n21_ : Aside0 (gb1203 ≠ gb1148) := ⟨h21_⟩
              have n22_ : Aside0 (gb1154 ≠ gb1203) := ⟨h22_⟩
              have n23_ : Aside0 (gb1203 ≠ gb1154) := ⟨h23_⟩
              have n24_ : Aside0 (gb1160 ≠ gb1203) := ⟨h24_⟩
              have n25_ : Aside0 (gb1203 ≠ gb1160) := ⟨h25_⟩
              have n26_ : Aside0 (gb1166 ≠ gb1203) := ⟨h26_⟩
              have n27_ : Aside0 (gb1203 ≠ gb1166) := ⟨h27_⟩
              have n28_ : Aside0 (Below w.heap.size w w141) := ⟨h28_⟩
              clear HO_1149002 HO_1155002 HO_1161002 HO_1167002 BK1129 BK1130 BK1148 BK1154 BK1160 BK1166 HB h0_ h1_ h2_ h3_ h4_ h5_ h6_ h7_ h8_ h9_ h10_ h11_ h12_ h13_ h14_ h15_ h16_ h17_ h18_ h19_ h20_ h21_ h22_ h23_ h24_ h25_ h26_ h27_ h28_; have HO1192 := n0_; have HO1197 := n1_; have HO1202 := n2_; have HO_1149002 := n3_; have HO_1155002 := n4_; have HO_1161002 := n5_; have HO_1167002 := n6_; have BK1129 := n7_; have BK1130 := n8_; have BK1148 := n9_; have BK1154 := n10_; have BK1160 := n11_; have BK1166 := n12_; have BK1203 := n13_; have GW1203 := n14_; have GE1203 := n15_; have NB1129_1203 := n16_; have NB1203_1129 := n17_; have NB1130_1203 := n18_; have NB1203_1130 := n19_; have NB1148_1203 := n20_; have NB1203_1148 := n21_; have NB1154_1203 := n22_; have NB1203_1154 := n23_; have NB1160_1203 := n24_; have NB1203_1160 := n25_; have NB1166_1203 := n26_; have NB1203_1166 := n27_; have HB := n28_; clear n0_ n1_ n2_ n3_ n4_ n5_ n6_ n7_ n8_ n9_ n10_ n11_ n12_ n13_ n14_ n15_ n16_ n17_ n18_ n19_ n20_ n21_ n22_ n23_ n24_ n25_ n26_ n27_ n28_
              have hHeld : w141.cell? ⟨gb1129, 0, none⟩ = some (.int .i64 a0_0) ∧ w141.cell? ⟨gb1129, 1, none⟩ = some (.int .i64 a0_1) ∧ w141.cell? ⟨gb1129, 2, none⟩ = some (.slice A0_2 l0_2.length c0_2) ∧ w141.cell? ⟨gb1130, 0, none⟩ = some (.int .i64 a1_0) ∧ w141.cell? ⟨gb1130, 1, none⟩ = some (.int .i64 a1_1) ∧ w141.cell? ⟨gb1130, 2, none⟩ = some (.slice A1_2 l1_2.length c1_2) := hS_
              obtain ⟨Ao144, co144, eo144⟩ := Kd.R_slice HO1202.out
              (first | subst eo144 | (injection eo144 with f1_ f2_ f3_; have f4_ := f1_.symm; have f5_ := f3_.symm; clear f1_ f2_ f3_; subst f4_; subst f5_))
              refine norm_ (a' := ?_) ?_ ?_
              rotate_left
              ·simp only [putAll, Act.put, List.setIfInBounds_toArray, List.set_cons_zero, List.set_cons_succ]
               rfl
              refine one_ (i := 6) (N := none) #[true, true, true, true, true, true, true] rfl rfl (by kernel_rfl) (by decide) (fun K hK => ?_)
              have hs142 : w141.cell? ⟨gb1203, 0, none⟩ = some (.int .i64 0) := (blk_cell BK1203.out 0).trans rfl
              have hfs142 := blk_frozen BK1203.out 0
              have hns142_0 := NB1129_1203.out; have hns142_1 := NB1130_1203.out; have hns142_2 := NB1148_1203.out; have hns142_3 := NB1154_1203.out; have hns142_4 := NB1160_1203.out; have hns142_5 := NB1166_1203.out; have hms142_0 := NB1203_1129.out; have hms142_1 := NB1203_1130.out; have hms142_2 := NB1203_1148.out; have hms142_3 := NB1203_1154.out; have hms142_4 := NB1203_1160.out; have hms142_5 := NB1203_1166.out
              have hs143 : w141.cell? ⟨gb1203, 1, none⟩ = some (.int .i64 0) := (blk_cell BK1203.out 1).trans rfl
              have hfs143 := blk_frozen BK1203.out 1
              have hns143_0 := NB1129_1203.out; have hns143_1 := NB1130_1203.out; have hns143_2 := NB1148_1203.out; have hns143_3 := NB1154_1203.out; have hns143_4 := NB1160_1203.out; have hns143_5 := NB1166_1203.out; have hms143_0 := NB1203_1129.out; have hms143_1 := NB1203_1130.out; have hms143_2 := NB1203_1148.out; have hms143_3 := NB1203_1154.out; have hms143_4 := NB1203_1160.out; have hms143_5 := NB1203_1166.out
              have hs145 : w141.cell? ⟨gb1203, 2, none⟩ = some (.slice none 0 0) := (blk_cell BK1203.out 2).trans rfl
              have hfs145 := blk_frozen BK1203.out 2
              have hns145_0 := NB1129_1203.out; have hns145_1 := NB1130_1203.out; have hns145_2 := NB1148_1203.out; have hns145_3 := NB1154_1203.out; have hns145_4 := NB1160_1203.out; have hns145_5 := NB1166_1203.out; have hms145_0 := NB1203_1129.out; have hms145_1 := NB1203_1130.out; have hms145_2 := NB1203_1148.out; have hms145_3 := NB1203_1154.out; have hms145_4 := NB1203_1160.out; have hms145_5 := NB1203_1166.out
              refine skip_ (w1 := ?_) (by rfl) rfl ?_ ?_
              rotate_left
              ·go_simp
               rfl
              refine hK.out _ _ ⟨((cell_far (p := ⟨gb1203, _, none⟩) NB1129_1203.out _).trans (((cell_far (p := ⟨gb1203, _, none⟩) NB1129_1203.out _).trans (((cell_far (p := ⟨gb1203, _, none⟩) NB1129_1203.out _).trans (hHeld.1)))))), ((cell_far (p := ⟨gb1203, _, none⟩) NB1129_1203.out _).trans (((cell_far (p := ⟨gb1203, _, none⟩) NB1129_1203.out _).trans (((cell_far (p := ⟨gb1203, _, none⟩) NB1129_1203.out _).trans (hHeld.2.1)))))), ((cell_far (p := ⟨gb1203, _, none⟩) NB1129_1203.out _).trans (((cell_far (p := ⟨gb1203, _, none⟩) NB1129_1203.out _).trans (((cell_far (p := ⟨gb1203, _, none⟩) NB1129_1203.out _).trans (hHeld.2.2.1)))))), ((cell_far (p := ⟨gb1203, _, none⟩) NB1130_1203.out _).trans (((cell_far (p := ⟨gb1203, _, none⟩) NB1130_1203.out _).trans (((cell_far (p := ⟨gb1203, _, none⟩) NB1130_1203.out _).trans (hHeld.2.2.2.1)))))), ((cell_far (p := ⟨gb1203, _, none⟩) NB1130_1203.out _).trans (((cell_far (p := ⟨gb1203, _, none⟩) NB1130_1203.out _).trans (((cell_far (p := ⟨gb1203, _, none⟩) NB1130_1203.out _).trans (hHeld.2.2.2.2.1)))))), ((cell_far (p := ⟨gb1203, _, none⟩) NB1130_1203.out _).trans (((cell_far (p := ⟨gb1203, _, none⟩) NB1130_1203.out _).trans (((cell_far (p := ⟨gb1203, _, none⟩) NB1130_1203.out _).trans (hHeld.2.2.2.2.2))))))⟩ (fun hHeld => ?_)
              clear hK K
              refine done_ (by kernel_rfl) ?_
              have hnb146 := NB1203_1129.out; have hnc146 := NB1129_1203.out; have hnb147 := NB1203_1130.out; have hnc147 := NB1130_1203.out; have hnb148 := NB1203_1148.out; have hnc148 := NB1148_1203.out; have hnb149 := NB1203_1154.out; have hnc149 := NB1154_1203.out; have hnb150 := NB1203_1160.out; have hnc150 := NB1160_1203.out; have hnb151 := NB1203_1166.out; have hnc151 := NB1166_1203.out
              have hcz152_0 : w141.cell? ⟨gb1203, 0, none⟩ = some (.int .i64 0) := (blk_cell BK1203.out 0).trans rfl
              have hcz152_1 : w141.cell? ⟨gb1203, 1, none⟩ = some (.int .i64 0) := (blk_cell BK1203.out 1).trans rfl
              have hcz152_2 : w141.cell? ⟨gb1203, 2, none⟩ = some (.slice none 0 0) := (blk_cell BK1203.out 2).trans rfl
              have hfz152_0 := blk_frozen BK1203.out 0
              have hfz152_1 := blk_frozen BK1203.out 1
              have hfz152_2 := blk_frozen BK1203.out 2
              have hnb153 := NB1148_1129.out; have hnc153 := NB1129_1148.out; have hnb154 := NB1148_1130.out; have hnc154 := NB1130_1148.out; have hnb155 := NB1148_1154.out; have hnc155 := NB1154_1148.out; have hnb156 := NB1148_1160.out; have hnc156 := NB1160_1148.out
              have hcz157_0 : w141.cell? ⟨gb1148, 0, none⟩ = some (.int .i64 t1143) := (blk_cell BK1148.out 0).trans rfl
              have hcz157_1 : w141.cell? ⟨gb1148, 1, none⟩ = some (.int .i64 t1144) := (blk_cell BK1148.out 1).trans rfl
              have hcz157_2 : w141.cell? ⟨gb1148, 2, none⟩ = some (.slice Ao53 t1145.length co53) := (blk_cell BK1148.out 2).trans rfl
              have hfz157_0 := blk_frozen BK1148.out 0
              have hfz157_1 := blk_frozen BK1148.out 1
              have hfz157_2 := blk_frozen BK1148.out 2
              try go_wp2_with (first | ((with_reducible refine gate_callee (f := 49) rfl ?_); refine goesL_ (some 82) rfl rfl Try.func49 (by kernel_rfl) rfl #[.agg #[.int .i64 t1198, .int .i64 t1199, .slice Ao144 t1200.length co144], .agg #[.int .i64 t1143, .int .i64 t1144, .slice Ao53 t1145.length co53]] rfl sL_ ?_; (with_reducible refine (laws_eqPicture.calls kj34 t1198 t1199 _ _ t1200 t1143 t1144 _ _ t1145 true _ ?side1 ?side2 ?side3 ?side4 A120.out).mono ?_); (case side1 => refine (Kd.R_reads' (e := 3) (base := w.heap.size) (ok := fun k_ => (some k_ ≠ (v1191 : Value).ownBlock ∧ (some k_ ≠ (v1196 : Value).ownBlock ∧ (some k_ ≠ (.slice Ao53 t1145.length co53 : Value).ownBlock ∧ (some k_ ≠ (.slice Ao63 t1181.length co63 : Value).ownBlock ∧ (some k_ ≠ (.slice Ao73 t1183.length co73 : Value).ownBlock ∧ some k_ ≠ (.slice Ao83 t1163.length co83 : Value).ownBlock)))))) (n := t1200.length) (c := co144) ?_).2.2; exact (by (with_reducible repeat (first | apply Kd.R_alloc | apply Kd.R_drewN | apply Kd.R_drew)); exact (Kd.R_mono (Kd.R_far (p := ⟨gb1203, 2, none⟩) (Kd.R_far (p := ⟨gb1203, 1, none⟩) (Kd.R_far (p := ⟨gb1203, 0, none⟩) (Kd.R_types HO1202.out BK1203.out (by decide)) (fun _ hk => hk.2) (.int .i64 t1198)) (fun _ hk => hk.2) (.int .i64 t1199)) (fun _ hk => hk.2) (.slice Ao144 t1200.length co144)) (fun _ h_ => h_.1)))); (case side2 => exact (Kd.R_reads' HO1202.out).2.1); (case side3 => refine (Kd.R_reads' (e := 3) (base := w.heap.size) (ok := fun k_ => (some k_ ≠ (v1191 : Value).ownBlock ∧ (some k_ ≠ (v1196 : Value).ownBlock ∧ (some k_ ≠ (.slice Ao144 t1200.length co144 : Value).ownBlock ∧ (some k_ ≠ (.slice Ao63 t1181.length co63 : Value).ownBlock ∧ (some k_ ≠ (.slice Ao73 t1183.length co73 : Value).ownBlock ∧ some k_ ≠ (.slice Ao83 t1163.length co83 : Value).ownBlock)))))) (n := t1145.length) (c := co53) ?_).2.2; exact (by (with_reducible repeat (first | apply Kd.R_alloc | apply Kd.R_drewN | apply Kd.R_drew)); exact (Kd.R_mono (Kd.R_far (p := ⟨gb1203, 2, none⟩) (Kd.R_far (p := ⟨gb1203, 1, none⟩) (Kd.R_far (p := ⟨gb1203, 0, none⟩) (Kd.R_types HO_1149002.out BK1203.out (by decide)) (fun _ hk => hk.2) (.int .i64 t1198)) (fun _ hk => hk.2) (.int .i64 t1199)) (fun _ hk => hk.2) (.slice Ao144 t1200.length co144)) (fun _ h_ => h_.1)))); (case side4 => exact (Kd.R_reads' HO_1149002.out).2.1); rintro e w158 ⟨rfl, hb⟩; refine ⟨_, rfl, ?_⟩; have n0_ := Aside0.mk (Kd.R_below (by (with_reducible repeat (first | apply Kd.R_alloc | apply Kd.R_drewN | apply Kd.R_drew)); exact (Kd.R_mono (Kd.R_far (p := ⟨gb1203, 2, none⟩) (Kd.R_far (p := ⟨gb1203, 1, none⟩) (Kd.R_far (p := ⟨gb1203, 0, none⟩) (Kd.R_types HO_1149002.out BK1203.out (by decide)) (fun _ hk => hk.2) (.int .i64 t1198)) (fun _ hk => hk.2) (.int .i64 t1199)) (fun _ hk => hk.2) (.slice Ao144 t1200.length co144)) (fun _ h_ => h_.1))) hb); have n1_ := Aside0.mk (Kd.R_below (by (with_reducible repeat (first | apply Kd.R_alloc | apply Kd.R_drewN | apply Kd.R_drew)); exact (Kd.R_mono (Kd.R_far (p := ⟨gb1203, 2, none⟩) (Kd.R_far (p := ⟨gb1203, 1, none⟩) (Kd.R_far (p := ⟨gb1203, 0, none⟩) (Kd.R_types HO_1155002.out BK1203.out (by decide)) (fun _ hk => hk.2) (.int .i64 t1198)) (fun _ hk => hk.2) (.int .i64 t1199)) (fun _ hk => hk.2) (.slice Ao144 t1200.length co144)) (fun _ h_ => h_.1))) hb); have n2_ := Aside0.mk (Kd.R_below (by (with_reducible repeat (first | apply Kd.R_alloc | apply Kd.R_drewN | apply Kd.R_drew)); exact (Kd.R_mono (Kd.R_far (p := ⟨gb1203, 2, none⟩) (Kd.R_far (p := ⟨gb1203, 1, none⟩) (Kd.R_far (p := ⟨gb1203, 0, none⟩) (Kd.R_types HO_1161002.out BK1203.out (by decide)) (fun _ hk => hk.2) (.int .i64 t1198)) (fun _ hk => hk.2) (.int .i64 t1199)) (fun _ hk => hk.2) (.slice Ao144 t1200.length co144)) (fun _ h_ => h_.1))) hb); have n3_ := Aside0.mk (Kd.R_below (by (with_reducible repeat (first | apply Kd.R_alloc | apply Kd.R_drewN | apply Kd.R_drew)); exact (Kd.R_mono (Kd.R_far (p := ⟨gb1203, 2, none⟩) (Kd.R_far (p := ⟨gb1203, 1, none⟩) (Kd.R_far (p := ⟨gb1203, 0, none⟩) (Kd.R_types HO_1167002.out BK1203.out (by decide)) (fun _ hk => hk.2) (.int .i64 t1198)) (fun _ hk => hk.2) (.int .i64 t1199)) (fun _ hk => hk.2) (.slice Ao144 t1200.length co144)) (fun _ h_ => h_.1))) hb); have n4_ := Aside0.mk (Kd.R_below (by (with_reducible repeat (first | apply Kd.R_alloc | apply Kd.R_drewN | apply Kd.R_drew)); exact (Kd.R_mono (Kd.R_far (p := ⟨gb1203, 2, none⟩) (Kd.R_far (p := ⟨gb1203, 1, none⟩) (Kd.R_far (p := ⟨gb1203, 0, none⟩) (Kd.R_types HO1192.out BK1203.out (by decide)) (fun _ hk => hk.2) (.int .i64 t1198)) (fun _ hk => hk.2) (.int .i64 t1199)) (fun _ hk => hk.2) (.slice Ao144 t1200.length co144)) (fun _ h_ => h_.1))) hb); have n5_ := Aside0.mk (Kd.R_below (by (with_reducible repeat (first | apply Kd.R_alloc | apply Kd.R_drewN | apply Kd.R_drew)); exact (Kd.R_mono (Kd.R_far (p := ⟨gb1203, 2, none⟩) (Kd.R_far (p := ⟨gb1203, 1, none⟩) (Kd.R_far (p := ⟨gb1203, 0, none⟩) (Kd.R_types HO1197.out BK1203.out (by decide)) (fun _ hk => hk.2) (.int .i64 t1198)) (fun _ hk => hk.2) (.int .i64 t1199)) (fun _ hk => hk.2) (.slice Ao144 t1200.length co144)) (fun _ h_ => h_.1))) hb); have n6_ := Aside0.mk (Kd.R_below (by (with_reducible repeat (first | apply Kd.R_alloc | apply Kd.R_drewN | apply Kd.R_drew)); exact (Kd.R_mono (Kd.R_far (p := ⟨gb1203, 2, none⟩) (Kd.R_far (p := ⟨gb1203, 1, none⟩) (Kd.R_far (p := ⟨gb1203, 0, none⟩) (Kd.R_types HO1202.out BK1203.out (by decide)) (fun _ hk => hk.2) (.int .i64 t1198)) (fun _ hk => hk.2) (.int .i64 t1199)) (fun _ hk => hk.2) (.slice Ao144 t1200.length co144)) (fun _ h_ => h_.1))) hb); have n7_ := Aside0.mk (blk_below (g := gb1129) (o := .cells #[.int .i64 a0_0, .int .i64 a0_1, .slice A0_2 l0_2.length c0_2] 55 (0, 0)) (by refine sB_ ?_; refine blk_far ?_ NB1129_1203.out _; refine sB_ ?_; refine blk_far ?_ NB1129_1203.out _; refine sB_ ?_; refine blk_far ?_ NB1129_1203.out _; refine sB_ ?_; exact BK1129.out) hb); have n8_ := Aside0.mk (blk_below (g := gb1130) (o := .cells #[.int .i64 a1_0, .int .i64 a1_1, .slice A1_2 l1_2.length c1_2] 48 (0, 0)) (by refine sB_ ?_; refine blk_far ?_ NB1130_1203.out _; refine sB_ ?_; refine blk_far ?_ NB1130_1203.out _; refine sB_ ?_; refine blk_far ?_ NB1130_1203.out _; refine sB_ ?_; exact BK1130.out) hb); have n9_ := Aside0.mk (blk_below (g := gb1148) (o := .cells #[.int .i64 t1143, .int .i64 t1144, .slice Ao53 t1145.length co53] 41 (0, 0)) (by refine sB_ ?_; refine blk_far ?_ NB1148_1203.out _; refine sB_ ?_; refine blk_far ?_ NB1148_1203.out _; refine sB_ ?_; refine blk_far ?_ NB1148_1203.out _; refine sB_ ?_; exact BK1148.out) hb); have n10_ := Aside0.mk (blk_below (g := gb1154) (o := .cells #[.int .i64 t1149, .int .i64 t1150, .slice Ao63 t1181.length co63] 26 (0, 0)) (by refine sB_ ?_; refine blk_far ?_ NB1154_1203.out _; refine sB_ ?_; refine blk_far ?_ NB1154_1203.out _; refine sB_ ?_; refine blk_far ?_ NB1154_1203.out _; refine sB_ ?_; exact BK1154.out) hb); have n11_ := Aside0.mk (blk_below (g := gb1160) (o := .cells #[.int .i64 t1155, .int .i64 t1156, .slice Ao73 t1183.length co73] 41 (0, 0)) (by refine sB_ ?_; refine blk_far ?_ NB1160_1203.out _; refine sB_ ?_; refine blk_far ?_ NB1160_1203.out _; refine sB_ ?_; refine blk_far ?_ NB1160_1203.out _; refine sB_ ?_; exact BK1160.out) hb); have n12_ := Aside0.mk (blk_below (g := gb1166) (o := .cells #[.int .i64 t1161, .int .i64 t1162, .slice Ao83 t1163.length co83] 41 (0, 0)) (by refine sB_ ?_; refine blk_far ?_ NB1166_1203.out _; refine sB_ ?_; refine blk_far ?_ NB1166_1203.out _; refine sB_ ?_; refine blk_far ?_ NB1166_1203.out _; refine sB_ ?_; exact BK1166.out) hb); have n13_ := Aside0.mk (blk_below (g := gb1203) (o := .cells #[.int .i64 t1198, .int .i64 t1199, .slice Ao144 t1200.length co144] 41 (0, 0)) (by refine sB_ ?_; refine blk_put (cs := #[.int .i64 t1198, .int .i64 t1199, .slice none 0 0]) ?_ 2 _ rfl; refine sB_ ?_; refine blk_put (cs := #[.int .i64 t1198, .int .i64 0, .slice none 0 0]) ?_ 1 _ rfl; refine sB_ ?_; refine blk_put (cs := #[.int .i64 0, .int .i64 0, .slice none 0 0]) ?_ 0 _ rfl; refine sB_ ?_; exact BK1203.out) hb); have n14_ := Aside0.mk (below_step (sW_ HB.out) hb); clear HO_1149002; clear HO_1155002; clear HO_1161002; clear HO_1167002; clear HO1192; clear HO1197; clear HO1202; clear BK1129; clear BK1130; clear BK1148; clear BK1154; clear BK1160; clear BK1166; clear BK1203; clear HB; have HO_1149002 := n0_; have HO_1155002 := n1_; have HO_1161002 := n2_; have HO_1167002 := n3_; have HO1192 := n4_; have HO1197 := n5_; have HO1202 := n6_; have BK1129 := n7_; have BK1130 := n8_; have BK1148 := n9_; have BK1154 := n10_; have BK1160 := n11_; have BK1166 := n12_; have BK1203 := n13_; have HB := n14_; clear n0_ n1_ n2_ n3_ n4_ n5_ n6_ n7_ n8_ n9_ n10_ n11_ n12_ n13_ n14_; (try clear hb); (try clear hb2); (try clear hk); (try clear hi); have hcz159_0 : w158.cell? ⟨gb1166, 0, none⟩ = some (.int .i64 t1161) := (blk_cell BK1166.out 0).trans rfl; have hcz159_1 : w158.cell? ⟨gb1166, 1, none⟩ = some (.int .i64 t1162) := (blk_cell BK1166.out 1).trans rfl; have hcz159_2 : w158.cell? ⟨gb1166, 2, none⟩ = some (.slice Ao83 t1163.length co83) := (blk_cell BK1166.out 2).trans rfl; have hfz159_0 := blk_frozen BK1166.out 0; have hfz159_1 := blk_frozen BK1166.out 1; have hfz159_2 := blk_frozen BK1166.out 2) | ((with_reducible refine gate_callee (f := 51) rfl ?_); refine goesL_ (some 86) rfl rfl Try.func51 (by kernel_rfl) rfl #[.agg #[.int .i64 t1161, .int .i64 t1162, .slice Ao83 t1186.length co83], .int .i64 1] rfl (by (try simp only [List.map_toArray, List.map_cons, List.map_nil]); first | done | (rw [show t1186.length = t1163.length from (Kd.R_reads' HO_1167002.out).1.symm] <;> rfl) | rfl | (simp only [List.length_drop, List.length_take]; rfl)) ?_; (with_reducible refine (laws_heldPicture.calls kj34 t1161 t1162 _ _ t1186 1 t1205 _ ?side1 ?side2 A122.out).mono ?_); (case side1 => repeat (first | exact (Kd.R_reads' HO_1167002.out).2.2 | (with_reducible refine Kd.C_alloc ?_ _) | (with_reducible refine Kd.C_drewN ?_ _) | (with_reducible refine Kd.C_drew ?_))); (case side2 => rw [show t1186.length = t1163.length from (Kd.R_reads' HO_1167002.out).1.symm]; exact (Kd.R_reads' HO_1167002.out).2.1); rintro e w160 ⟨rfl, hb⟩; refine ⟨_, rfl, ?_⟩; have n0_ := Aside0.mk (Kd.R_below (sR_ HO_1149002.out) hb); have n1_ := Aside0.mk (Kd.R_below (sR_ HO_1155002.out) hb); have n2_ := Aside0.mk (Kd.R_below (sR_ HO_1161002.out) hb); have n3_ := Aside0.mk (Kd.R_below (sR_ HO_1167002.out) hb); have n4_ := Aside0.mk (Kd.R_below (sR_ HO1192.out) hb); have n5_ := Aside0.mk (Kd.R_below (sR_ HO1197.out) hb); have n6_ := Aside0.mk (Kd.R_below (sR_ HO1202.out) hb); have n7_ := Aside0.mk (blk_below (sB_ BK1129.out) hb); have n8_ := Aside0.mk (blk_below (sB_ BK1130.out) hb); have n9_ := Aside0.mk (blk_below (sB_ BK1148.out) hb); have n10_ := Aside0.mk (blk_below (sB_ BK1154.out) hb); have n11_ := Aside0.mk (blk_below (sB_ BK1160.out) hb); have n12_ := Aside0.mk (blk_below (sB_ BK1166.out) hb); have n13_ := Aside0.mk (blk_below (sB_ BK1203.out) hb); have n14_ := Aside0.mk (below_step (sW_ HB.out) hb); clear HO_1149002; clear HO_1155002; clear HO_1161002; clear HO_1167002; clear HO1192; clear HO1197; clear HO1202; clear BK1129; clear BK1130; clear BK1148; clear BK1154; clear BK1160; clear BK1166; clear BK1203; clear HB; have HO_1149002 := n0_; have HO_1155002 := n1_; have HO_1161002 := n2_; have HO_1167002 := n3_; have HO1192 := n4_; have HO1197 := n5_; have HO1202 := n6_; have BK1129 := n7_; have BK1130 := n8_; have BK1148 := n9_; have BK1154 := n10_; have BK1160 := n11_; have BK1166 := n12_; have BK1203 := n13_; have HB := n14_; clear n0_ n1_ n2_ n3_ n4_ n5_ n6_ n7_ n8_ n9_ n10_ n11_ n12_ n13_ n14_; (try clear hb); (try clear hb2); (try clear hk); (try clear hi)))
              go_ret
              exact ⟨by first | rfl | (simp [errW_none, errW_some] <;> rfl) | (simp [*, errW_none, errW_some] <;> rfl), by repeat (first | (with_reducible first | exact HB.out | apply below_alloc | apply pw_below_drewN | apply below_drew1 | refine below_set ?_ GE1129.out | refine below_set ?_ GE1130.out | refine below_set ?_ GE1148.out | refine below_set ?_ GE1154.out | refine below_set ?_ GE1160.out | refine below_set ?_ GE1166.out | refine below_set ?_ GE1203.out) | exact HB.out)⟩
             ·rw [if_neg c124] at H
              have c124b0 : (t1205 == t1185) = false := beq_eq_false_iff_ne.mpr c124
              have c124b1 : (t1205 != t1185) = true := bne_iff_ne.mpr c124
              exact absurd ((Option.some.inj H).trans hT.out) (by decide)
           ·replace c121 := Bool.eq_false_iff.mpr c121
            subst c121
            have H1 : (some false) = some r := by rw [if_neg (show ¬ (false = true) by decide)] at H; exact H
            clear H; have H := H1; clear H1
            exact absurd ((Option.some.inj H).trans hT.out) (by decide)
          ·rw [if_neg c116] at H
           have c116b0 : (t1187 == t1185) = false := beq_eq_false_iff_ne.mpr c116
           have c116b1 : (t1187 != t1185) = true := bne_iff_ne.mpr c116
           exact absurd ((Option.some.inj H).trans hT.out) (by decide)
     ·replace c32 := Bool.eq_false_iff.mpr c32
      subst c32
      have H1 : (some false) = some r := by rw [if_neg (show ¬ (false = true) by decide)] at H; exact H
      clear H; have H := H1; clear H1
      exact absurd ((Option.some.inj H).trans hT.out) (by decide)
    ·replace c29 := Bool.eq_false_iff.mpr c29
     subst c29
     have H1 : (some false) = some r := by rw [if_neg (show ¬ (false = true) by decide)] at H; exact H
     clear H; have H := H1; clear H1
     exact absurd ((Option.some.inj H).trans hT.out) (by decide)
   ·replace c26 := Bool.eq_false_iff.mpr c26
    subst c26
    have H1 : (some false) = some r := by rw [if_neg (show ¬ (false = true) by decide)] at H; exact H
    clear H; have H := H1; clear H1
    exact absurd ((Option.some.inj H).trans hT.out) (by decide)

end Go.Proofs.Ytdlehfnlibddcaa.P
