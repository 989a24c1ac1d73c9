-- Written by tools/seatprint.py (over the kit's print, changed in memory). Not trusted: Lean checks it.
import Derived.Test.YtdlehfnlibddcaaP0
import Derived.Test.YtdlehfnlibddcaaFspecl1In
namespace Go.Proofs.Ytdlehfnlibddcaa.P
open Go.RowKit Go.Proofs.YtdlehfnlibddcaaW.PrintWords Go.Proofs.YtdlehfnlibddcaaW.PrintLast Go.Proofs.YtdlehfnlibddcaaW.PrintMore
attribute [local go_sem] max2_int min2_int max_two min_two max_three min_three max_four min_four   -- for this text's walks alone
set_option linter.unusedVariables false
set_option linter.unusedSimpArgs false

/-! ### spec_SpiralMatrix: function 33 -/
mutual
def spec_SpiralMatrix.l0 : Nat → Int → Int → Int → Int → List Int → Option (Int × Int × List Int × Bool)
  | 0, _, _, _, _, _ => none
  | k + 1, x0, x5, x193000, x193001, x193002 => if x5 < (wrap64 (x0 * x0)) then (if x193002.length < 17592186044416 then (spec_SpiralMatrix.l0 k x0 (wrap64 (x5 + 1)) x193000 x193001 (x193002 ++ [(-1)])) else (none)) else (spec_SpiralMatrix.l1 k x0 0 0 1 0 (x193002.length : Int) 0 x193000 x193001 x193002)
def spec_SpiralMatrix.l1 : Nat → Int → Int → Int → Int → Int → Int → Int → Int → Int → List Int → Option (Int × Int × List Int × Bool)
  | 0, _, _, _, _, _, _, _, _, _, _ => none
  | k + 1, x0, x6, x7, x8, x9, x35, x36, x193000, x193001, x193002 => if x36 < x35 then (if 0 ≤ (wrap64 ((wrap64 (x7 * x0)) + x6)) then (if (wrap64 ((wrap64 (x7 * x0)) + x6)) < (x193002.length : Int) then ((some (x193002.set ((wrap64 ((wrap64 (x7 * x0)) + x6)) : Int).toNat x36 : List Int)).bind fun y196 => ((spec_l1In.f (wrap64 (x6 + x8)) 0 (wrap64 (x0 - 1))).bind fun t197 => (if t197 = true then ((spec_l1In.f (wrap64 (x7 + x9)) 0 (wrap64 (x0 - 1))).bind fun t198 => (if t198 = true then (if 0 ≤ (wrap64 ((wrap64 ((wrap64 (x7 + x9)) * x0)) + (wrap64 (x6 + x8)))) then (if (wrap64 ((wrap64 ((wrap64 (x7 + x9)) * x0)) + (wrap64 (x6 + x8)))) < (x193002.length : Int) then (if (rd y196 (wrap64 ((wrap64 ((wrap64 (x7 + x9)) * x0)) + (wrap64 (x6 + x8))))) ≥ 0 then (spec_SpiralMatrix.l1 k x0 (wrap64 (x6 + (wrap64 (-x9)))) (wrap64 (x7 + x8)) (wrap64 (-x9)) x8 x35 (wrap64 (x36 + 1)) x193000 x193001 y196) else (spec_SpiralMatrix.l1 k x0 (wrap64 (x6 + x8)) (wrap64 (x7 + x9)) x8 x9 x35 (wrap64 (x36 + 1)) x193000 x193001 y196)) else (none)) else (none)) else (spec_SpiralMatrix.l1 k x0 (wrap64 (x6 + (wrap64 (-x9)))) (wrap64 (x7 + x8)) (wrap64 (-x9)) x8 x35 (wrap64 (x36 + 1)) x193000 x193001 y196))) else (spec_SpiralMatrix.l1 k x0 (wrap64 (x6 + (wrap64 (-x9)))) (wrap64 (x7 + x8)) (wrap64 (-x9)) x8 x35 (wrap64 (x36 + 1)) x193000 x193001 y196)))) else (none)) else (none)) else (some (x193000, x193001, x193002, true))
end
def spec_SpiralMatrix.f (k : Nat) (a0 : Int) : Option (Int × Int × List Int × Bool) := (spec_l1In.f a0 1 16).bind fun t191 => (if t191 = true then (spec_SpiralMatrix.l0 k a0 0 a0 a0 ([] : List Int)) else (some (0, 0, ([] : List Int), false)))
theorem spec_SpiralMatrix.mono_l : ∀ k, (∀ y0 y1 y2 y3 y4, LeO (spec_SpiralMatrix.l0 k y0 y1 y2 y3 y4) (spec_SpiralMatrix.l0 (k + 1) y0 y1 y2 y3 y4)) ∧ (∀ y0 y1 y2 y3 y4 y5 y6 y7 y8 y9, LeO (spec_SpiralMatrix.l1 k y0 y1 y2 y3 y4 y5 y6 y7 y8 y9) (spec_SpiralMatrix.l1 (k + 1) y0 y1 y2 y3 y4 y5 y6 y7 y8 y9))
  | 0 => ⟨fun _ _ _ _ _ r h => by simp [spec_SpiralMatrix.l0] at h, fun _ _ _ _ _ _ _ _ _ _ r h => by simp [spec_SpiralMatrix.l1] at h⟩
  | k + 1 => by
    obtain ⟨ih0, ih1⟩ := spec_SpiralMatrix.mono_l k
    refine ⟨?_, ?_⟩
    · intro y0 y1 y2 y3 y4
      unfold spec_SpiralMatrix.l0
      repeat' first
      | (with_reducible exact ih0 _ _ _ _ _)
      | (with_reducible exact ih1 _ _ _ _ _ _ _ _ _ _)
      | (with_reducible exact LeO.refl _)
      | (with_reducible exact LeO.none _)
      | (with_reducible refine LeO.ite ?_ ?_)
      | (with_reducible refine LeO.bind ?_ (fun _ => ?_))
      | exact ih0 _ _ _ _ _
      | exact ih1 _ _ _ _ _ _ _ _ _ _
      | exact LeO.none _
      | refine LeO.ite ?_ ?_
      | refine LeO.bind ?_ (fun _ => ?_)
    · intro y0 y1 y2 y3 y4 y5 y6 y7 y8 y9
      unfold spec_SpiralMatrix.l1
      repeat' first
      | (with_reducible exact ih0 _ _ _ _ _)
      | (with_reducible exact ih1 _ _ _ _ _ _ _ _ _ _)
      | (with_reducible exact LeO.refl _)
      | (with_reducible exact LeO.none _)
      | (with_reducible refine LeO.ite ?_ ?_)
      | (with_reducible refine LeO.bind ?_ (fun _ => ?_))
      | exact ih0 _ _ _ _ _
      | exact ih1 _ _ _ _ _ _ _ _ _ _
      | exact LeO.none _
      | refine LeO.ite ?_ ?_
      | refine LeO.bind ?_ (fun _ => ?_)
theorem spec_SpiralMatrix.mono : ∀ a0 k, LeO (spec_SpiralMatrix.f k a0) (spec_SpiralMatrix.f (k + 1) a0) := by
  intro a0 k
  obtain ⟨ih0, ih1⟩ := spec_SpiralMatrix.mono_l k
  unfold spec_SpiralMatrix.f
  repeat' first
      | (with_reducible exact ih0 _ _ _ _ _)
      | (with_reducible exact ih1 _ _ _ _ _ _ _ _ _ _)
      | (with_reducible exact LeO.refl _)
      | (with_reducible exact LeO.none _)
      | (with_reducible refine LeO.ite ?_ ?_)
      | (with_reducible refine LeO.bind ?_ (fun _ => ?_))
      | exact ih0 _ _ _ _ _
      | exact ih1 _ _ _ _ _ _ _ _ _ _
      | exact LeO.none _
      | refine LeO.ite ?_ ?_
      | refine LeO.bind ?_ (fun _ => ?_)
set_option maxHeartbeats 8000000 in
set_option maxRecDepth 100000 in
theorem spec_SpiralMatrix.calls (k : Nat) (a0 : Int) (r1 : Int) (r2 : Int) (r3 : List Int) (r4 : Bool) (w : World) (h : spec_SpiralMatrix.f k a0 = some (r1, r2, r3, r4)) :
  Calls Try.prog 33 #[.int .i64 a0] w fun e w' => ∃ v2_ : Value, e = .returned (.tuple #[.agg #[.int .i64 r1, .int .i64 r2, v2_], .bool r4]) ∧ Kd.R (Kd.int .i64) 3 w' w.heap.size (fun _ => True) v2_ r3 ∧ Below w.heap.size w w' := by
 have hu26 := Try.underlying26
 have HB := Aside0.mk (Below.refl w.heap.size w)
 have H : ((spec_l1In.f a0 1 16).bind fun t191 => (if t191 = true then (spec_SpiralMatrix.l0 k a0 0 a0 a0 ([] : List Int)) else (some (0, 0, ([] : List Int), false)))) = some (r1, r2, r3, r4) := h
 clear h
 replace H := Option.bind_eq_some_iff.mp H
 obtain ⟨t191, A20, H⟩ := H
 replace H : (if t191 = true then (spec_SpiralMatrix.l0 k a0 0 a0 a0 ([] : List Int)) else (some (0, 0, ([] : List Int), false))) = some (r1, r2, r3, r4) := H
 have A2 := Aside0.mk A20
 clear A20
 by_cases c3 : t191 = true
 ·subst c3
  have H1 : (spec_SpiralMatrix.l0 k a0 0 a0 a0 ([] : List Int)) = some (r1, r2, r3, r4) := by rw [if_pos rfl] at H; exact H
  clear H; have H := H1; clear H1
  have H' := Aside0.mk H
  clear H
  go_enter Try.func33, Try.ntmps33
  go_wp2_with (first | ((with_reducible refine gate_dst (N := 2) rfl ?_); refine box_event ?hg (N := 2) ?hd (cs := #[.int .i64 0, .int .i64 0, .slice none 0 0]) (t := 26) ?hr ?_; (case hd => rfl); (case hg => rfl); (case hr => first | (go_simp; done) | (go_simp; rfl)); intro gb190 hg w4 hbox hb; have n0_ := Aside0.mk (below_step (sW_ HB.out) hb); have n1_ := Aside0.mk (hbox); have n2_ := Aside0.mk ((by rw [hg]; exact (below_size (sW_ HB.out)) : w.heap.size ≤ gb190)); have n3_ := n2_; clear HB; have HB := n0_; have BK190 := n1_; have GW190 := n2_; have GE190 := n3_; clear n0_ n1_ n2_ n3_; clear hb hbox hg) | ((with_reducible refine gate_callee (f := 86) rfl ?_); refine goesL_ (some 15) rfl rfl Try.func86 (by kernel_rfl) rfl #[.int .i64 a0, .int .i64 1, .int .i64 16] rfl sL_ ?_; (with_reducible refine (spec_l1In.calls a0 1 16 true _ A2.out).mono ?_); rintro e w' ⟨rfl, ⟨nd, rfl⟩⟩; refine ⟨_, rfl, ?_⟩; (try (rw [drewN_self w4]; generalize hq_ : World.drewN w4 _ = w4; have n0_ : Aside0 (w4.heap[gb190]? = some (.cells #[.int .i64 0, .int .i64 0, .slice none 0 0] 26 (0, 0))) := ⟨by rw [← hq_]; exact (sB_ BK190.out)⟩; have n1_ : Aside0 (Below w.heap.size w w4) := ⟨by rw [← hq_]; exact (sW_ HB.out)⟩; clear BK190 HB hq_; have BK190 := n0_; have HB := n1_; clear n0_ n1_))) | ((with_reducible refine gate_dst (N := 4) rfl ?_); refine box_event ?hg (N := 4) ?hd (cs := #[.int .i64 0, .int .i64 0, .slice none 0 0]) (t := 26) ?hr ?_; (case hd => rfl); (case hg => rfl); (case hr => first | (go_simp; done) | (go_simp; rfl)); intro gb192 hg w5 hbox hb; have n0_ := Aside0.mk (blk_below (sB_ BK190.out) hb); have n1_ := Aside0.mk (below_step (sW_ HB.out) hb); have n2_ := Aside0.mk (hbox); have n3_ := Aside0.mk ((by rw [hg]; exact (below_size (sW_ HB.out)) : w.heap.size ≤ gb192)); have n4_ := n3_; have n5_ := Aside0.mk (sN_ hg (blk_lt (sB_ BK190.out))); have n6_ := Aside0.mk n5_.out.symm; clear BK190 HB; have BK190 := n0_; have HB := n1_; have BK192 := n2_; have GW192 := n3_; have GE192 := n4_; have NB190_192 := n5_; have NB192_190 := n6_; clear n0_ n1_ n2_ n3_ n4_ n5_ n6_; clear hb hbox hg; have hnb6 := NB192_190.out; have hnc6 := NB190_192.out; obtain ⟨hcz7_0, hcz7_1, hcz7_2, hfz7_0, hfz7_1, hfz7_2⟩ := sZ_ BK192.out))
  go_loopg [5] k (fun kq v5 w' => ∃ (x5_1 : Int) (x193002_1 : List Int) (u193002 : Value), v5 = .int .i64 x5_1 ∧ Aside0 (spec_SpiralMatrix.l0 kq a0 x5_1 a0 a0 x193002_1 = some (r1, r2, r3, r4)) ∧ Aside0 (kq ≤ k) ∧ Aside0 (Kd.R (Kd.int .i64) 3 w' w.heap.size (fun _ => True) u193002 x193002_1) ∧ Aside0 (w'.heap[gb190]? = some (.cells #[.int .i64 0, .int .i64 0, (.slice none 0 0)] 26 (0, 0))) ∧ Aside0 (w'.heap[gb192]? = some (.cells #[.int .i64 a0, .int .i64 a0, u193002] 26 (0, 0))) ∧ Aside0 (Below w.heap.size w w'))
  case atStart => exact ⟨(0), (([] : List Int)), (.slice none 0 0), (by first | rfl | (simp; done) | (simp [*]; done)), H', ⟨Nat.le_refl _⟩, ⟨by first | exact Kd.R_nil _ _ _ _ _ | exact Kd.N_nil _ _ _ _ _ | exact Kd.V_nil _ _ _ _ _ | exact Kd.Q_nil _ _ _ _ _ | exact Kd.S_nil _ _ _ _ _⟩, ⟨by refine sB_ ?_; refine blk_far ?_ NB190_192.out _; refine sB_ ?_; refine blk_far ?_ NB190_192.out _; refine sB_ ?_; refine blk_far ?_ NB190_192.out _; refine sB_ ?_; exact BK190.out⟩, ⟨by refine sB_ ?_; refine blk_put (cs := #[.int .i64 a0, .int .i64 a0, .slice none 0 0]) ?_ 2 _ rfl; refine sB_ ?_; refine blk_put (cs := #[.int .i64 a0, .int .i64 0, .slice none 0 0]) ?_ 1 _ rfl; refine sB_ ?_; refine blk_put (cs := #[.int .i64 0, .int .i64 0, .slice none 0 0]) ?_ 0 _ rfl; refine sB_ ?_; exact BK192.out⟩, ⟨by repeat (first | (with_reducible first | exact HB.out | apply below_alloc | apply pw_below_drewN | apply below_drew1 | refine below_set ?_ GE190.out | refine below_set ?_ GE192.out) | exact HB.out)⟩⟩
  case round =>
   clear H'
   try clear p2
   try clear c3
   try clear c6
   try clear hcz7_0
   try clear hcz7_1
   try clear hcz7_2
   try clear hfz7_0
   try clear hfz7_1
   try clear hfz7_2
   obtain ⟨x5_1, x193002_1, u193002, rfl, HA, HK1, HO_193002, BK190, BK192, HB⟩ := hrel
   cases gk with
   | zero => exact absurd HA.out (by simp [spec_SpiralMatrix.l0])
   | succ k1 =>
    have H := HA.out; clear HA
    simp only [spec_SpiralMatrix.l0] at H
    by_cases c8 : x5_1 < (wrap64 (a0 * a0))
    ·rw [if_pos c8] at H
     have c8b0 : decide (x5_1 < (wrap64 (a0 * a0))) = true := decide_eq_true c8
     clear c8
     by_cases c9 : x193002_1.length < 17592186044416
     ·rw [if_pos c9] at H
      have LMc9 := Aside0.mk c9
      clear c9
      obtain ⟨y193, hy193⟩ : ∃ y_ : List Int, y_ = (x193002_1 ++ [(-1)]) := ⟨_, rfl⟩
      replace H : (spec_SpiralMatrix.l0 k1 a0 (wrap64 (x5_1 + 1)) a0 a0 y193) = some (r1, r2, r3, r4) := by first | (rw [hy193]; with_reducible exact H) | (have H2_ := (Option.bind_some _ _).symm.trans H; rw [hy193]; with_reducible exact H2_) | (have H2_ := (Option.bind_some _ _).symm.trans H; with_reducible exact H2_) | with_reducible exact H | (rw [hy193]; exact H) | exact H
      have Ny193 := Aside0.mk hy193
      clear hy193
      have H' := Aside0.mk H
      clear H; have hnb10 := NB192_190.out; have hnc10 := NB190_192.out
      obtain ⟨hcz11_0, hcz11_1, hcz11_2, hfz11_0, hfz11_1, hfz11_2⟩ := sZ_ BK192.out
      go_wp2_with (first | ((with_reducible refine gate_builtin (b := .append) (xs := #[.tmp 29, .tmp 30]) rfl ?_); at_builtin; refine Kd.R_append (Kd.int .i64) (w0 := w) w.heap.size rfl (.tmp 29) (.tmp 30) 24 3 (.int .i64 0) 8 rfl Try.underlying24 info3 rfl (by decide) (by omega) u193002 x193002_1 (-1) [.int .i64 (-1)] (fun _ => True) (fun _ => False) rfl rfl ?aP (fun _ hk => hk.elim) ?aF ?aO ?aB ?aS ?aL ?_; (case aP => exact rfl); (case aB => exact (sW_ HB.out)); (case aF => exact (fun _ _ => trivial)); (case aO => exact (sR_ HO_193002.out)); (case aS => exact (below_size (sW_ HB.out))); (case aL => have := LMc9.out; omega); intro v194 w12 ho hb hg hat; rw [← Ny193.out] at ho; have n0_ := Aside0.mk (blk_grown (sB_ BK190.out) hg (Kd.R_ne HO_193002.out BK190.out (by decide))); have n1_ := Aside0.mk (blk_grown (sB_ BK192.out) hg (Kd.R_ne HO_193002.out BK192.out (by decide))); have n2_ := Aside0.mk (hb); have n3_ := Aside0.mk (ho); clear BK190 BK192 HB HO_193002; have BK190 := n0_; have BK192 := n1_; have HB := n2_; have HO195 := n3_; clear n0_ n1_ n2_ n3_; clear ho hb hg hat; obtain ⟨Ao13, co13, eo13⟩ := Kd.R_slice HO195.out; subst eo13; obtain ⟨hcz14_0, hcz14_1, hcz14_2, hfz14_0, hfz14_1, hfz14_2⟩ := sZ_ BK192.out))
      go_roundg k1
      case measure => have := HK1.out; omega
      case rel => exact ⟨(wrap64 (x5_1 + 1)), (y193), (.slice Ao13 y193.length co13), (by first | rfl | (simp; done) | (simp [*]; done)), H', ⟨by have := HK1.out; omega⟩, ⟨by (with_reducible repeat (first | apply Kd.R_alloc | apply Kd.R_drewN | apply Kd.R_drew)); exact Kd.R_mono (Kd.R_far (p := ⟨gb192, 2, none⟩) (Kd.R_types HO195.out BK192.out (by decide)) (fun _ hk => hk.2) (.slice Ao13 y193.length co13)) (fun _ hk => trivial)⟩, ⟨by refine sB_ ?_; refine blk_far ?_ NB190_192.out _; refine sB_ ?_; exact BK190.out⟩, ⟨by refine sB_ ?_; refine blk_put (cs := #[.int .i64 a0, .int .i64 a0, u193002]) ?_ 2 _ rfl; refine sB_ ?_; exact BK192.out⟩, ⟨by repeat (first | (with_reducible first | exact HB.out | apply below_alloc | apply pw_below_drewN | apply below_drew1 | refine below_set ?_ GE190.out | refine below_set ?_ GE192.out) | exact HB.out)⟩⟩
     rw [if_neg c9] at H
     exact absurd H (by simp)
    rw [if_neg c8] at H
    have c8b0 : decide (x5_1 < (wrap64 (a0 * a0))) = false := decide_eq_false c8
    clear c8
    have H' := Aside0.mk H
    clear H; have hnb15 := NB192_190.out; have hnc15 := NB190_192.out
    obtain ⟨hcz16_0, hcz16_1, hcz16_2, hfz16_0, hfz16_1, hfz16_2⟩ := sZ_ BK192.out
    obtain ⟨Ao17, co17, eo17⟩ := Kd.R_slice HO_193002.out
    subst eo17
    go_wp2
    go_loopg [6, 7, 8, 9, 36] k1 (fun kq v6 v7 v8 v9 v36 w' => ∃ (x6_2 : Int) (x7_2 : Int) (x8_2 : Int) (x9_2 : Int) (x36_2 : Int) (x193002_2 : List Int) (u193002 : Value), v6 = .int .i64 x6_2 ∧ v7 = .int .i64 x7_2 ∧ v8 = .int .i64 x8_2 ∧ v9 = .int .i64 x9_2 ∧ v36 = .int .i64 x36_2 ∧ Aside0 (spec_SpiralMatrix.l1 kq a0 x6_2 x7_2 x8_2 x9_2 (x193002_1.length : Int) x36_2 a0 a0 x193002_2 = some (r1, r2, r3, r4)) ∧ Aside0 (kq ≤ k1) ∧ Aside0 (Kd.R (Kd.int .i64) 3 w' w.heap.size (fun _ => True) u193002 x193002_2) ∧ Aside0 (w'.heap[gb190]? = some (.cells #[.int .i64 0, .int .i64 0, (.slice none 0 0)] 26 (0, 0))) ∧ Aside0 (w'.heap[gb192]? = some (.cells #[.int .i64 a0, .int .i64 a0, u193002] 26 (0, 0))) ∧ Aside0 (Below w.heap.size w w'))
    case atStart => exact ⟨(0), (0), (1), (0), (0), (x193002_1), (.slice Ao17 x193002_1.length co17), (by first | rfl | (simp; done) | (simp [*]; done)), (by first | rfl | (simp; done) | (simp [*]; done)), (by first | rfl | (simp; done) | (simp [*]; done)), (by first | rfl | (simp; done) | (simp [*]; done)), (by first | rfl | (simp; done) | (simp [*]; done)), H', ⟨Nat.le_refl _⟩, ⟨by (with_reducible repeat (first | apply Kd.R_alloc | apply Kd.R_drewN | apply Kd.R_drew)); exact HO_193002.out⟩, ⟨by refine sB_ ?_; exact BK190.out⟩, ⟨by refine sB_ ?_; exact BK192.out⟩, ⟨by repeat (first | (with_reducible first | exact HB.out | apply below_alloc | apply pw_below_drewN | apply below_drew1 | refine below_set ?_ GE190.out | refine below_set ?_ GE192.out) | exact HB.out)⟩⟩
    case round =>
     clear H'
     try clear c1
     try clear p2
     try clear c3
     try clear c6
     try clear p6
     try clear c8
     try clear c8b0
     try clear c9
     try clear c10
     try clear c15
     try clear hcz11_0
     try clear hcz11_1
     try clear hcz11_2
     try clear hcz14_0
     try clear hcz14_1
     try clear hcz14_2
     try clear hcz16_0
     try clear hcz16_1
     try clear hcz16_2
     try clear hcz7_0
     try clear hcz7_1
     try clear hcz7_2
     try clear hfz11_0
     try clear hfz11_1
     try clear hfz11_2
     try clear hfz14_0
     try clear hfz14_1
     try clear hfz14_2
     try clear hfz16_0
     try clear hfz16_1
     try clear hfz16_2
     try clear hfz7_0
     try clear hfz7_1
     try clear hfz7_2
     try clear p2
     obtain ⟨x6_2, x7_2, x8_2, x9_2, x36_2, x193002_2, u193002, rfl, rfl, rfl, rfl, rfl, HA, HK2, HO_193002, BK190, BK192, HB⟩ := hrel
     cases gk with
     | zero => exact absurd HA.out (by simp [spec_SpiralMatrix.l1])
     | succ k2 =>
      have H := HA.out; clear HA
      simp only [spec_SpiralMatrix.l1] at H
      by_cases c18 : x36_2 < (x193002_1.length : Int)
      ·rw [if_pos c18] at H
       have c18b0 : decide (x36_2 < (x193002_1.length : Int)) = true := decide_eq_true c18
       clear c18
       obtain ⟨ji19, hji19⟩ : ∃ j_ : Int, (wrap64 ((wrap64 (x7_2 * a0)) + x6_2)) = j_ := ⟨_, rfl⟩
       replace H : (if 0 ≤ (ji19) then (if (ji19) < (x193002_2.length : Int) then ((some (x193002_2.set ((ji19) : Int).toNat x36_2 : List Int)).bind fun y196 => ((spec_l1In.f (wrap64 (x6_2 + x8_2)) 0 (wrap64 (a0 - 1))).bind fun t197 => (if t197 = true then ((spec_l1In.f (wrap64 (x7_2 + x9_2)) 0 (wrap64 (a0 - 1))).bind fun t198 => (if t198 = true then (if 0 ≤ (wrap64 ((wrap64 ((wrap64 (x7_2 + x9_2)) * a0)) + (wrap64 (x6_2 + x8_2)))) then (if (wrap64 ((wrap64 ((wrap64 (x7_2 + x9_2)) * a0)) + (wrap64 (x6_2 + x8_2)))) < (x193002_2.length : Int) then (if (rd y196 (wrap64 ((wrap64 ((wrap64 (x7_2 + x9_2)) * a0)) + (wrap64 (x6_2 + x8_2))))) ≥ 0 then (spec_SpiralMatrix.l1 k2 a0 (wrap64 (x6_2 + (wrap64 (-x9_2)))) (wrap64 (x7_2 + x8_2)) (wrap64 (-x9_2)) x8_2 (x193002_1.length : Int) (wrap64 (x36_2 + 1)) a0 a0 y196) else (spec_SpiralMatrix.l1 k2 a0 (wrap64 (x6_2 + x8_2)) (wrap64 (x7_2 + x9_2)) x8_2 x9_2 (x193002_1.length : Int) (wrap64 (x36_2 + 1)) a0 a0 y196)) else (none)) else (none)) else (spec_SpiralMatrix.l1 k2 a0 (wrap64 (x6_2 + (wrap64 (-x9_2)))) (wrap64 (x7_2 + x8_2)) (wrap64 (-x9_2)) x8_2 (x193002_1.length : Int) (wrap64 (x36_2 + 1)) a0 a0 y196))) else (spec_SpiralMatrix.l1 k2 a0 (wrap64 (x6_2 + (wrap64 (-x9_2)))) (wrap64 (x7_2 + x8_2)) (wrap64 (-x9_2)) x8_2 (x193002_1.length : Int) (wrap64 (x36_2 + 1)) a0 a0 y196)))) else (none)) else (none)) = some (r1, r2, r3, r4) := by first | (rw [hji19] at H; exact H) | (simp only [hji19] at H ⊢; exact H)
       have hji19w : (IntKind.i64.wrap ((wrap64 (x7_2 * a0)) + x6_2)) = ji19 := (i64_w _).trans hji19
       have hji19n : (IntKind.i64.wrap ((IntKind.i64.wrap (x7_2 * a0)) + x6_2)) = ji19 := by first | (simpa only [i64_w] using hji19) | (simp only [i64_w]; exact hji19)
       by_cases c20 : 0 ≤ (ji19)
       ·rw [if_pos c20] at H
        have c20b0 : decide (0 ≤ (ji19)) = true := decide_eq_true c20
        clear c20
        by_cases c21 : (ji19) < (x193002_2.length : Int)
        ·rw [if_pos c21] at H
         have c21b0 : decide ((ji19) < (x193002_2.length : Int)) = true := decide_eq_true c21
         clear c21
         obtain ⟨y196, hy196⟩ : ∃ y_ : List Int, y_ = (x193002_2.set ((ji19) : Int).toNat x36_2) := ⟨_, rfl⟩
         replace H : ((spec_l1In.f (wrap64 (x6_2 + x8_2)) 0 (wrap64 (a0 - 1))).bind fun t197 => (if t197 = true then ((spec_l1In.f (wrap64 (x7_2 + x9_2)) 0 (wrap64 (a0 - 1))).bind fun t198 => (if t198 = true then (if 0 ≤ (wrap64 ((wrap64 ((wrap64 (x7_2 + x9_2)) * a0)) + (wrap64 (x6_2 + x8_2)))) then (if (wrap64 ((wrap64 ((wrap64 (x7_2 + x9_2)) * a0)) + (wrap64 (x6_2 + x8_2)))) < (x193002_2.length : Int) then (if (rd y196 (wrap64 ((wrap64 ((wrap64 (x7_2 + x9_2)) * a0)) + (wrap64 (x6_2 + x8_2))))) ≥ 0 then (spec_SpiralMatrix.l1 k2 a0 (wrap64 (x6_2 + (wrap64 (-x9_2)))) (wrap64 (x7_2 + x8_2)) (wrap64 (-x9_2)) x8_2 (x193002_1.length : Int) (wrap64 (x36_2 + 1)) a0 a0 y196) else (spec_SpiralMatrix.l1 k2 a0 (wrap64 (x6_2 + x8_2)) (wrap64 (x7_2 + x9_2)) x8_2 x9_2 (x193002_1.length : Int) (wrap64 (x36_2 + 1)) a0 a0 y196)) else (none)) else (none)) else (spec_SpiralMatrix.l1 k2 a0 (wrap64 (x6_2 + (wrap64 (-x9_2)))) (wrap64 (x7_2 + x8_2)) (wrap64 (-x9_2)) x8_2 (x193002_1.length : Int) (wrap64 (x36_2 + 1)) a0 a0 y196))) else (spec_SpiralMatrix.l1 k2 a0 (wrap64 (x6_2 + (wrap64 (-x9_2)))) (wrap64 (x7_2 + x8_2)) (wrap64 (-x9_2)) x8_2 (x193002_1.length : Int) (wrap64 (x36_2 + 1)) a0 a0 y196))) = some (r1, r2, r3, r4) := by first | (rw [hy196]; with_reducible exact H) | (have H2_ := (Option.bind_some _ _).symm.trans H; rw [hy196]; with_reducible exact H2_) | (have H2_ := (Option.bind_some _ _).symm.trans H; with_reducible exact H2_) | with_reducible exact H | (rw [hy196]; exact H) | exact H
         have Ny196 := Aside0.mk hy196
         clear hy196
         replace H := Option.bind_eq_some_iff.mp H
         obtain ⟨t197, A230, H⟩ := H
         replace H : (if t197 = true then ((spec_l1In.f (wrap64 (x7_2 + x9_2)) 0 (wrap64 (a0 - 1))).bind fun t198 => (if t198 = true then (if 0 ≤ (wrap64 ((wrap64 ((wrap64 (x7_2 + x9_2)) * a0)) + (wrap64 (x6_2 + x8_2)))) then (if (wrap64 ((wrap64 ((wrap64 (x7_2 + x9_2)) * a0)) + (wrap64 (x6_2 + x8_2)))) < (x193002_2.length : Int) then (if (rd y196 (wrap64 ((wrap64 ((wrap64 (x7_2 + x9_2)) * a0)) + (wrap64 (x6_2 + x8_2))))) ≥ 0 then (spec_SpiralMatrix.l1 k2 a0 (wrap64 (x6_2 + (wrap64 (-x9_2)))) (wrap64 (x7_2 + x8_2)) (wrap64 (-x9_2)) x8_2 (x193002_1.length : Int) (wrap64 (x36_2 + 1)) a0 a0 y196) else (spec_SpiralMatrix.l1 k2 a0 (wrap64 (x6_2 + x8_2)) (wrap64 (x7_2 + x9_2)) x8_2 x9_2 (x193002_1.length : Int) (wrap64 (x36_2 + 1)) a0 a0 y196)) else (none)) else (none)) else (spec_SpiralMatrix.l1 k2 a0 (wrap64 (x6_2 + (wrap64 (-x9_2)))) (wrap64 (x7_2 + x8_2)) (wrap64 (-x9_2)) x8_2 (x193002_1.length : Int) (wrap64 (x36_2 + 1)) a0 a0 y196))) else (spec_SpiralMatrix.l1 k2 a0 (wrap64 (x6_2 + (wrap64 (-x9_2)))) (wrap64 (x7_2 + x8_2)) (wrap64 (-x9_2)) x8_2 (x193002_1.length : Int) (wrap64 (x36_2 + 1)) a0 a0 y196)) = some (r1, r2, r3, r4) := H
         have A23 := Aside0.mk A230
         clear A230
         by_cases c24 : t197 = true
         ·subst c24
          have H1 : ((spec_l1In.f (wrap64 (x7_2 + x9_2)) 0 (wrap64 (a0 - 1))).bind fun t198 => (if t198 = true then (if 0 ≤ (wrap64 ((wrap64 ((wrap64 (x7_2 + x9_2)) * a0)) + (wrap64 (x6_2 + x8_2)))) then (if (wrap64 ((wrap64 ((wrap64 (x7_2 + x9_2)) * a0)) + (wrap64 (x6_2 + x8_2)))) < (x193002_2.length : Int) then (if (rd y196 (wrap64 ((wrap64 ((wrap64 (x7_2 + x9_2)) * a0)) + (wrap64 (x6_2 + x8_2))))) ≥ 0 then (spec_SpiralMatrix.l1 k2 a0 (wrap64 (x6_2 + (wrap64 (-x9_2)))) (wrap64 (x7_2 + x8_2)) (wrap64 (-x9_2)) x8_2 (x193002_1.length : Int) (wrap64 (x36_2 + 1)) a0 a0 y196) else (spec_SpiralMatrix.l1 k2 a0 (wrap64 (x6_2 + x8_2)) (wrap64 (x7_2 + x9_2)) x8_2 x9_2 (x193002_1.length : Int) (wrap64 (x36_2 + 1)) a0 a0 y196)) else (none)) else (none)) else (spec_SpiralMatrix.l1 k2 a0 (wrap64 (x6_2 + (wrap64 (-x9_2)))) (wrap64 (x7_2 + x8_2)) (wrap64 (-x9_2)) x8_2 (x193002_1.length : Int) (wrap64 (x36_2 + 1)) a0 a0 y196))) = some (r1, r2, r3, r4) := by rw [if_pos rfl] at H; exact H
          clear H; have H := H1; clear H1
          replace H := Option.bind_eq_some_iff.mp H
          obtain ⟨t198, A250, H⟩ := H
          replace H : (if t198 = true then (if 0 ≤ (wrap64 ((wrap64 ((wrap64 (x7_2 + x9_2)) * a0)) + (wrap64 (x6_2 + x8_2)))) then (if (wrap64 ((wrap64 ((wrap64 (x7_2 + x9_2)) * a0)) + (wrap64 (x6_2 + x8_2)))) < (x193002_2.length : Int) then (if (rd y196 (wrap64 ((wrap64 ((wrap64 (x7_2 + x9_2)) * a0)) + (wrap64 (x6_2 + x8_2))))) ≥ 0 then (spec_SpiralMatrix.l1 k2 a0 (wrap64 (x6_2 + (wrap64 (-x9_2)))) (wrap64 (x7_2 + x8_2)) (wrap64 (-x9_2)) x8_2 (x193002_1.length : Int) (wrap64 (x36_2 + 1)) a0 a0 y196) else (spec_SpiralMatrix.l1 k2 a0 (wrap64 (x6_2 + x8_2)) (wrap64 (x7_2 + x9_2)) x8_2 x9_2 (x193002_1.length : Int) (wrap64 (x36_2 + 1)) a0 a0 y196)) else (none)) else (none)) else (spec_SpiralMatrix.l1 k2 a0 (wrap64 (x6_2 + (wrap64 (-x9_2)))) (wrap64 (x7_2 + x8_2)) (wrap64 (-x9_2)) x8_2 (x193002_1.length : Int) (wrap64 (x36_2 + 1)) a0 a0 y196)) = some (r1, r2, r3, r4) := H
          have A25 := Aside0.mk A250
          clear A250
          by_cases c26 : t198 = true
          ·subst c26
           have H1 : (if 0 ≤ (wrap64 ((wrap64 ((wrap64 (x7_2 + x9_2)) * a0)) + (wrap64 (x6_2 + x8_2)))) then (if (wrap64 ((wrap64 ((wrap64 (x7_2 + x9_2)) * a0)) + (wrap64 (x6_2 + x8_2)))) < (x193002_2.length : Int) then (if (rd y196 (wrap64 ((wrap64 ((wrap64 (x7_2 + x9_2)) * a0)) + (wrap64 (x6_2 + x8_2))))) ≥ 0 then (spec_SpiralMatrix.l1 k2 a0 (wrap64 (x6_2 + (wrap64 (-x9_2)))) (wrap64 (x7_2 + x8_2)) (wrap64 (-x9_2)) x8_2 (x193002_1.length : Int) (wrap64 (x36_2 + 1)) a0 a0 y196) else (spec_SpiralMatrix.l1 k2 a0 (wrap64 (x6_2 + x8_2)) (wrap64 (x7_2 + x9_2)) x8_2 x9_2 (x193002_1.length : Int) (wrap64 (x36_2 + 1)) a0 a0 y196)) else (none)) else (none)) = some (r1, r2, r3, r4) := by rw [if_pos rfl] at H; exact H
           clear H; have H := H1; clear H1
           obtain ⟨ji27, hji27⟩ : ∃ j_ : Int, (wrap64 ((wrap64 ((wrap64 (x7_2 + x9_2)) * a0)) + (wrap64 (x6_2 + x8_2)))) = j_ := ⟨_, rfl⟩
           replace H : (if 0 ≤ (ji27) then (if (ji27) < (x193002_2.length : Int) then (if (rd y196 (ji27)) ≥ 0 then (spec_SpiralMatrix.l1 k2 a0 (wrap64 (x6_2 + (wrap64 (-x9_2)))) (wrap64 (x7_2 + x8_2)) (wrap64 (-x9_2)) x8_2 (x193002_1.length : Int) (wrap64 (x36_2 + 1)) a0 a0 y196) else (spec_SpiralMatrix.l1 k2 a0 (wrap64 (x6_2 + x8_2)) (wrap64 (x7_2 + x9_2)) x8_2 x9_2 (x193002_1.length : Int) (wrap64 (x36_2 + 1)) a0 a0 y196)) else (none)) else (none)) = some (r1, r2, r3, r4) := by first | (rw [hji27] at H; exact H) | (simp only [hji27] at H ⊢; exact H)
           (try rw [hji27] at A23)
           (try rw [hji27] at A25)
           have hji27w : (IntKind.i64.wrap ((wrap64 ((wrap64 (x7_2 + x9_2)) * a0)) + (wrap64 (x6_2 + x8_2)))) = ji27 := (i64_w _).trans hji27
           have hji27n : (IntKind.i64.wrap ((IntKind.i64.wrap ((IntKind.i64.wrap (x7_2 + x9_2)) * a0)) + (IntKind.i64.wrap (x6_2 + x8_2)))) = ji27 := by first | (simpa only [i64_w] using hji27) | (simp only [i64_w]; exact hji27)
           by_cases c28 : 0 ≤ (ji27)
           ·rw [if_pos c28] at H
            have c28b0 : decide (0 ≤ (ji27)) = true := decide_eq_true c28
            clear c28
            by_cases c29 : (ji27) < (x193002_2.length : Int)
            ·rw [if_pos c29] at H
             have c29b0 : decide ((ji27) < (x193002_2.length : Int)) = true := decide_eq_true c29
             clear c29
             by_cases c30 : (rd y196 (ji27)) ≥ 0
             ·rw [if_pos c30] at H
              have c30b0 : decide (0 ≤ (rd y196 (ji27))) = true := decide_eq_true c30
              clear c30
              have H' := Aside0.mk H
              clear H; have hnb31 := NB192_190.out; have hnc31 := NB190_192.out
              obtain ⟨hcz32_0, hcz32_1, hcz32_2, hfz32_0, hfz32_1, hfz32_2⟩ := sZ_ BK192.out
              have p22 : 0 ≤ ((ji19) : Int) := of_decide_eq_true (by first | (with_reducible assumption) | assumption)
              have q22 : ((ji19) : Int) < ((x193002_2.length : Int) : Int) := of_decide_eq_true (by first | (with_reducible assumption) | assumption)
              obtain ⟨go22, co22, eo22, gb22, gl22, cl22, HG22⟩ := Kd.R_form HO_193002.out (by omega)
              (first | cases eo22 | (injection eo22 with ea_ en_ ec_; (first | subst ea_ | (injection ea_ with ea_; subst ea_)); subst ec_; clear en_))
              have GB22 := Aside0.mk gb22
              have GG22 := Aside0.mk HG22
              clear gb22 gl22 HG22
              obtain ⟨hx22_0, hf22_0⟩ := Kd.R_celln 0 HO_193002.out ((ji19) : Int) p22 q22
              replace p22 := eq_true p22
              replace q22 := eq_true q22
              have HP33 := Kd.R_putg HO_193002.out ((ji19) : Int) x36_2
              go_wp2_with (first | ((with_reducible refine gate_store (t := 3) (p := 47) rfl ?_); refine store_event (t := 3) (p := 47) (v := ?vo_w34) (w1 := (wr.setCell ⟨go22, ((ji19) : Int).toNat, none⟩ (.int .i64 x36_2))) ?hg ?ho ?hn ?hr ?_; (case ho => rfl); (case hg => rfl); (case hn => rfl); (case hr => first | (go_simp; done) | (go_simp; rfl)); intro w34 hw; have hg : wr.grownBy w34 (some go22) := (by rw [hw]; exact HP33.2); have hp_ : Kd.R (Kd.int .i64) 3 w34 w.heap.size (fun _ => True) (.slice (some ⟨go22, 0, none⟩) x193002_2.length co22) y196 := (by rw [hw, Ny196.out]; exact HP33.1); clear HP33; have n0_ := Aside0.mk (hp_); have n1_ := Aside0.mk (blk_grown (sB_ BK190.out) hg (Kd.R_ne HO_193002.out BK190.out (by decide))); have n2_ := Aside0.mk (blk_grown (sB_ BK192.out) hg (Kd.R_ne HO_193002.out BK192.out (by decide))); have n3_ := Aside0.mk ((by rw [hw]; exact below_set (HB.out) GB22.out : Below w.heap.size w w34)); clear HO_193002 BK190 BK192 HB; have HO_193002 := n0_; have BK190 := n1_; have BK192 := n2_; have HB := n3_; clear n0_ n1_ n2_ n3_; clear hg hw hp_) | ((with_reducible refine gate_callee (f := 86) rfl ?_); refine goesL_ (some 57) rfl rfl Try.func86 (by kernel_rfl) rfl #[.int .i64 (wrap64 (x6_2 + x8_2)), .int .i64 0, .int .i64 (wrap64 (a0 - 1))] rfl sL_ ?_; (with_reducible refine (spec_l1In.calls (wrap64 (x6_2 + x8_2)) 0 (wrap64 (a0 - 1)) true _ A23.out).mono ?_); rintro e w' ⟨rfl, ⟨nd, rfl⟩⟩; refine ⟨_, rfl, ?_⟩) | (go_at_call 86; (with_reducible refine (spec_l1In.calls (wrap64 (x7_2 + x9_2)) 0 (wrap64 (a0 - 1)) true _ A25.out).mono ?_); rintro e w' ⟨rfl, ⟨nd, rfl⟩⟩; have hcz35_0 : w34.cell? ⟨gb192, 0, none⟩ = some (.int .i64 a0) := (blk_cell BK192.out 0).trans rfl; have hcz35_1 : w34.cell? ⟨gb192, 1, none⟩ = some (.int .i64 a0) := (blk_cell BK192.out 1).trans rfl; have hcz35_2 : w34.cell? ⟨gb192, 2, none⟩ = some (.slice (some ⟨go22, 0, none⟩) x193002_2.length co22) := (blk_cell BK192.out 2).trans rfl; have hfz35_0 := blk_frozen BK192.out 0; have hfz35_1 := blk_frozen BK192.out 1; have hfz35_2 := blk_frozen BK192.out 2; have p199 : 0 ≤ ((ji27) : Int) := of_decide_eq_true (by first | (with_reducible assumption) | assumption); have q199 : (ji27) < (y196.length : Int) := (by have h_ : ((ji27) : Int) < ((x193002_2.length : Int) : Int) := of_decide_eq_true (by first | (with_reducible assumption) | assumption); first | (have e_ := (Kd.R_reads' HO_193002.out).1; omega) | simpa only [Ny196.out, List.length_set] using h_); have ql199 : (((ji27) : Int) < ((x193002_2.length : Int) : Int)) = True := eq_true (of_decide_eq_true (by first | (with_reducible assumption) | assumption)); obtain ⟨ad199, e199, hx199_0⟩ := Kd.at_int (Kd.R_reads' HO_193002.out).2.2 (ji27) p199 q199; obtain rfl : (⟨go22, 0, none⟩ : Addr) = ad199 := (by injection e199); (first | simp only [add_plain] at hx199_0 | simp only [add_at] at hx199_0 | simp only [Addr.add, Nat.zero_add] at hx199_0 | skip); replace p199 := eq_true p199; replace q199 := eq_true q199))
              go_roundg k2
              case measure => have := HK1.out; have := HK2.out; omega
              case rel => exact ⟨(wrap64 (x6_2 + (wrap64 (-x9_2)))), (wrap64 (x7_2 + x8_2)), (wrap64 (-x9_2)), (x8_2), (wrap64 (x36_2 + 1)), (y196), (.slice (some ⟨go22, 0, none⟩) x193002_2.length co22), (by first | rfl | (simp; done) | (simp [*]; done)), (by first | rfl | (simp; done) | (simp [*]; done)), (by first | rfl | (simp; done) | (simp [*]; done)), (by first | rfl | (simp; done) | (simp [*]; done)), (by first | rfl | (simp; done) | (simp [*]; done)), H', ⟨by have := HK1.out; have := HK2.out; omega⟩, ⟨by (with_reducible repeat (first | apply Kd.R_alloc | apply Kd.R_drewN | apply Kd.R_drew)); exact HO_193002.out⟩, ⟨by refine sB_ ?_; exact BK190.out⟩, ⟨by refine sB_ ?_; exact BK192.out⟩, ⟨by repeat (first | (with_reducible first | exact HB.out | apply below_alloc | apply pw_below_drewN | apply below_drew1 | refine below_set ?_ GE190.out | refine below_set ?_ GE192.out) | exact HB.out)⟩⟩
             rw [if_neg c30] at H
             have c30b0 : decide (0 ≤ (rd y196 (ji27))) = false := decide_eq_false c30
             clear c30
             have H' := Aside0.mk H
             clear H; have hnb36 := NB192_190.out; have hnc36 := NB190_192.out
             obtain ⟨hcz37_0, hcz37_1, hcz37_2, hfz37_0, hfz37_1, hfz37_2⟩ := sZ_ BK192.out
             have p22 : 0 ≤ ((ji19) : Int) := of_decide_eq_true (by first | (with_reducible assumption) | assumption)
             have q22 : ((ji19) : Int) < ((x193002_2.length : Int) : Int) := of_decide_eq_true (by first | (with_reducible assumption) | assumption)
             obtain ⟨go22, co22, eo22, gb22, gl22, cl22, HG22⟩ := Kd.R_form HO_193002.out (by omega)
             (first | cases eo22 | (injection eo22 with ea_ en_ ec_; (first | subst ea_ | (injection ea_ with ea_; subst ea_)); subst ec_; clear en_))
             have GB22 := Aside0.mk gb22
             have GG22 := Aside0.mk HG22
             clear gb22 gl22 HG22
             obtain ⟨hx22_0, hf22_0⟩ := Kd.R_celln 0 HO_193002.out ((ji19) : Int) p22 q22
             replace p22 := eq_true p22
             replace q22 := eq_true q22
             have HP38 := Kd.R_putg HO_193002.out ((ji19) : Int) x36_2
             go_wp2_with (first | ((with_reducible refine gate_store (t := 3) (p := 47) rfl ?_); refine store_event (t := 3) (p := 47) (v := ?vo_w39) (w1 := (wr.setCell ⟨go22, ((ji19) : Int).toNat, none⟩ (.int .i64 x36_2))) ?hg ?ho ?hn ?hr ?_; (case ho => rfl); (case hg => rfl); (case hn => rfl); (case hr => first | (go_simp; done) | (go_simp; rfl)); intro w39 hw; have hg : wr.grownBy w39 (some go22) := (by rw [hw]; exact HP38.2); have hp_ : Kd.R (Kd.int .i64) 3 w39 w.heap.size (fun _ => True) (.slice (some ⟨go22, 0, none⟩) x193002_2.length co22) y196 := (by rw [hw, Ny196.out]; exact HP38.1); clear HP38; have n0_ := Aside0.mk (hp_); have n1_ := Aside0.mk (blk_grown (sB_ BK190.out) hg (Kd.R_ne HO_193002.out BK190.out (by decide))); have n2_ := Aside0.mk (blk_grown (sB_ BK192.out) hg (Kd.R_ne HO_193002.out BK192.out (by decide))); have n3_ := Aside0.mk ((by rw [hw]; exact below_set (HB.out) GB22.out : Below w.heap.size w w39)); clear HO_193002 BK190 BK192 HB; have HO_193002 := n0_; have BK190 := n1_; have BK192 := n2_; have HB := n3_; clear n0_ n1_ n2_ n3_; clear hg hw hp_) | ((with_reducible refine gate_callee (f := 86) rfl ?_); refine goesL_ (some 57) rfl rfl Try.func86 (by kernel_rfl) rfl #[.int .i64 (wrap64 (x6_2 + x8_2)), .int .i64 0, .int .i64 (wrap64 (a0 - 1))] rfl sL_ ?_; (with_reducible refine (spec_l1In.calls (wrap64 (x6_2 + x8_2)) 0 (wrap64 (a0 - 1)) true _ A23.out).mono ?_); rintro e w' ⟨rfl, ⟨nd, rfl⟩⟩; refine ⟨_, rfl, ?_⟩) | (go_at_call 86; (with_reducible refine (spec_l1In.calls (wrap64 (x7_2 + x9_2)) 0 (wrap64 (a0 - 1)) true _ A25.out).mono ?_); rintro e w' ⟨rfl, ⟨nd, rfl⟩⟩; have hcz40_0 : w39.cell? ⟨gb192, 0, none⟩ = some (.int .i64 a0) := (blk_cell BK192.out 0).trans rfl; have hcz40_1 : w39.cell? ⟨gb192, 1, none⟩ = some (.int .i64 a0) := (blk_cell BK192.out 1).trans rfl; have hcz40_2 : w39.cell? ⟨gb192, 2, none⟩ = some (.slice (some ⟨go22, 0, none⟩) x193002_2.length co22) := (blk_cell BK192.out 2).trans rfl; have hfz40_0 := blk_frozen BK192.out 0; have hfz40_1 := blk_frozen BK192.out 1; have hfz40_2 := blk_frozen BK192.out 2; have p199 : 0 ≤ ((ji27) : Int) := of_decide_eq_true (by first | (with_reducible assumption) | assumption); have q199 : (ji27) < (y196.length : Int) := (by have h_ : ((ji27) : Int) < ((x193002_2.length : Int) : Int) := of_decide_eq_true (by first | (with_reducible assumption) | assumption); first | (have e_ := (Kd.R_reads' HO_193002.out).1; omega) | simpa only [Ny196.out, List.length_set] using h_); have ql199 : (((ji27) : Int) < ((x193002_2.length : Int) : Int)) = True := eq_true (of_decide_eq_true (by first | (with_reducible assumption) | assumption)); obtain ⟨ad199, e199, hx199_0⟩ := Kd.at_int (Kd.R_reads' HO_193002.out).2.2 (ji27) p199 q199; obtain rfl : (⟨go22, 0, none⟩ : Addr) = ad199 := (by injection e199); (first | simp only [add_plain] at hx199_0 | simp only [add_at] at hx199_0 | simp only [Addr.add, Nat.zero_add] at hx199_0 | skip); replace p199 := eq_true p199; replace q199 := eq_true q199))
             go_roundg k2
             case measure => have := HK1.out; have := HK2.out; omega
             case rel => exact ⟨(wrap64 (x6_2 + x8_2)), (wrap64 (x7_2 + x9_2)), (x8_2), (x9_2), (wrap64 (x36_2 + 1)), (y196), (.slice (some ⟨go22, 0, none⟩) x193002_2.length co22), (by first | rfl | (simp; done) | (simp [*]; done)), (by first | rfl | (simp; done) | (simp [*]; done)), (by first | rfl | (simp; done) | (simp [*]; done)), (by first | rfl | (simp; done) | (simp [*]; done)), (by first | rfl | (simp; done) | (simp [*]; done)), H', ⟨by have := HK1.out; have := HK2.out; omega⟩, ⟨by (with_reducible repeat (first | apply Kd.R_alloc | apply Kd.R_drewN | apply Kd.R_drew)); exact HO_193002.out⟩, ⟨by refine sB_ ?_; exact BK190.out⟩, ⟨by refine sB_ ?_; exact BK192.out⟩, ⟨by repeat (first | (with_reducible first | exact HB.out | apply below_alloc | apply pw_below_drewN | apply below_drew1 | refine below_set ?_ GE190.out | refine below_set ?_ GE192.out) | exact HB.out)⟩⟩
            rw [if_neg c29] at H
            exact absurd H (by simp)
           rw [if_neg c28] at H
           exact absurd H (by simp)
          replace c26 := Bool.eq_false_iff.mpr c26
          subst c26
          have H1 : (spec_SpiralMatrix.l1 k2 a0 (wrap64 (x6_2 + (wrap64 (-x9_2)))) (wrap64 (x7_2 + x8_2)) (wrap64 (-x9_2)) x8_2 (x193002_1.length : Int) (wrap64 (x36_2 + 1)) a0 a0 y196) = some (r1, r2, r3, r4) := by rw [if_neg (show ¬ (false = true) by decide)] at H; exact H
          clear H; have H := H1; clear H1
          have H' := Aside0.mk H
          clear H; have hnb41 := NB192_190.out; have hnc41 := NB190_192.out
          obtain ⟨hcz42_0, hcz42_1, hcz42_2, hfz42_0, hfz42_1, hfz42_2⟩ := sZ_ BK192.out
          have p22 : 0 ≤ ((ji19) : Int) := of_decide_eq_true (by first | (with_reducible assumption) | assumption)
          have q22 : ((ji19) : Int) < ((x193002_2.length : Int) : Int) := of_decide_eq_true (by first | (with_reducible assumption) | assumption)
          obtain ⟨go22, co22, eo22, gb22, gl22, cl22, HG22⟩ := Kd.R_form HO_193002.out (by omega)
          (first | cases eo22 | (injection eo22 with ea_ en_ ec_; (first | subst ea_ | (injection ea_ with ea_; subst ea_)); subst ec_; clear en_))
          have GB22 := Aside0.mk gb22
          have GG22 := Aside0.mk HG22
          clear gb22 gl22 HG22
          obtain ⟨hx22_0, hf22_0⟩ := Kd.R_celln 0 HO_193002.out ((ji19) : Int) p22 q22
          replace p22 := eq_true p22
          replace q22 := eq_true q22
          have HP43 := Kd.R_putg HO_193002.out ((ji19) : Int) x36_2
          go_wp2_with (first | ((with_reducible refine gate_store (t := 3) (p := 47) rfl ?_); refine store_event (t := 3) (p := 47) (v := ?vo_w44) (w1 := (wr.setCell ⟨go22, ((ji19) : Int).toNat, none⟩ (.int .i64 x36_2))) ?hg ?ho ?hn ?hr ?_; (case ho => rfl); (case hg => rfl); (case hn => rfl); (case hr => first | (go_simp; done) | (go_simp; rfl)); intro w44 hw; have hg : wr.grownBy w44 (some go22) := (by rw [hw]; exact HP43.2); have hp_ : Kd.R (Kd.int .i64) 3 w44 w.heap.size (fun _ => True) (.slice (some ⟨go22, 0, none⟩) x193002_2.length co22) y196 := (by rw [hw, Ny196.out]; exact HP43.1); clear HP43; have n0_ := Aside0.mk (hp_); have n1_ := Aside0.mk (blk_grown (sB_ BK190.out) hg (Kd.R_ne HO_193002.out BK190.out (by decide))); have n2_ := Aside0.mk (blk_grown (sB_ BK192.out) hg (Kd.R_ne HO_193002.out BK192.out (by decide))); have n3_ := Aside0.mk ((by rw [hw]; exact below_set (HB.out) GB22.out : Below w.heap.size w w44)); clear HO_193002 BK190 BK192 HB; have HO_193002 := n0_; have BK190 := n1_; have BK192 := n2_; have HB := n3_; clear n0_ n1_ n2_ n3_; clear hg hw hp_) | ((with_reducible refine gate_callee (f := 86) rfl ?_); refine goesL_ (some 57) rfl rfl Try.func86 (by kernel_rfl) rfl #[.int .i64 (wrap64 (x6_2 + x8_2)), .int .i64 0, .int .i64 (wrap64 (a0 - 1))] rfl sL_ ?_; (with_reducible refine (spec_l1In.calls (wrap64 (x6_2 + x8_2)) 0 (wrap64 (a0 - 1)) true _ A23.out).mono ?_); rintro e w' ⟨rfl, ⟨nd, rfl⟩⟩; refine ⟨_, rfl, ?_⟩) | (go_at_call 86; (with_reducible refine (spec_l1In.calls (wrap64 (x7_2 + x9_2)) 0 (wrap64 (a0 - 1)) false _ A25.out).mono ?_); rintro e w' ⟨rfl, ⟨nd, rfl⟩⟩))
          go_roundg k2
          case measure => have := HK1.out; have := HK2.out; omega
          case rel => exact ⟨(wrap64 (x6_2 + (wrap64 (-x9_2)))), (wrap64 (x7_2 + x8_2)), (wrap64 (-x9_2)), (x8_2), (wrap64 (x36_2 + 1)), (y196), (.slice (some ⟨go22, 0, none⟩) x193002_2.length co22), (by first | rfl | (simp; done) | (simp [*]; done)), (by first | rfl | (simp; done) | (simp [*]; done)), (by first | rfl | (simp; done) | (simp [*]; done)), (by first | rfl | (simp; done) | (simp [*]; done)), (by first | rfl | (simp; done) | (simp [*]; done)), H', ⟨by have := HK1.out; have := HK2.out; omega⟩, ⟨by (with_reducible repeat (first | apply Kd.R_alloc | apply Kd.R_drewN | apply Kd.R_drew)); exact HO_193002.out⟩, ⟨by refine sB_ ?_; exact BK190.out⟩, ⟨by refine sB_ ?_; exact BK192.out⟩, ⟨by repeat (first | (with_reducible first | exact HB.out | apply below_alloc | apply pw_below_drewN | apply below_drew1 | refine below_set ?_ GE190.out | refine below_set ?_ GE192.out) | exact HB.out)⟩⟩
         replace c24 := Bool.eq_false_iff.mpr c24
         subst c24
         have H1 : (spec_SpiralMatrix.l1 k2 a0 (wrap64 (x6_2 + (wrap64 (-x9_2)))) (wrap64 (x7_2 + x8_2)) (wrap64 (-x9_2)) x8_2 (x193002_1.length : Int) (wrap64 (x36_2 + 1)) a0 a0 y196) = some (r1, r2, r3, r4) := by rw [if_neg (show ¬ (false = true) by decide)] at H; exact H
         clear H; have H := H1; clear H1
         have H' := Aside0.mk H
         clear H; have hnb45 := NB192_190.out; have hnc45 := NB190_192.out
         obtain ⟨hcz46_0, hcz46_1, hcz46_2, hfz46_0, hfz46_1, hfz46_2⟩ := sZ_ BK192.out
         have p22 : 0 ≤ ((ji19) : Int) := of_decide_eq_true (by first | (with_reducible assumption) | assumption)
         have q22 : ((ji19) : Int) < ((x193002_2.length : Int) : Int) := of_decide_eq_true (by first | (with_reducible assumption) | assumption)
         obtain ⟨go22, co22, eo22, gb22, gl22, cl22, HG22⟩ := Kd.R_form HO_193002.out (by omega)
         (first | cases eo22 | (injection eo22 with ea_ en_ ec_; (first | subst ea_ | (injection ea_ with ea_; subst ea_)); subst ec_; clear en_))
         have GB22 := Aside0.mk gb22
         have GG22 := Aside0.mk HG22
         clear gb22 gl22 HG22
         obtain ⟨hx22_0, hf22_0⟩ := Kd.R_celln 0 HO_193002.out ((ji19) : Int) p22 q22
         replace p22 := eq_true p22
         replace q22 := eq_true q22
         have HP47 := Kd.R_putg HO_193002.out ((ji19) : Int) x36_2
         go_wp2_with (first | ((with_reducible refine gate_store (t := 3) (p := 47) rfl ?_); refine store_event (t := 3) (p := 47) (v := ?vo_w48) (w1 := (wr.setCell ⟨go22, ((ji19) : Int).toNat, none⟩ (.int .i64 x36_2))) ?hg ?ho ?hn ?hr ?_; (case ho => rfl); (case hg => rfl); (case hn => rfl); (case hr => first | (go_simp; done) | (go_simp; rfl)); intro w48 hw; have hg : wr.grownBy w48 (some go22) := (by rw [hw]; exact HP47.2); have hp_ : Kd.R (Kd.int .i64) 3 w48 w.heap.size (fun _ => True) (.slice (some ⟨go22, 0, none⟩) x193002_2.length co22) y196 := (by rw [hw, Ny196.out]; exact HP47.1); clear HP47; have n0_ := Aside0.mk (hp_); have n1_ := Aside0.mk (blk_grown (sB_ BK190.out) hg (Kd.R_ne HO_193002.out BK190.out (by decide))); have n2_ := Aside0.mk (blk_grown (sB_ BK192.out) hg (Kd.R_ne HO_193002.out BK192.out (by decide))); have n3_ := Aside0.mk ((by rw [hw]; exact below_set (HB.out) GB22.out : Below w.heap.size w w48)); clear HO_193002 BK190 BK192 HB; have HO_193002 := n0_; have BK190 := n1_; have BK192 := n2_; have HB := n3_; clear n0_ n1_ n2_ n3_; clear hg hw hp_) | ((with_reducible refine gate_callee (f := 86) rfl ?_); refine goesL_ (some 57) rfl rfl Try.func86 (by kernel_rfl) rfl #[.int .i64 (wrap64 (x6_2 + x8_2)), .int .i64 0, .int .i64 (wrap64 (a0 - 1))] rfl sL_ ?_; (with_reducible refine (spec_l1In.calls (wrap64 (x6_2 + x8_2)) 0 (wrap64 (a0 - 1)) false _ A23.out).mono ?_); rintro e w' ⟨rfl, ⟨nd, rfl⟩⟩; refine ⟨_, rfl, ?_⟩))
         go_roundg k2
         case measure => have := HK1.out; have := HK2.out; omega
         case rel => exact ⟨(wrap64 (x6_2 + (wrap64 (-x9_2)))), (wrap64 (x7_2 + x8_2)), (wrap64 (-x9_2)), (x8_2), (wrap64 (x36_2 + 1)), (y196), (.slice (some ⟨go22, 0, none⟩) x193002_2.length co22), (by first | rfl | (simp; done) | (simp [*]; done)), (by first | rfl | (simp; done) | (simp [*]; done)), (by first | rfl | (simp; done) | (simp [*]; done)), (by first | rfl | (simp; done) | (simp [*]; done)), (by first | rfl | (simp; done) | (simp [*]; done)), H', ⟨by have := HK1.out; have := HK2.out; omega⟩, ⟨by (with_reducible repeat (first | apply Kd.R_alloc | apply Kd.R_drewN | apply Kd.R_drew)); exact HO_193002.out⟩, ⟨by refine sB_ ?_; exact BK190.out⟩, ⟨by refine sB_ ?_; exact BK192.out⟩, ⟨by repeat (first | (with_reducible first | exact HB.out | apply below_alloc | apply pw_below_drewN | apply below_drew1 | refine below_set ?_ GE190.out | refine below_set ?_ GE192.out) | exact HB.out)⟩⟩
        rw [if_neg c21] at H
        exact absurd H (by simp)
       rw [if_neg c20] at H
       exact absurd H (by simp)
      rw [if_neg c18] at H
      have c18b0 : decide (x36_2 < (x193002_1.length : Int)) = false := decide_eq_false c18
      clear c18
      simp only [Option.some.injEq, Prod.mk.injEq] at H
      obtain ⟨rfl, rfl, rfl, rfl⟩ := H
      have hnb49 := NB192_190.out; have hnc49 := NB190_192.out
      obtain ⟨hcz50_0, hcz50_1, hcz50_2, hfz50_0, hfz50_1, hfz50_2⟩ := sZ_ BK192.out
      obtain ⟨hcz51_0, hcz51_1, hcz51_2, hfz51_0, hfz51_1, hfz51_2⟩ := sZ_ BK190.out
      obtain ⟨Ao52, co52, eo52⟩ := Kd.R_slice HO_193002.out
      subst eo52
      go_wp2
      refine bodyPost_ret (results_ct rfl _ _ gb190 26 #[.int .i64 a0, .int .i64 a0, .slice Ao52 x193002_2.length co52] (0, 0) _ rfl (by refine sB_ ?_; refine blk_put (cs := #[.int .i64 a0, .int .i64 a0, .slice none 0 0]) ?_ 2 _ rfl; refine sB_ ?_; refine blk_put (cs := #[.int .i64 a0, .int .i64 0, .slice none 0 0]) ?_ 1 _ rfl; refine sB_ ?_; refine blk_put (cs := #[.int .i64 0, .int .i64 0, .slice none 0 0]) ?_ 0 _ rfl; refine sB_ ?_; exact BK190.out) Try.underlying26 rfl (by kernel_rfl)) rfl ?_
      exact ⟨_, by first | rfl | (simp [errW_none, errW_some] <;> rfl) | (simp [*, errW_none, errW_some] <;> rfl), by (with_reducible repeat (first | apply Kd.R_alloc | apply Kd.R_drewN | apply Kd.R_drew)); exact Kd.R_mono (Kd.R_far (p := ⟨gb190, 2, none⟩) (Kd.R_far (p := ⟨gb190, 1, none⟩) (Kd.R_far (p := ⟨gb190, 0, none⟩) (Kd.R_types HO_193002.out BK190.out (by decide)) (fun _ hk => hk.2) (.int .i64 a0)) (fun _ hk => hk.2) (.int .i64 a0)) (fun _ hk => hk.2) (.slice Ao52 x193002_2.length co52)) (fun _ hk => trivial), by repeat (first | (with_reducible first | exact HB.out | apply below_alloc | apply pw_below_drewN | apply below_drew1 | refine below_set ?_ GE190.out | refine below_set ?_ GE192.out) | exact HB.out)⟩
 replace c3 := Bool.eq_false_iff.mpr c3
 subst c3
 have H1 : (some (0, 0, ([] : List Int), false)) = some (r1, r2, r3, r4) := by rw [if_neg (show ¬ (false = true) by decide)] at H; exact H
 clear H; have H := H1; clear H1
 simp only [Option.some.injEq, Prod.mk.injEq] at H
 obtain ⟨rfl, rfl, rfl, rfl⟩ := H
 go_enter Try.func33, Try.ntmps33
 go_wp2_with (first | ((with_reducible refine gate_dst (N := 2) rfl ?_); refine box_event ?hg (N := 2) ?hd (cs := #[.int .i64 0, .int .i64 0, .slice none 0 0]) (t := 26) ?hr ?_; (case hd => rfl); (case hg => rfl); (case hr => first | (go_simp; done) | (go_simp; rfl)); intro gb190 hg w53 hbox hb; have n0_ := Aside0.mk (below_step (sW_ HB.out) hb); have n1_ := Aside0.mk (hbox); have n2_ := Aside0.mk ((by rw [hg]; exact (below_size (sW_ HB.out)) : w.heap.size ≤ gb190)); have n3_ := n2_; clear HB; have HB := n0_; have BK190 := n1_; have GW190 := n2_; have GE190 := n3_; clear n0_ n1_ n2_ n3_; clear hb hbox hg) | ((with_reducible refine gate_callee (f := 86) rfl ?_); refine goesL_ (some 15) rfl rfl Try.func86 (by kernel_rfl) rfl #[.int .i64 a0, .int .i64 1, .int .i64 16] rfl sL_ ?_; (with_reducible refine (spec_l1In.calls a0 1 16 false _ A2.out).mono ?_); rintro e w' ⟨rfl, ⟨nd, rfl⟩⟩; refine ⟨_, rfl, ?_⟩; (try (rw [drewN_self w53]; generalize hq_ : World.drewN w53 _ = w53; have n0_ : Aside0 (w53.heap[gb190]? = some (.cells #[.int .i64 0, .int .i64 0, .slice none 0 0] 26 (0, 0))) := ⟨by rw [← hq_]; exact (sB_ BK190.out)⟩; have n1_ : Aside0 (Below w.heap.size w w53) := ⟨by rw [← hq_]; exact (sW_ HB.out)⟩; clear BK190 HB hq_; have BK190 := n0_; have HB := n1_; clear n0_ n1_)); obtain ⟨hcz54_0, hcz54_1, hcz54_2, hfz54_0, hfz54_1, hfz54_2⟩ := sZ_ BK190.out))
 refine bodyPost_ret (results_ct rfl _ _ gb190 26 #[.int .i64 0, .int .i64 0, .slice none 0 0] (0, 0) _ rfl (by refine sB_ ?_; refine blk_put (cs := #[.int .i64 0, .int .i64 0, .slice none 0 0]) ?_ 2 _ rfl; refine sB_ ?_; refine blk_put (cs := #[.int .i64 0, .int .i64 0, .slice none 0 0]) ?_ 1 _ rfl; refine sB_ ?_; refine blk_put (cs := #[.int .i64 0, .int .i64 0, .slice none 0 0]) ?_ 0 _ rfl; refine sB_ ?_; exact BK190.out) Try.underlying26 rfl (by kernel_rfl)) rfl ?_
 exact ⟨_, by first | rfl | (simp [errW_none, errW_some] <;> rfl) | (simp [*, errW_none, errW_some] <;> rfl), by first | exact Kd.R_nil _ _ _ _ _ | exact Kd.N_nil _ _ _ _ _ | exact Kd.V_nil _ _ _ _ _ | exact Kd.Q_nil _ _ _ _ _ | exact Kd.S_nil _ _ _ _ _, by repeat (first | (with_reducible first | exact HB.out | apply below_alloc | apply pw_below_drewN | apply below_drew1 | refine below_set ?_ GE190.out) | exact HB.out)⟩

end Go.Proofs.Ytdlehfnlibddcaa.P
