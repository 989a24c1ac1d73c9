-- Written by tools/seatprint.py (over the kit's print, changed in memory). Not trusted: Lean checks it.
import Derived.Test.YtdlehfnlibddcaaP0
import Derived.Test.YtdlehfnlibddcaaFimplalike
namespace Go.Proofs.Ytdlehfnlibddcaa.P
open Go.RowKit Go.Proofs.YtdlehfnlibddcaaW.PrintWords Go.Proofs.YtdlehfnlibddcaaW.PrintLast Go.Proofs.YtdlehfnlibddcaaW.PrintMore
attribute [local go_sem] max2_int min2_int max_two min_two max_three min_three max_four min_four   -- for this text's walks alone
set_option linter.unusedVariables false
set_option linter.unusedSimpArgs false

/-! ### impl_CoversPicture: function 70 -/
def impl_CoversPicture.l0 : Nat → List Int → Int → Int → Int → Int → List Int → Option (Bool)
  | 0, _, _, _, _, _, _ => none
  | k + 1, x12, x13, x14, x1086000, x1086001, x1086002 => if x14 < x13 then (if 0 ≤ x14 then (if x14 < (x12.length : Int) then (if x14 < (x1086002.length : Int) then (if (rd x12 x14) > (rd x1086002 x14) then (some false) else (impl_CoversPicture.l0 k x12 x13 (wrap64 (x14 + 1)) x1086000 x1086001 x1086002)) else (none)) else (none)) else (none)) else (some true)
def impl_CoversPicture.f (k : Nat) (a0_0 : Int) (a0_1 : Int) (l0_2 : List Int) (a1_0 : Int) (a1_1 : Int) (l1_2 : List Int) : Option (Bool) := (impl_alike.f a0_0 a0_1 l0_2 a1_0 a1_1 l1_2).bind fun t1087 => (if t1087 = true then (impl_CoversPicture.l0 k l1_2 (l1_2.length : Int) 0 a0_0 a0_1 l0_2) else (some false))
theorem impl_CoversPicture.mono_l : ∀ k, (∀ y0 y1 y2 y3 y4 y5, LeO (impl_CoversPicture.l0 k y0 y1 y2 y3 y4 y5) (impl_CoversPicture.l0 (k + 1) y0 y1 y2 y3 y4 y5))
  | 0 => fun _ _ _ _ _ _ r h => by simp [impl_CoversPicture.l0] at h
  | k + 1 => by
    have ih0 := impl_CoversPicture.mono_l k
    · intro y0 y1 y2 y3 y4 y5
      unfold impl_CoversPicture.l0
      repeat' first
      | (with_reducible exact ih0 _ _ _ _ _ _)
      | (with_reducible exact LeO.refl _)
      | (with_reducible exact LeO.none _)
      | (with_reducible refine LeO.ite ?_ ?_)
      | (with_reducible refine LeO.bind ?_ (fun _ => ?_))
      | exact ih0 _ _ _ _ _ _
      | exact LeO.none _
      | refine LeO.ite ?_ ?_
      | refine LeO.bind ?_ (fun _ => ?_)
theorem impl_CoversPicture.mono : ∀ a0 a1 a2 a3 a4 a5 k, LeO (impl_CoversPicture.f k a0 a1 a2 a3 a4 a5) (impl_CoversPicture.f (k + 1) a0 a1 a2 a3 a4 a5) := by
  intro a0 a1 a2 a3 a4 a5 k
  have ih0 := impl_CoversPicture.mono_l k
  unfold impl_CoversPicture.f
  repeat' first
      | (with_reducible exact ih0 _ _ _ _ _ _)
      | (with_reducible exact LeO.refl _)
      | (with_reducible exact LeO.none _)
      | (with_reducible refine LeO.ite ?_ ?_)
      | (with_reducible refine LeO.bind ?_ (fun _ => ?_))
      | exact ih0 _ _ _ _ _ _
      | exact LeO.none _
      | refine LeO.ite ?_ ?_
      | refine LeO.bind ?_ (fun _ => ?_)
set_option maxHeartbeats 8000000 in
set_option maxRecDepth 100000 in
theorem impl_CoversPicture.calls (k : Nat) (a0_0 : Int) (a0_1 : Int) (A0_2 : Option Addr) (c0_2 : Nat) (l0_2 : List Int) (a1_0 : Int) (a1_1 : Int) (A1_2 : Option Addr) (c1_2 : Nat) (l1_2 : List Int) (r : Bool) (w : World) (hr0_2 : Kd.C (Kd.int .i64) w A0_2 l0_2.length l0_2) (hc0_2 : l0_2.length ≤ c0_2) (hr1_2 : Kd.C (Kd.int .i64) w A1_2 l1_2.length l1_2) (hc1_2 : l1_2.length ≤ c1_2) (h : impl_CoversPicture.f k a0_0 a0_1 l0_2 a1_0 a1_1 l1_2 = some r) :
  Calls Try.prog 70 #[.agg #[.int .i64 a0_0, .int .i64 a0_1, .slice A0_2 l0_2.length c0_2], .agg #[.int .i64 a1_0, .int .i64 a1_1, .slice A1_2 l1_2.length c1_2]] w fun e w' => e = .returned (.bool r) ∧ Below w.heap.size w w' := by
 have hu41 := Try.underlying41
 have HR0_2 := Aside0.mk hr0_2
 have HC0_2 := Aside0.mk hc0_2
 clear hr0_2 hc0_2
 have HR1_2 := Aside0.mk hr1_2
 have HC1_2 := Aside0.mk hc1_2
 clear hr1_2 hc1_2
 have HB := Aside0.mk (Below.refl w.heap.size w)
 have H : ((impl_alike.f a0_0 a0_1 l0_2 a1_0 a1_1 l1_2).bind fun t1087 => (if t1087 = true then (impl_CoversPicture.l0 k l1_2 (l1_2.length : Int) 0 a0_0 a0_1 l0_2) else (some false))) = some r := h
 clear h
 replace H := Option.bind_eq_some_iff.mp H
 obtain ⟨t1087, A30, H⟩ := H
 replace H : (if t1087 = true then (impl_CoversPicture.l0 k l1_2 (l1_2.length : Int) 0 a0_0 a0_1 l0_2) else (some false)) = some r := H
 have A3 := Aside0.mk A30
 clear A30
 by_cases c4 : t1087 = true
 ·subst c4
  have H1 : (impl_CoversPicture.l0 k l1_2 (l1_2.length : Int) 0 a0_0 a0_1 l0_2) = some r := by rw [if_pos rfl] at H; exact H
  clear H; have H := H1; clear H1
  have H' := Aside0.mk H
  clear H
  go_enter Try.func70, Try.ntmps70
  go_wp2_with (first | ((with_reducible refine gate_dst (N := 2) rfl ?_); refine box_event ?hg (N := 2) ?hd (cs := #[.int .i64 a0_0, .int .i64 a0_1, .slice A0_2 l0_2.length c0_2]) (t := 41) ?hr ?_; (case hd => rfl); (case hg => rfl); (case hr => first | (go_simp; done) | (go_simp; rfl)); intro gb1085 hg w5 hbox hb; have n0_ := Aside0.mk (below_step (sW_ HB.out) hb); have n1_ := Aside0.mk (hbox); have n2_ := Aside0.mk ((by rw [hg]; exact (below_size (sW_ HB.out)) : w.heap.size ≤ gb1085)); have n3_ := n2_; clear HB; have HB := n0_; have BK1085 := n1_; have GW1085 := n2_; have GE1085 := n3_; clear n0_ n1_ n2_ n3_; clear hb hbox hg) | ((with_reducible refine gate_dst (N := 3) rfl ?_); refine box_event ?hg (N := 3) ?hd (cs := #[.int .i64 a1_0, .int .i64 a1_1, .slice A1_2 l1_2.length c1_2]) (t := 41) ?hr ?_; (case hd => rfl); (case hg => rfl); (case hr => first | (go_simp; done) | (go_simp; rfl)); intro gb1086 hg w6 hbox hb; have n0_ := Aside0.mk (blk_below (sB_ BK1085.out) hb); have n1_ := Aside0.mk (below_step (sW_ HB.out) hb); have n2_ := Aside0.mk (hbox); have n3_ := Aside0.mk ((by rw [hg]; exact (below_size (sW_ HB.out)) : w.heap.size ≤ gb1086)); have n4_ := n3_; have n5_ := Aside0.mk (sN_ hg (blk_lt (sB_ BK1085.out))); have n6_ := Aside0.mk n5_.out.symm; clear BK1085 HB; have BK1085 := n0_; have HB := n1_; have BK1086 := n2_; have GW1086 := n3_; have GE1086 := n4_; have NB1085_1086 := n5_; have NB1086_1085 := n6_; clear n0_ n1_ n2_ n3_ n4_ n5_ n6_; clear hb hbox hg; have hnb7 := NB1085_1086.out; have hnc7 := NB1086_1085.out; obtain ⟨hcz8_0, hcz8_1, hcz8_2, hfz8_0, hfz8_1, hfz8_2⟩ := sZ_ BK1085.out; obtain ⟨hcz9_0, hcz9_1, hcz9_2, hfz9_0, hfz9_1, hfz9_2⟩ := sZ_ BK1086.out) | ((with_reducible refine gate_callee (f := 118) rfl ?_); refine goesL_ (some 9) rfl rfl Try.func118 (by kernel_rfl) rfl #[.agg #[.int .i64 a0_0, .int .i64 a0_1, .slice A0_2 l0_2.length c0_2], .agg #[.int .i64 a1_0, .int .i64 a1_1, .slice A1_2 l1_2.length c1_2]] rfl sL_ ?_; (with_reducible refine (impl_alike.calls a0_0 a0_1 _ _ l0_2 a1_0 a1_1 _ _ l1_2 true _ ?side1 ?side2 ?side3 ?side4 A3.out).mono ?_); (case side1 => repeat (first | exact (Kd.C_below HR0_2.out HB.out) | (with_reducible refine Kd.C_alloc ?_ _) | (with_reducible refine Kd.C_drewN ?_ _) | (with_reducible refine Kd.C_drew ?_))); (case side2 => exact HC0_2.out); (case side3 => repeat (first | exact (Kd.C_below HR1_2.out HB.out) | (with_reducible refine Kd.C_alloc ?_ _) | (with_reducible refine Kd.C_drewN ?_ _) | (with_reducible refine Kd.C_drew ?_))); (case side4 => exact HC1_2.out); rintro e w10 ⟨rfl, hb⟩; refine ⟨_, rfl, ?_⟩; have n0_ := Aside0.mk (blk_below (sB_ BK1085.out) hb); have n1_ := Aside0.mk (blk_below (sB_ BK1086.out) hb); have n2_ := Aside0.mk (below_step (sW_ HB.out) hb); clear BK1085 BK1086 HB; have BK1085 := n0_; have BK1086 := n1_; have HB := n2_; clear n0_ n1_ n2_; (try clear hb); (try clear hb2); (try clear hk); (try clear hi); obtain ⟨hcz11_0, hcz11_1, hcz11_2, hfz11_0, hfz11_1, hfz11_2⟩ := sZ_ BK1086.out))
  go_loopg [14] k (fun kq v14 w' => ∃ (x14_1 : Int), v14 = .int .i64 x14_1 ∧ Aside0 (impl_CoversPicture.l0 kq l1_2 (l1_2.length : Int) x14_1 a0_0 a0_1 l0_2 = some r) ∧ Aside0 (kq ≤ k) ∧ Aside0 (w'.heap[gb1085]? = some (.cells #[.int .i64 a0_0, .int .i64 a0_1, (.slice A0_2 l0_2.length c0_2)] 41 (0, 0))) ∧ Aside0 (w'.heap[gb1086]? = some (.cells #[.int .i64 a1_0, .int .i64 a1_1, (.slice A1_2 l1_2.length c1_2)] 41 (0, 0))) ∧ Aside0 (Below w.heap.size w w'))
  case atStart => exact ⟨(0), (by first | rfl | (simp; done) | (simp [*]; done)), H', ⟨Nat.le_refl _⟩, ⟨by refine sB_ ?_; exact BK1085.out⟩, ⟨by refine sB_ ?_; exact BK1086.out⟩, ⟨by repeat (first | (with_reducible first | exact HB.out | apply below_alloc | apply pw_below_drewN | apply below_drew1 | refine below_set ?_ GE1085.out | refine below_set ?_ GE1086.out) | exact HB.out)⟩⟩
  case round =>
   clear H'
   try clear c1
   try clear p2
   try clear c4
   try clear c7
   try clear c11
   try clear hcz11_0
   try clear hcz11_1
   try clear hcz11_2
   try clear hcz8_0
   try clear hcz8_1
   try clear hcz8_2
   try clear hcz9_0
   try clear hcz9_1
   try clear hcz9_2
   try clear hfz11_0
   try clear hfz11_1
   try clear hfz11_2
   try clear hfz8_0
   try clear hfz8_1
   try clear hfz8_2
   try clear hfz9_0
   try clear hfz9_1
   try clear hfz9_2
   obtain ⟨x14_1, rfl, HA, HK1, BK1085, BK1086, HB⟩ := hrel
   cases gk with
   | zero => exact absurd HA.out (by simp [impl_CoversPicture.l0])
   | succ k1 =>
    have H := HA.out; clear HA
    simp only [impl_CoversPicture.l0] at H
    by_cases c12 : x14_1 < (l1_2.length : Int)
    ·rw [if_pos c12] at H
     have c12b0 : decide (x14_1 < (l1_2.length : Int)) = true := decide_eq_true c12
     clear c12
     by_cases c13 : 0 ≤ x14_1
     ·rw [if_pos c13] at H
      have c13b0 : decide (0 ≤ x14_1) = true := decide_eq_true c13
      clear c13
      by_cases c14 : x14_1 < (l1_2.length : Int)
      ·rw [if_pos c14] at H
       have c14b0 : decide (x14_1 < (l1_2.length : Int)) = true := decide_eq_true c14
       clear c14
       by_cases c15 : x14_1 < (l0_2.length : Int)
       ·rw [if_pos c15] at H
        have c15b0 : decide (x14_1 < (l0_2.length : Int)) = true := decide_eq_true c15
        clear c15
        by_cases c16 : (rd l1_2 x14_1) > (rd l0_2 x14_1)
        ·rw [if_pos c16] at H
         have c16b0 : decide ((rd l0_2 x14_1) < (rd l1_2 x14_1)) = true := decide_eq_true c16
         clear c16
         obtain rfl := Option.some.inj H
         have p1088 : 0 ≤ (x14_1 : Int) := of_decide_eq_true (by first | (with_reducible assumption) | assumption)
         have q1088 : x14_1 < (l1_2.length : Int) := of_decide_eq_true (by first | (with_reducible assumption) | assumption)
         obtain ⟨ad1088, e1088, hx1088_0⟩ := Kd.at_int HR1_2.out x14_1 p1088 q1088
         cases e1088
         replace hx1088_0 := (HB.out.cell (World.block_lt_of_cell? w _ hx1088_0)).trans hx1088_0
         replace p1088 := eq_true p1088
         replace q1088 := eq_true q1088
         have hnb17 := NB1085_1086.out; have hnc17 := NB1086_1085.out
         obtain ⟨hcz18_0, hcz18_1, hcz18_2, hfz18_0, hfz18_1, hfz18_2⟩ := sZ_ BK1085.out
         have p1089 : 0 ≤ (x14_1 : Int) := of_decide_eq_true (by first | (with_reducible assumption) | assumption)
         have q1089 : x14_1 < (l0_2.length : Int) := of_decide_eq_true (by first | (with_reducible assumption) | assumption)
         obtain ⟨ad1089, e1089, hx1089_0⟩ := Kd.at_int HR0_2.out x14_1 p1089 q1089
         cases e1089
         replace hx1089_0 := (HB.out.cell (World.block_lt_of_cell? w _ hx1089_0)).trans hx1089_0
         replace p1089 := eq_true p1089
         replace q1089 := eq_true q1089
         go_wp2
         go_ret
         exact ⟨by first | rfl | (simp [errW_none, errW_some] <;> rfl) | (simp [*, errW_none, errW_some] <;> rfl), by repeat (first | (with_reducible first | exact HB.out | apply below_alloc | apply pw_below_drewN | apply below_drew1 | refine below_set ?_ GE1085.out | refine below_set ?_ GE1086.out) | exact HB.out)⟩
        rw [if_neg c16] at H
        have c16b0 : decide ((rd l0_2 x14_1) < (rd l1_2 x14_1)) = false := decide_eq_false c16
        clear c16
        have H' := Aside0.mk H
        clear H
        have p1088 : 0 ≤ (x14_1 : Int) := of_decide_eq_true (by first | (with_reducible assumption) | assumption)
        have q1088 : x14_1 < (l1_2.length : Int) := of_decide_eq_true (by first | (with_reducible assumption) | assumption)
        obtain ⟨ad1088, e1088, hx1088_0⟩ := Kd.at_int HR1_2.out x14_1 p1088 q1088
        cases e1088
        replace hx1088_0 := (HB.out.cell (World.block_lt_of_cell? w _ hx1088_0)).trans hx1088_0
        replace p1088 := eq_true p1088
        replace q1088 := eq_true q1088
        have hnb19 := NB1085_1086.out; have hnc19 := NB1086_1085.out
        obtain ⟨hcz20_0, hcz20_1, hcz20_2, hfz20_0, hfz20_1, hfz20_2⟩ := sZ_ BK1085.out
        have p1089 : 0 ≤ (x14_1 : Int) := of_decide_eq_true (by first | (with_reducible assumption) | assumption)
        have q1089 : x14_1 < (l0_2.length : Int) := of_decide_eq_true (by first | (with_reducible assumption) | assumption)
        obtain ⟨ad1089, e1089, hx1089_0⟩ := Kd.at_int HR0_2.out x14_1 p1089 q1089
        cases e1089
        replace hx1089_0 := (HB.out.cell (World.block_lt_of_cell? w _ hx1089_0)).trans hx1089_0
        replace p1089 := eq_true p1089
        replace q1089 := eq_true q1089
        go_wp2
        go_roundg k1
        case measure => have := HK1.out; omega
        case rel => exact ⟨(wrap64 (x14_1 + 1)), (by first | rfl | (simp; done) | (simp [*]; done)), H', ⟨by have := HK1.out; omega⟩, ⟨by refine sB_ ?_; exact BK1085.out⟩, ⟨by refine sB_ ?_; exact BK1086.out⟩, ⟨by repeat (first | (with_reducible first | exact HB.out | apply below_alloc | apply pw_below_drewN | apply below_drew1 | refine below_set ?_ GE1085.out | refine below_set ?_ GE1086.out) | exact HB.out)⟩⟩
       rw [if_neg c15] at H
       exact absurd H (by simp)
      rw [if_neg c14] at H
      exact absurd H (by simp)
     rw [if_neg c13] at H
     exact absurd H (by simp)
    rw [if_neg c12] at H
    have c12b0 : decide (x14_1 < (l1_2.length : Int)) = false := decide_eq_false c12
    clear c12
    obtain rfl := Option.some.inj H
    go_wp2
    go_ret
    exact ⟨by first | rfl | (simp [errW_none, errW_some] <;> rfl) | (simp [*, errW_none, errW_some] <;> rfl), by repeat (first | (with_reducible first | exact HB.out | apply below_alloc | apply pw_below_drewN | apply below_drew1 | refine below_set ?_ GE1085.out | refine below_set ?_ GE1086.out) | exact HB.out)⟩
 replace c4 := Bool.eq_false_iff.mpr c4
 subst c4
 have H1 : (some false) = some r := by rw [if_neg (show ¬ (false = true) by decide)] at H; exact H
 clear H; have H := H1; clear H1
 obtain rfl := Option.some.inj H
 go_enter Try.func70, Try.ntmps70
 go_wp2_with (first | ((with_reducible refine gate_dst (N := 2) rfl ?_); refine box_event ?hg (N := 2) ?hd (cs := #[.int .i64 a0_0, .int .i64 a0_1, .slice A0_2 l0_2.length c0_2]) (t := 41) ?hr ?_; (case hd => rfl); (case hg => rfl); (case hr => first | (go_simp; done) | (go_simp; rfl)); intro gb1085 hg w21 hbox hb; have n0_ := Aside0.mk (below_step (sW_ HB.out) hb); have n1_ := Aside0.mk (hbox); have n2_ := Aside0.mk ((by rw [hg]; exact (below_size (sW_ HB.out)) : w.heap.size ≤ gb1085)); have n3_ := n2_; clear HB; have HB := n0_; have BK1085 := n1_; have GW1085 := n2_; have GE1085 := n3_; clear n0_ n1_ n2_ n3_; clear hb hbox hg) | ((with_reducible refine gate_dst (N := 3) rfl ?_); refine box_event ?hg (N := 3) ?hd (cs := #[.int .i64 a1_0, .int .i64 a1_1, .slice A1_2 l1_2.length c1_2]) (t := 41) ?hr ?_; (case hd => rfl); (case hg => rfl); (case hr => first | (go_simp; done) | (go_simp; rfl)); intro gb1086 hg w22 hbox hb; have n0_ := Aside0.mk (blk_below (sB_ BK1085.out) hb); have n1_ := Aside0.mk (below_step (sW_ HB.out) hb); have n2_ := Aside0.mk (hbox); have n3_ := Aside0.mk ((by rw [hg]; exact (below_size (sW_ HB.out)) : w.heap.size ≤ gb1086)); have n4_ := n3_; have n5_ := Aside0.mk (sN_ hg (blk_lt (sB_ BK1085.out))); have n6_ := Aside0.mk n5_.out.symm; clear BK1085 HB; have BK1085 := n0_; have HB := n1_; have BK1086 := n2_; have GW1086 := n3_; have GE1086 := n4_; have NB1085_1086 := n5_; have NB1086_1085 := n6_; clear n0_ n1_ n2_ n3_ n4_ n5_ n6_; clear hb hbox hg; have hnb23 := NB1085_1086.out; have hnc23 := NB1086_1085.out; obtain ⟨hcz24_0, hcz24_1, hcz24_2, hfz24_0, hfz24_1, hfz24_2⟩ := sZ_ BK1085.out; obtain ⟨hcz25_0, hcz25_1, hcz25_2, hfz25_0, hfz25_1, hfz25_2⟩ := sZ_ BK1086.out) | ((with_reducible refine gate_callee (f := 118) rfl ?_); refine goesL_ (some 9) rfl rfl Try.func118 (by kernel_rfl) rfl #[.agg #[.int .i64 a0_0, .int .i64 a0_1, .slice A0_2 l0_2.length c0_2], .agg #[.int .i64 a1_0, .int .i64 a1_1, .slice A1_2 l1_2.length c1_2]] rfl sL_ ?_; (with_reducible refine (impl_alike.calls a0_0 a0_1 _ _ l0_2 a1_0 a1_1 _ _ l1_2 false _ ?side1 ?side2 ?side3 ?side4 A3.out).mono ?_); (case side1 => repeat (first | exact (Kd.C_below HR0_2.out HB.out) | (with_reducible refine Kd.C_alloc ?_ _) | (with_reducible refine Kd.C_drewN ?_ _) | (with_reducible refine Kd.C_drew ?_))); (case side2 => exact HC0_2.out); (case side3 => repeat (first | exact (Kd.C_below HR1_2.out HB.out) | (with_reducible refine Kd.C_alloc ?_ _) | (with_reducible refine Kd.C_drewN ?_ _) | (with_reducible refine Kd.C_drew ?_))); (case side4 => exact HC1_2.out); rintro e w26 ⟨rfl, hb⟩; refine ⟨_, rfl, ?_⟩; have n0_ := Aside0.mk (blk_below (sB_ BK1085.out) hb); have n1_ := Aside0.mk (blk_below (sB_ BK1086.out) hb); have n2_ := Aside0.mk (below_step (sW_ HB.out) hb); clear BK1085 BK1086 HB; have BK1085 := n0_; have BK1086 := n1_; have HB := n2_; clear n0_ n1_ n2_; (try clear hb); (try clear hb2); (try clear hk); (try clear hi)))
 go_ret
 exact ⟨by first | rfl | (simp [errW_none, errW_some] <;> rfl) | (simp [*, errW_none, errW_some] <;> rfl), by repeat (first | (with_reducible first | exact HB.out | apply below_alloc | apply pw_below_drewN | apply below_drew1 | refine below_set ?_ GE1085.out | refine below_set ?_ GE1086.out) | exact HB.out)⟩

end Go.Proofs.Ytdlehfnlibddcaa.P
