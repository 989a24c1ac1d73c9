-- Written by tools/seatprint.py (over the kit's print, changed in memory). Not trusted: Lean checks it.
import Derived.Test.YtndnklicfibkeaaP0
import Derived.Test.YtndnklicfibkeaaFspecl2Mod
namespace Go.Proofs.Ytndnklicfibkeaa.P
open Go.RowKit Go.Proofs.YtndnklicfibkeaaW.PrintWords Go.Proofs.YtndnklicfibkeaaW.PrintLast Go.Proofs.YtndnklicfibkeaaW.PrintMore
attribute [local go_sem] max2_int min2_int max_two min_two max_three min_three max_four min_four   -- for this text's walks alone
set_option linter.unusedVariables false
set_option linter.unusedSimpArgs false

/-! ### spec_l4Shares: function 62 -/
def spec_l4Shares.l0 : Nat → Int → Int → List Int → Int → List (S68) → Int → Int → Option (List Int)
  | 0, _, _, _, _, _, _, _ => none
  | k + 1, x1, x2, x7, x8, x15, x16, x17 => if x17 < x16 then (if 0 ≤ x17 then (if x17 < (x15.length : Int) then ((spec_l2Mod.f (wrap64 (x2 * ((rd_T68 x15 x17).f2))) x1).bind fun t570 => (if x1 = 0 then (none) else (if x7.length < 17592186044416 then (spec_l4Shares.l0 k x1 x2 (x7 ++ [wrap64 (Int.tdiv (wrap64 ((wrap64 (x2 * ((rd_T68 x15 x17).f2))) - t570)) x1)]) (wrap64 (x8 - (wrap64 (Int.tdiv (wrap64 ((wrap64 (x2 * ((rd_T68 x15 x17).f2))) - t570)) x1)))) x15 x16 (wrap64 (x17 + 1))) else (none)))) else (none)) else (none)) else (if 0 < (x7.length : Int) then (some (x7.set (0 : Int).toNat (wrap64 ((rd x7 0) + x8)))) else (none))
def spec_l4Shares.f (k : Nat) (l0 : List (S68)) (a1 : Int) (a2 : Int) : Option (List Int) := spec_l4Shares.l0 k a1 a2 (([] : List Int)) a2 l0 (l0.length : Int) 0
theorem spec_l4Shares.mono_l : ∀ k, (∀ y0 y1 y2 y3 y4 y5 y6, LeO (spec_l4Shares.l0 k y0 y1 y2 y3 y4 y5 y6) (spec_l4Shares.l0 (k + 1) y0 y1 y2 y3 y4 y5 y6))
  | 0 => fun _ _ _ _ _ _ _ r h => by simp [spec_l4Shares.l0] at h
  | k + 1 => by
    have ih0 := spec_l4Shares.mono_l k
    · intro y0 y1 y2 y3 y4 y5 y6
      unfold spec_l4Shares.l0
      repeat' first
      | (with_reducible exact ih0 _ _ _ _ _ _ _)
      | (with_reducible exact LeO.refl _)
      | (with_reducible exact LeO.none _)
      | (with_reducible refine LeO.ite ?_ ?_)
      | (with_reducible refine LeO.bind ?_ (fun _ => ?_))
      | exact ih0 _ _ _ _ _ _ _
      | exact LeO.none _
      | refine LeO.ite ?_ ?_
      | refine LeO.bind ?_ (fun _ => ?_)
theorem spec_l4Shares.mono : ∀ a0 a1 a2 k, LeO (spec_l4Shares.f k a0 a1 a2) (spec_l4Shares.f (k + 1) a0 a1 a2) := by
  intro a0 a1 a2 k
  have ih0 := spec_l4Shares.mono_l k
  unfold spec_l4Shares.f
  repeat' first
      | (with_reducible exact ih0 _ _ _ _ _ _ _)
      | (with_reducible exact LeO.refl _)
      | (with_reducible exact LeO.none _)
      | (with_reducible refine LeO.ite ?_ ?_)
      | (with_reducible refine LeO.bind ?_ (fun _ => ?_))
      | exact ih0 _ _ _ _ _ _ _
      | exact LeO.none _
      | refine LeO.ite ?_ ?_
      | refine LeO.bind ?_ (fun _ => ?_)
set_option maxHeartbeats 8000000 in
set_option maxRecDepth 100000 in
theorem spec_l4Shares.calls (k : Nat) (A0 : Option Addr) (c0 : Nat) (l0 : List (S68)) (a1 : Int) (a2 : Int) (r : List Int) (w : World) (hr0 : Kd.C k68 w A0 l0.length l0) (hc0 : l0.length ≤ c0) (h : spec_l4Shares.f k l0 a1 a2 = some r) :
  Calls Try.prog 62 #[.slice A0 l0.length c0, .int .i64 a1, .int .i64 a2] w fun e w' => ∃ v0_ : Value, e = .returned (v0_) ∧ Kd.R (Kd.int .i64) 3 w' w.heap.size (fun _ => True) v0_ r ∧ Below w.heap.size w w' := by
 have hu68 := Try.underlying68
 have HR0 := Aside0.mk hr0
 have HC0 := Aside0.mk hc0
 clear hr0 hc0
 have HB := Aside0.mk (Below.refl w.heap.size w)
 have H : (spec_l4Shares.l0 k a1 a2 (([] : List Int)) a2 l0 (l0.length : Int) 0) = some r := h
 clear h
 obtain ⟨y565, hy565⟩ : ∃ y_ : List Int, y_ = (([] : List Int)) := ⟨_, rfl⟩
 replace H : (spec_l4Shares.l0 k a1 a2 y565 a2 l0 (l0.length : Int) 0) = some r := by first | (rw [hy565]; with_reducible exact H) | (have H2_ := (Option.bind_some _ _).symm.trans H; rw [hy565]; with_reducible exact H2_) | (have H2_ := (Option.bind_some _ _).symm.trans H; with_reducible exact H2_) | with_reducible exact H | (rw [hy565]; exact H) | exact H
 have Ny565 := Aside0.mk hy565
 clear hy565
 have H' := Aside0.mk H
 clear H
 go_enter Try.func62, Try.ntmps62
 go_wp2_with (first | ((with_reducible refine gate_dst (N := 13) rfl ?_); refine Kd.R_lit (Kd.int .i64) _ 3 ?hg (N := 13) ?hd (xs := ([] : List Int)) (inner := []) (ok := fun _ => True) (okp := fun _ => True) ?hr ?hp (fun _ hk => hk) trivial (Below.refl _ _) (Nat.le_refl _) (by simp) ?_; (case hd => rfl); (case hg => rfl); (case hr => first | (go_simp; done) | (go_simp; rfl)); (case hp => exact (Reps.none _ _)); intro v566 w4 ho5 hb hg_ hnew_; clear hg_ hnew_; (first | rw [← Ny565.out] at ho5 | (simp only [Int.reduceToNat] at ho5; rw [← Ny565.out] at ho5)); have n0_ := Aside0.mk (Kd.R_lower ho5 (below_size (sW_ HB.out))); have n1_ := Aside0.mk (below_step (sW_ HB.out) hb); clear HB; have HO567 := n0_; have HB := n1_; clear n0_ n1_; clear hb ho5))
 go_loopg [7, 8, 17] k (fun kq v7 v8 v17 w' => ∃ (x7_1 : List Int) (x8_1 : Int) (x17_1 : Int), v8 = .int .i64 x8_1 ∧ v17 = .int .i64 x17_1 ∧ Aside0 (spec_l4Shares.l0 kq a1 a2 x7_1 x8_1 l0 (l0.length : Int) x17_1 = some r) ∧ Aside0 (kq ≤ k) ∧ Aside0 (Kd.R (Kd.int .i64) 3 w' w.heap.size (fun _ => True) v7 x7_1) ∧ Aside0 (Below w.heap.size w w'))
 case atStart => exact ⟨(y565), (a2), (0), (by first | rfl | (simp; done) | (simp [*]; done)), (by first | rfl | (simp; done) | (simp [*]; done)), H', ⟨Nat.le_refl _⟩, ⟨by (with_reducible repeat (first | apply Kd.R_alloc | apply Kd.R_drewN | apply Kd.R_drew)); exact HO567.out⟩, ⟨by repeat (first | (with_reducible first | exact HB.out | apply below_alloc | apply pw_below_drewN | apply below_drew1) | exact HB.out)⟩⟩
 case round =>
  clear H'
  try clear p2
  obtain ⟨x7_1, x8_1, x17_1, rfl, rfl, HA, HK1, HO_7, HB⟩ := hrel
  cases gk with
  | zero => exact absurd HA.out (by simp [spec_l4Shares.l0])
  | succ k1 =>
   have H := HA.out; clear HA
   simp only [spec_l4Shares.l0] at H
   by_cases c6 : x17_1 < (l0.length : Int)
   ·rw [if_pos c6] at H
    have c6b0 : decide (x17_1 < (l0.length : Int)) = true := decide_eq_true c6
    clear c6
    by_cases c7 : 0 ≤ x17_1
    ·rw [if_pos c7] at H
     have c7b0 : decide (0 ≤ x17_1) = true := decide_eq_true c7
     clear c7
     by_cases c8 : x17_1 < (l0.length : Int)
     ·rw [if_pos c8] at H
      have c8b0 : decide (x17_1 < (l0.length : Int)) = true := decide_eq_true c8
      clear c8
      replace H := Option.bind_eq_some_iff.mp H
      obtain ⟨t570, A90, H⟩ := H
      replace H : (if a1 = 0 then (none) else (if x7_1.length < 17592186044416 then (spec_l4Shares.l0 k1 a1 a2 (x7_1 ++ [wrap64 (Int.tdiv (wrap64 ((wrap64 (a2 * ((rd_T68 l0 x17_1).f2))) - t570)) a1)]) (wrap64 (x8_1 - (wrap64 (Int.tdiv (wrap64 ((wrap64 (a2 * ((rd_T68 l0 x17_1).f2))) - t570)) a1)))) l0 (l0.length : Int) (wrap64 (x17_1 + 1))) else (none))) = some r := H
      have A9 := Aside0.mk A90
      clear A90
      by_cases c10 : a1 = 0
      ·rw [if_pos c10] at H
       exact absurd H (by simp)
      rw [if_neg c10] at H
      have c10b0 : (a1 == 0) = false := beq_eq_false_iff_ne.mpr c10
      have c10b1 : (a1 != 0) = true := bne_iff_ne.mpr c10
      by_cases c11 : x7_1.length < 17592186044416
      ·rw [if_pos c11] at H
       have LMc11 := Aside0.mk c11
       clear c11
       obtain ⟨y571, hy571⟩ : ∃ y_ : List Int, y_ = (x7_1 ++ [wrap64 (Int.tdiv (wrap64 ((wrap64 (a2 * ((rd_T68 l0 x17_1).f2))) - t570)) a1)]) := ⟨_, rfl⟩
       replace H : (spec_l4Shares.l0 k1 a1 a2 y571 (wrap64 (x8_1 - (wrap64 (Int.tdiv (wrap64 ((wrap64 (a2 * ((rd_T68 l0 x17_1).f2))) - t570)) a1)))) l0 (l0.length : Int) (wrap64 (x17_1 + 1))) = some r := by first | (rw [hy571]; with_reducible exact H) | (have H2_ := (Option.bind_some _ _).symm.trans H; rw [hy571]; with_reducible exact H2_) | (have H2_ := (Option.bind_some _ _).symm.trans H; with_reducible exact H2_) | with_reducible exact H | (rw [hy571]; exact H) | exact H
       have Ny571 := Aside0.mk hy571
       clear hy571
       have H' := Aside0.mk H
       clear H
       have p568 : 0 ≤ (x17_1 : Int) := of_decide_eq_true (by first | (with_reducible assumption) | assumption)
       have q568 : x17_1 < (l0.length : Int) := of_decide_eq_true (by first | (with_reducible assumption) | assumption)
       obtain ⟨ad568, e568, hx568_0, hx568_1, hx568_2⟩ := at_T68 HR0.out x17_1 p568 q568
       cases e568
       replace hx568_0 := (HB.out.cell (World.block_lt_of_cell? w _ hx568_0)).trans hx568_0
       replace hx568_1 := (HB.out.cell (World.block_lt_of_cell? w _ hx568_1)).trans hx568_1
       replace hx568_2 := (HB.out.cell (World.block_lt_of_cell? w _ hx568_2)).trans hx568_2
       replace p568 := eq_true p568
       replace q568 := eq_true q568
       go_wp2_with (first | ((with_reducible refine gate_dst (N := 10) rfl ?_); refine box_event ?hg (N := 10) ?hd (cs := #[.int .i64 0, .int .i64 0, .int .i64 0]) (t := 68) ?hr ?_; (case hd => rfl); (case hg => rfl); (case hr => first | (go_simp; done) | (go_simp; rfl)); intro gb569 hg w12 hbox hb; have n0_ := Aside0.mk (Kd.R_below (sR_ HO_7.out) hb); have n1_ := Aside0.mk (below_step (sW_ HB.out) hb); have n2_ := Aside0.mk (hbox); have n3_ := Aside0.mk ((by rw [hg]; exact (below_size (sW_ HB.out)) : w.heap.size ≤ gb569)); have n4_ := n3_; clear HO_7 HB; have HO_7 := n0_; have HB := n1_; have BK569 := n2_; have GW569 := n3_; have GE569 := n4_; clear n0_ n1_ n2_ n3_ n4_; clear hb hbox hg; obtain ⟨hcz13_0, hcz13_1, hcz13_2, hfz13_0, hfz13_1, hfz13_2⟩ := sZ_ BK569.out) | ((with_reducible refine gate_callee (f := 70) rfl ?_); refine goesL_ (some 28) rfl rfl Try.func70 (by kernel_rfl) rfl #[.int .i64 (wrap64 (a2 * ((rd_T68 l0 x17_1).f2))), .int .i64 a1] rfl sL_ ?_; (with_reducible refine (spec_l2Mod.calls (wrap64 (a2 * ((rd_T68 l0 x17_1).f2))) a1 t570 _ A9.out).mono ?_); rintro e w' ⟨rfl, ⟨nd, rfl⟩⟩; refine ⟨_, rfl, ?_⟩) | ((with_reducible refine gate_builtin (b := .append) (xs := #[.tmp 32, .tmp 34]) rfl ?_); at_builtin; refine Kd.R_append (Kd.int .i64) (w0 := w) w.heap.size rfl (.tmp 32) (.tmp 34) 25 3 (.int .i64 0) 8 rfl Try.underlying25 info3 rfl (by decide) (by omega) u7 x7_1 (wrap64 (Int.tdiv (wrap64 ((wrap64 (a2 * ((rd_T68 l0 x17_1).f2))) - t570)) a1)) [.int .i64 (wrap64 (Int.tdiv (wrap64 ((wrap64 (a2 * ((rd_T68 l0 x17_1).f2))) - t570)) a1))] (fun _ => True) (fun _ => False) rfl (by first | (go_simp; done) | (go_simp; rfl)) ?aP (fun _ hk => hk.elim) ?aF ?aO ?aB ?aS ?aL ?_; (case aP => exact rfl); (case aB => exact (sW_ HB.out)); (case aF => exact (fun _ _ => trivial)); (case aO => exact (by (with_reducible repeat (first | apply Kd.R_alloc | apply Kd.R_drewN | apply Kd.R_drew)); exact Kd.R_mono (Kd.R_far (p := ⟨gb569, 2, none⟩) (Kd.R_far (p := ⟨gb569, 1, none⟩) (Kd.R_far (p := ⟨gb569, 0, none⟩) (Kd.R_types HO_7.out BK569.out (by decide)) (fun _ hk => hk.2) (.int .i64 ((rd_T68 l0 x17_1).f0))) (fun _ hk => hk.2) (.int .i64 ((rd_T68 l0 x17_1).f1))) (fun _ hk => hk.2) (.int .i64 ((rd_T68 l0 x17_1).f2))) (fun _ hk => trivial))); (case aS => exact (below_size (sW_ HB.out))); (case aL => have := LMc11.out; omega); intro v572 w14 ho hb hg hat; rw [← Ny571.out] at ho; have n0_ := Aside0.mk (blk_grown (g := gb569) (o := .cells #[.int .i64 ((rd_T68 l0 x17_1).f0), .int .i64 ((rd_T68 l0 x17_1).f1), .int .i64 ((rd_T68 l0 x17_1).f2)] 68 (0, 0)) (by refine sB_ ?_; refine blk_put (cs := #[.int .i64 ((rd_T68 l0 x17_1).f0), .int .i64 ((rd_T68 l0 x17_1).f1), .int .i64 0]) ?_ 2 _ rfl; refine sB_ ?_; refine blk_put (cs := #[.int .i64 ((rd_T68 l0 x17_1).f0), .int .i64 0, .int .i64 0]) ?_ 1 _ rfl; refine sB_ ?_; refine blk_put (cs := #[.int .i64 0, .int .i64 0, .int .i64 0]) ?_ 0 _ rfl; refine sB_ ?_; exact BK569.out) hg (Kd.R_ne HO_7.out BK569.out (by decide))); have n1_ := Aside0.mk (hb); have n2_ := Aside0.mk (ho); clear BK569 HB HO_7; have BK569 := n0_; have HB := n1_; have HO573 := n2_; clear n0_ n1_ n2_; clear ho hb hg hat))
       go_roundg k1
       case measure => have := HK1.out; omega
       case rel => exact ⟨(y571), (wrap64 (x8_1 - (wrap64 (Int.tdiv (wrap64 ((wrap64 (a2 * ((rd_T68 l0 x17_1).f2))) - t570)) a1)))), (wrap64 (x17_1 + 1)), (by first | rfl | (simp; done) | (simp [*]; done)), (by first | rfl | (simp; done) | (simp [*]; done)), H', ⟨by have := HK1.out; omega⟩, ⟨by (with_reducible repeat (first | apply Kd.R_alloc | apply Kd.R_drewN | apply Kd.R_drew)); exact HO573.out⟩, ⟨by repeat (first | (with_reducible first | exact HB.out | apply below_alloc | apply pw_below_drewN | apply below_drew1 | refine below_set ?_ GE569.out) | exact HB.out)⟩⟩
      rw [if_neg c11] at H
      exact absurd H (by simp)
     rw [if_neg c8] at H
     exact absurd H (by simp)
    rw [if_neg c7] at H
    exact absurd H (by simp)
   rw [if_neg c6] at H
   have c6b0 : decide (x17_1 < (l0.length : Int)) = false := decide_eq_false c6
   clear c6
   by_cases c15 : 0 < (x7_1.length : Int)
   ·rw [if_pos c15] at H
    have c15b0 : decide (0 < (x7_1.length : Int)) = true := decide_eq_true c15
    have c15b1 : decide (0 < x7_1.length) = true := decide_eq_true (by omega)
    clear c15
    obtain ⟨y575, hy575⟩ : ∃ y_ : List Int, y_ = (x7_1.set (0 : Int).toNat (wrap64 ((rd x7_1 0) + x8_1))) := ⟨_, rfl⟩
    replace H : (some y575) = some r := by first | (rw [hy575]; with_reducible exact H) | (have H2_ := (Option.bind_some _ _).symm.trans H; rw [hy575]; with_reducible exact H2_) | (have H2_ := (Option.bind_some _ _).symm.trans H; with_reducible exact H2_) | with_reducible exact H | (rw [hy575]; exact H) | exact H
    have Ny575 := Aside0.mk hy575
    clear hy575
    obtain rfl := Option.some.inj H
    obtain ⟨Ao17, co17, eo17⟩ := Kd.R_slice HO_7.out
    subst eo17
    have p574 : 0 ≤ (0 : Int) := (by omega)
    have q574 : 0 < (x7_1.length : Int) := of_decide_eq_true (by first | (with_reducible assumption) | assumption)
    obtain ⟨ad574, e574, hx574_0⟩ := Kd.at_int (Kd.R_reads' HO_7.out).2.2 0 p574 q574
    cases e574
    have qi574 : (0 < x7_1.length) = True := eq_true (by omega)
    (try rw [show ((0 : Int)).toNat = 0 from rfl] at hx574_0)
    (try rw [Addr.add_zero'] at hx574_0)
    replace p574 := eq_true p574
    replace q574 := eq_true q574
    have p16 : 0 ≤ (0 : Int) := (by omega)
    have q16 : (0 : Int) < ((x7_1.length : Int) : Int) := of_decide_eq_true (by first | (with_reducible assumption) | assumption)
    have qi16 : (0 < x7_1.length) = True := eq_true (by omega)
    obtain ⟨go16, co16, eo16, gb16, gl16, cl16, HG16⟩ := Kd.R_form HO_7.out (by omega)
    (first | cases eo16 | (injection eo16 with ea_ en_ ec_; (first | subst ea_ | (injection ea_ with ea_; subst ea_)); subst ec_; clear en_))
    have GB16 := Aside0.mk gb16
    have GG16 := Aside0.mk HG16
    clear gb16 gl16 HG16
    (first | simp only [add_plain] at hx574_0 | skip)
    obtain ⟨hx16_0, hf16_0⟩ := Kd.R_celln 0 HO_7.out (0 : Int) p16 q16
    (try rw [show ((0 : Int)).toNat = 0 from rfl] at hx16_0)
    (try simp only [Nat.reduceMul, Nat.zero_mul, Nat.zero_add, Nat.reduceAdd] at hx16_0)
    (try rw [show ((0 : Int)).toNat = 0 from rfl] at hf16_0)
    (try simp only [Nat.reduceMul, Nat.zero_mul, Nat.zero_add, Nat.reduceAdd] at hf16_0)
    replace p16 := eq_true p16
    replace q16 := eq_true q16
    have HP18 := Kd.R_putg HO_7.out (0 : Int) (wrap64 ((rd x7_1 0) + x8_1))
    go_wp2_with (first | ((with_reducible refine gate_store (t := 3) (p := 46) rfl ?_); refine store_event (t := 3) (p := 46) (v := ?vo_w19) (w1 := (wr.setCell ⟨go16, (0 : Int).toNat, none⟩ (.int .i64 (wrap64 ((rd x7_1 0) + x8_1))))) ?hg ?ho ?hn ?hr ?_; (case ho => rfl); (case hg => rfl); (case hn => rfl); (case hr => first | (go_simp; done) | (go_simp; rfl)); intro w19 hw; have hg : wr.grownBy w19 (some go16) := (by rw [hw]; exact HP18.2); have hp_ : Kd.R (Kd.int .i64) 3 w19 w.heap.size (fun _ => True) (.slice (some ⟨go16, 0, none⟩) x7_1.length co17) y575 := (by rw [hw, Ny575.out]; exact HP18.1); clear HP18; have n0_ := Aside0.mk (hp_); have n1_ := Aside0.mk ((by rw [hw]; exact below_set (HB.out) GB16.out : Below w.heap.size w w19)); clear HO_7 HB; have HO_7 := n0_; have HB := n1_; clear n0_ n1_; clear hg hw hp_))
    go_ret
    exact ⟨_, by first | rfl | (simp [errW_none, errW_some] <;> rfl) | (simp [*, errW_none, errW_some] <;> rfl), by (with_reducible repeat (first | apply Kd.R_alloc | apply Kd.R_drewN | apply Kd.R_drew)); exact HO_7.out, by repeat (first | (with_reducible first | exact HB.out | apply below_alloc | apply pw_below_drewN | apply below_drew1) | exact HB.out)⟩
   rw [if_neg c15] at H
   exact absurd H (by simp)

end Go.Proofs.Ytndnklicfibkeaa.P
