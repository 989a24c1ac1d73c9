-- Written by tools/seatprint.py (over the kit's print, changed in memory). Not trusted: Lean checks it.
import Derived.Test.YtndnklicfibkeaaP0
import Derived.Test.YtndnklicfibkeaaFspecl1In
namespace Go.Proofs.Ytndnklicfibkeaa.P
open Go.RowKit Go.Proofs.YtndnklicfibkeaaW.PrintWords Go.Proofs.YtndnklicfibkeaaW.PrintLast Go.Proofs.YtndnklicfibkeaaW.PrintMore
attribute [local go_sem] max2_int min2_int max_two min_two max_three min_three max_four min_four   -- for this text's walks alone
set_option linter.unusedVariables false
set_option linter.unusedSimpArgs false

/-! ### spec_IsKernel: function 53 -/
mutual
def spec_IsKernel.l0 : Nat → List (S68) → List (S68) → Int → Int → Option (Bool)
  | 0, _, _, _, _ => none
  | k + 1, x0, x11, x12, x13 => if x13 < x12 then (if 0 ≤ x13 then (if x13 < (x11.length : Int) then ((spec_l1In.f ((rd_T68 x11 x13).f0) (-4) 4).bind fun t126 => (if t126 = true then ((spec_l1In.f ((rd_T68 x11 x13).f1) 0 4).bind fun t127 => (if t127 = true then (if ((rd_T68 x11 x13).f1) = 0 then (if ((rd_T68 x11 x13).f0) < 1 then (spec_IsKernel.j1 k x0 x13 x11 x12 x13 true ((rd_T68 x11 x13).f0) ((rd_T68 x11 x13).f1) ((rd_T68 x11 x13).f2)) else ((spec_l1In.f ((rd_T68 x11 x13).f2) 1 100).bind fun t128 => (spec_IsKernel.j1 k x0 x13 x11 x12 x13 (!t128) ((rd_T68 x11 x13).f0) ((rd_T68 x11 x13).f1) ((rd_T68 x11 x13).f2)))) else ((spec_l1In.f ((rd_T68 x11 x13).f2) 1 100).bind fun t129 => (spec_IsKernel.j1 k x0 x13 x11 x12 x13 (!t129) ((rd_T68 x11 x13).f0) ((rd_T68 x11 x13).f1) ((rd_T68 x11 x13).f2)))) else (spec_IsKernel.j1 k x0 x13 x11 x12 x13 true ((rd_T68 x11 x13).f0) ((rd_T68 x11 x13).f1) ((rd_T68 x11 x13).f2)))) else (spec_IsKernel.j1 k x0 x13 x11 x12 x13 true ((rd_T68 x11 x13).f0) ((rd_T68 x11 x13).f1) ((rd_T68 x11 x13).f2)))) else (none)) else (none)) else (some true)
def spec_IsKernel.j1 : Nat → List (S68) → Int → List (S68) → Int → Int → Bool → Int → Int → Int → Option (Bool)
  | 0, _, _, _, _, _, _, _, _, _ => none
  | k + 1, x0, x3, x11, x12, x13, x43, x126000, x126001, x126002 => if x43 = true then (some false) else (if 0 ≤ x3 then (if x3 ≤ (x0.length : Int) then ((some (x0.take (x3 : Int).toNat : List (S68))).bind fun y130 => (spec_IsKernel.l1 k x0 x11 x12 x13 y130 (y130.length : Int) 0 x126000 x126001 x126002)) else (none)) else (none))
def spec_IsKernel.l1 : Nat → List (S68) → List (S68) → Int → Int → List (S68) → Int → Int → Int → Int → Int → Option (Bool)
  | 0, _, _, _, _, _, _, _, _, _, _ => none
  | k + 1, x0, x11, x12, x13, x46, x47, x48, x126000, x126001, x126002 => if x48 < x47 then (if 0 ≤ x48 then (if x48 < (x46.length : Int) then (if x126000 = ((rd_T68 x46 x48).f0) then (if x126001 = ((rd_T68 x46 x48).f1) then (some false) else (spec_IsKernel.l1 k x0 x11 x12 x13 x46 x47 (wrap64 (x48 + 1)) x126000 x126001 x126002)) else (spec_IsKernel.l1 k x0 x11 x12 x13 x46 x47 (wrap64 (x48 + 1)) x126000 x126001 x126002)) else (none)) else (none)) else (spec_IsKernel.l0 k x0 x11 x12 (wrap64 (x13 + 1)))
end
def spec_IsKernel.f (k : Nat) (l0 : List (S68)) : Option (Bool) := (spec_l1In.f (l0.length : Int) 1 12).bind fun t123 => (if t123 = true then (spec_IsKernel.l0 k l0 l0 (l0.length : Int) 0) else (some false))
theorem spec_IsKernel.mono_l : ∀ k, (∀ y0 y1 y2 y3, LeO (spec_IsKernel.l0 k y0 y1 y2 y3) (spec_IsKernel.l0 (k + 1) y0 y1 y2 y3)) ∧ (∀ y0 y1 y2 y3 y4 y5 y6 y7 y8, LeO (spec_IsKernel.j1 k y0 y1 y2 y3 y4 y5 y6 y7 y8) (spec_IsKernel.j1 (k + 1) y0 y1 y2 y3 y4 y5 y6 y7 y8)) ∧ (∀ y0 y1 y2 y3 y4 y5 y6 y7 y8 y9, LeO (spec_IsKernel.l1 k y0 y1 y2 y3 y4 y5 y6 y7 y8 y9) (spec_IsKernel.l1 (k + 1) y0 y1 y2 y3 y4 y5 y6 y7 y8 y9))
  | 0 => ⟨fun _ _ _ _ r h => by simp [spec_IsKernel.l0] at h, fun _ _ _ _ _ _ _ _ _ r h => by simp [spec_IsKernel.j1] at h, fun _ _ _ _ _ _ _ _ _ _ r h => by simp [spec_IsKernel.l1] at h⟩
  | k + 1 => by
    obtain ⟨ih0, ih1, ih2⟩ := spec_IsKernel.mono_l k
    refine ⟨?_, ?_, ?_⟩
    · intro y0 y1 y2 y3
      unfold spec_IsKernel.l0
      repeat' first
      | (with_reducible exact ih0 _ _ _ _)
      | (with_reducible exact ih1 _ _ _ _ _ _ _ _ _)
      | (with_reducible exact ih2 _ _ _ _ _ _ _ _ _ _)
      | (with_reducible exact LeO.refl _)
      | (with_reducible exact LeO.none _)
      | (with_reducible refine LeO.ite ?_ ?_)
      | (with_reducible refine LeO.bind ?_ (fun _ => ?_))
      | exact ih0 _ _ _ _
      | exact ih1 _ _ _ _ _ _ _ _ _
      | exact ih2 _ _ _ _ _ _ _ _ _ _
      | exact LeO.none _
      | refine LeO.ite ?_ ?_
      | refine LeO.bind ?_ (fun _ => ?_)
    · intro y0 y1 y2 y3 y4 y5 y6 y7 y8
      unfold spec_IsKernel.j1
      repeat' first
      | (with_reducible exact ih0 _ _ _ _)
      | (with_reducible exact ih1 _ _ _ _ _ _ _ _ _)
      | (with_reducible exact ih2 _ _ _ _ _ _ _ _ _ _)
      | (with_reducible exact LeO.refl _)
      | (with_reducible exact LeO.none _)
      | (with_reducible refine LeO.ite ?_ ?_)
      | (with_reducible refine LeO.bind ?_ (fun _ => ?_))
      | exact ih0 _ _ _ _
      | exact ih1 _ _ _ _ _ _ _ _ _
      | exact ih2 _ _ _ _ _ _ _ _ _ _
      | exact LeO.none _
      | refine LeO.ite ?_ ?_
      | refine LeO.bind ?_ (fun _ => ?_)
    · intro y0 y1 y2 y3 y4 y5 y6 y7 y8 y9
      unfold spec_IsKernel.l1
      repeat' first
      | (with_reducible exact ih0 _ _ _ _)
      | (with_reducible exact ih1 _ _ _ _ _ _ _ _ _)
      | (with_reducible exact ih2 _ _ _ _ _ _ _ _ _ _)
      | (with_reducible exact LeO.refl _)
      | (with_reducible exact LeO.none _)
      | (with_reducible refine LeO.ite ?_ ?_)
      | (with_reducible refine LeO.bind ?_ (fun _ => ?_))
      | exact ih0 _ _ _ _
      | exact ih1 _ _ _ _ _ _ _ _ _
      | exact ih2 _ _ _ _ _ _ _ _ _ _
      | exact LeO.none _
      | refine LeO.ite ?_ ?_
      | refine LeO.bind ?_ (fun _ => ?_)
theorem spec_IsKernel.mono : ∀ a0 k, LeO (spec_IsKernel.f k a0) (spec_IsKernel.f (k + 1) a0) := by
  intro a0 k
  obtain ⟨ih0, ih1, ih2⟩ := spec_IsKernel.mono_l k
  unfold spec_IsKernel.f
  repeat' first
      | (with_reducible exact ih0 _ _ _ _)
      | (with_reducible exact ih1 _ _ _ _ _ _ _ _ _)
      | (with_reducible exact ih2 _ _ _ _ _ _ _ _ _ _)
      | (with_reducible exact LeO.refl _)
      | (with_reducible exact LeO.none _)
      | (with_reducible refine LeO.ite ?_ ?_)
      | (with_reducible refine LeO.bind ?_ (fun _ => ?_))
      | exact ih0 _ _ _ _
      | exact ih1 _ _ _ _ _ _ _ _ _
      | exact ih2 _ _ _ _ _ _ _ _ _ _
      | exact LeO.none _
      | refine LeO.ite ?_ ?_
      | refine LeO.bind ?_ (fun _ => ?_)
set_option maxHeartbeats 8000000 in
set_option maxRecDepth 100000 in
theorem spec_IsKernel.calls (k : Nat) (A0 : Option Addr) (c0 : Nat) (l0 : List (S68)) (r : Bool) (w : World) (hr0 : Kd.C k68 w A0 l0.length l0) (hc0 : l0.length ≤ c0) (h : spec_IsKernel.f k l0 = some r) :
  Calls Try.prog 53 #[.slice A0 l0.length c0] w fun e w' => e = .returned (.bool r) ∧ Below w.heap.size w w' := by
 have hu68 := Try.underlying68
 have HR0 := Aside0.mk hr0
 have HC0 := Aside0.mk hc0
 clear hr0 hc0
 have HB := Aside0.mk (Below.refl w.heap.size w)
 have H : ((spec_l1In.f (l0.length : Int) 1 12).bind fun t123 => (if t123 = true then (spec_IsKernel.l0 k l0 l0 (l0.length : Int) 0) else (some false))) = some r := h
 clear h
 replace H := Option.bind_eq_some_iff.mp H
 obtain ⟨t123, A20, H⟩ := H
 replace H : (if t123 = true then (spec_IsKernel.l0 k l0 l0 (l0.length : Int) 0) else (some false)) = some r := H
 have A2 := Aside0.mk A20
 clear A20
 by_cases c3 : t123 = true
 ·subst c3
  have H1 : (spec_IsKernel.l0 k l0 l0 (l0.length : Int) 0) = some r := by rw [if_pos rfl] at H; exact H
  clear H; have H := H1; clear H1
  have H' := Aside0.mk H
  clear H
  go_enter Try.func53, Try.ntmps53
  go_wp2_with (first | ((with_reducible refine gate_callee (f := 63) rfl ?_); refine goesL_ (some 9) rfl rfl Try.func63 (by kernel_rfl) rfl #[.int .i64 (l0.length : Int), .int .i64 1, .int .i64 12] rfl sL_ ?_; (with_reducible refine (spec_l1In.calls (l0.length : Int) 1 12 true _ A2.out).mono ?_); rintro e w' ⟨rfl, ⟨nd, rfl⟩⟩; refine ⟨_, rfl, ?_⟩))
  go_loopg [13] k (fun kq v13 w' => ∃ (x13_1 : Int), v13 = .int .i64 x13_1 ∧ Aside0 (spec_IsKernel.l0 kq l0 l0 (l0.length : Int) x13_1 = some r) ∧ Aside0 (kq ≤ k) ∧ Aside0 (Below w.heap.size w w'))
  case atStart => exact ⟨(0), (by first | rfl | (simp; done) | (simp [*]; done)), H', ⟨Nat.le_refl _⟩, ⟨by repeat (first | (with_reducible first | exact HB.out | apply below_alloc | apply pw_below_drewN | apply below_drew1) | exact HB.out)⟩⟩
  case round =>
   clear H'
   try clear p2
   try clear c3
   obtain ⟨x13_1, rfl, HA, HK1, HB⟩ := hrel
   cases gk with
   | zero => exact absurd HA.out (by simp [spec_IsKernel.l0])
   | succ k1 =>
    have H := HA.out; clear HA
    simp only [spec_IsKernel.l0] at H
    by_cases c4 : x13_1 < (l0.length : Int)
    ·rw [if_pos c4] at H
     have c4b0 : decide (x13_1 < (l0.length : Int)) = true := decide_eq_true c4
     clear c4
     by_cases c5 : 0 ≤ x13_1
     ·rw [if_pos c5] at H
      have c5b0 : decide (0 ≤ x13_1) = true := decide_eq_true c5
      clear c5
      by_cases c6 : x13_1 < (l0.length : Int)
      ·rw [if_pos c6] at H
       have c6b0 : decide (x13_1 < (l0.length : Int)) = true := decide_eq_true c6
       clear c6
       have HC7 := Aside0.mk H
       clear H
       have p124 : 0 ≤ (x13_1 : Int) := of_decide_eq_true (by first | (with_reducible assumption) | assumption)
       have q124 : x13_1 < (l0.length : Int) := of_decide_eq_true (by first | (with_reducible assumption) | assumption)
       obtain ⟨ad124, e124, hx124_0, hx124_1, hx124_2⟩ := at_T68 HR0.out x13_1 p124 q124
       cases e124
       replace hx124_0 := (HB.out.cell (World.block_lt_of_cell? w _ hx124_0)).trans hx124_0
       replace hx124_1 := (HB.out.cell (World.block_lt_of_cell? w _ hx124_1)).trans hx124_1
       replace hx124_2 := (HB.out.cell (World.block_lt_of_cell? w _ hx124_2)).trans hx124_2
       replace p124 := eq_true p124
       replace q124 := eq_true q124
       go_upto_region 6 with (first | ((with_reducible refine gate_dst (N := 4) rfl ?_); refine box_event ?hg (N := 4) ?hd (cs := #[.int .i64 0, .int .i64 0, .int .i64 0]) (t := 68) ?hr ?_; (case hd => rfl); (case hg => rfl); (case hr => first | (go_simp; done) | (go_simp; rfl)); intro gb125 hg w8 hbox hb; have n0_ := Aside0.mk (below_step (sW_ HB.out) hb); have n1_ := Aside0.mk (hbox); have n2_ := Aside0.mk ((by rw [hg]; exact (below_size (sW_ HB.out)) : w.heap.size ≤ gb125)); have n3_ := n2_; clear HB; have HB := n0_; have BK125 := n1_; have GW125 := n2_; have GE125 := n3_; clear n0_ n1_ n2_ n3_; clear hb hbox hg; obtain ⟨hcz9_0, hcz9_1, hcz9_2, hfz9_0, hfz9_1, hfz9_2⟩ := sZ_ BK125.out))
       (try simp only [Act.put, List.setIfInBounds_toArray, List.set_cons_zero, List.set_cons_succ])
       go_cut [43] (fun v43 wc => ∃ (kq : Nat) (x43_6 : Bool), v43 = .bool x43_6 ∧ Aside0 (spec_IsKernel.j1 kq l0 x13_1 l0 (l0.length : Int) x13_1 x43_6 ((rd_T68 l0 x13_1).f0) ((rd_T68 l0 x13_1).f1) ((rd_T68 l0 x13_1).f2) = some r) ∧ Aside0 (kq ≤ k1) ∧ Aside0 (wc.heap[gb125]? = some (.cells #[.int .i64 ((rd_T68 l0 x13_1).f0), .int .i64 ((rd_T68 l0 x13_1).f1), .int .i64 ((rd_T68 l0 x13_1).f2)] 68 (0, 0))) ∧ Aside0 (Below w.heap.size w wc))
       case first =>
        have H := HC7.out; clear HC7
        replace H := Option.bind_eq_some_iff.mp H
        obtain ⟨t126, A100, H⟩ := H
        replace H : (if t126 = true then ((spec_l1In.f ((rd_T68 l0 x13_1).f1) 0 4).bind fun t127 => (if t127 = true then (if ((rd_T68 l0 x13_1).f1) = 0 then (if ((rd_T68 l0 x13_1).f0) < 1 then (spec_IsKernel.j1 k1 l0 x13_1 l0 (l0.length : Int) x13_1 true ((rd_T68 l0 x13_1).f0) ((rd_T68 l0 x13_1).f1) ((rd_T68 l0 x13_1).f2)) else ((spec_l1In.f ((rd_T68 l0 x13_1).f2) 1 100).bind fun t128 => (spec_IsKernel.j1 k1 l0 x13_1 l0 (l0.length : Int) x13_1 (!t128) ((rd_T68 l0 x13_1).f0) ((rd_T68 l0 x13_1).f1) ((rd_T68 l0 x13_1).f2)))) else ((spec_l1In.f ((rd_T68 l0 x13_1).f2) 1 100).bind fun t129 => (spec_IsKernel.j1 k1 l0 x13_1 l0 (l0.length : Int) x13_1 (!t129) ((rd_T68 l0 x13_1).f0) ((rd_T68 l0 x13_1).f1) ((rd_T68 l0 x13_1).f2)))) else (spec_IsKernel.j1 k1 l0 x13_1 l0 (l0.length : Int) x13_1 true ((rd_T68 l0 x13_1).f0) ((rd_T68 l0 x13_1).f1) ((rd_T68 l0 x13_1).f2)))) else (spec_IsKernel.j1 k1 l0 x13_1 l0 (l0.length : Int) x13_1 true ((rd_T68 l0 x13_1).f0) ((rd_T68 l0 x13_1).f1) ((rd_T68 l0 x13_1).f2))) = some r := H
        have A10 := Aside0.mk A100
        clear A100
        by_cases c11 : t126 = true
        ·subst c11
         have H1 : ((spec_l1In.f ((rd_T68 l0 x13_1).f1) 0 4).bind fun t127 => (if t127 = true then (if ((rd_T68 l0 x13_1).f1) = 0 then (if ((rd_T68 l0 x13_1).f0) < 1 then (spec_IsKernel.j1 k1 l0 x13_1 l0 (l0.length : Int) x13_1 true ((rd_T68 l0 x13_1).f0) ((rd_T68 l0 x13_1).f1) ((rd_T68 l0 x13_1).f2)) else ((spec_l1In.f ((rd_T68 l0 x13_1).f2) 1 100).bind fun t128 => (spec_IsKernel.j1 k1 l0 x13_1 l0 (l0.length : Int) x13_1 (!t128) ((rd_T68 l0 x13_1).f0) ((rd_T68 l0 x13_1).f1) ((rd_T68 l0 x13_1).f2)))) else ((spec_l1In.f ((rd_T68 l0 x13_1).f2) 1 100).bind fun t129 => (spec_IsKernel.j1 k1 l0 x13_1 l0 (l0.length : Int) x13_1 (!t129) ((rd_T68 l0 x13_1).f0) ((rd_T68 l0 x13_1).f1) ((rd_T68 l0 x13_1).f2)))) else (spec_IsKernel.j1 k1 l0 x13_1 l0 (l0.length : Int) x13_1 true ((rd_T68 l0 x13_1).f0) ((rd_T68 l0 x13_1).f1) ((rd_T68 l0 x13_1).f2)))) = some r := by rw [if_pos rfl] at H; exact H
         clear H; have H := H1; clear H1
         replace H := Option.bind_eq_some_iff.mp H
         obtain ⟨t127, A120, H⟩ := H
         replace H : (if t127 = true then (if ((rd_T68 l0 x13_1).f1) = 0 then (if ((rd_T68 l0 x13_1).f0) < 1 then (spec_IsKernel.j1 k1 l0 x13_1 l0 (l0.length : Int) x13_1 true ((rd_T68 l0 x13_1).f0) ((rd_T68 l0 x13_1).f1) ((rd_T68 l0 x13_1).f2)) else ((spec_l1In.f ((rd_T68 l0 x13_1).f2) 1 100).bind fun t128 => (spec_IsKernel.j1 k1 l0 x13_1 l0 (l0.length : Int) x13_1 (!t128) ((rd_T68 l0 x13_1).f0) ((rd_T68 l0 x13_1).f1) ((rd_T68 l0 x13_1).f2)))) else ((spec_l1In.f ((rd_T68 l0 x13_1).f2) 1 100).bind fun t129 => (spec_IsKernel.j1 k1 l0 x13_1 l0 (l0.length : Int) x13_1 (!t129) ((rd_T68 l0 x13_1).f0) ((rd_T68 l0 x13_1).f1) ((rd_T68 l0 x13_1).f2)))) else (spec_IsKernel.j1 k1 l0 x13_1 l0 (l0.length : Int) x13_1 true ((rd_T68 l0 x13_1).f0) ((rd_T68 l0 x13_1).f1) ((rd_T68 l0 x13_1).f2))) = some r := H
         have A12 := Aside0.mk A120
         clear A120
         by_cases c13 : t127 = true
         ·subst c13
          have H1 : (if ((rd_T68 l0 x13_1).f1) = 0 then (if ((rd_T68 l0 x13_1).f0) < 1 then (spec_IsKernel.j1 k1 l0 x13_1 l0 (l0.length : Int) x13_1 true ((rd_T68 l0 x13_1).f0) ((rd_T68 l0 x13_1).f1) ((rd_T68 l0 x13_1).f2)) else ((spec_l1In.f ((rd_T68 l0 x13_1).f2) 1 100).bind fun t128 => (spec_IsKernel.j1 k1 l0 x13_1 l0 (l0.length : Int) x13_1 (!t128) ((rd_T68 l0 x13_1).f0) ((rd_T68 l0 x13_1).f1) ((rd_T68 l0 x13_1).f2)))) else ((spec_l1In.f ((rd_T68 l0 x13_1).f2) 1 100).bind fun t129 => (spec_IsKernel.j1 k1 l0 x13_1 l0 (l0.length : Int) x13_1 (!t129) ((rd_T68 l0 x13_1).f0) ((rd_T68 l0 x13_1).f1) ((rd_T68 l0 x13_1).f2)))) = some r := by rw [if_pos rfl] at H; exact H
          clear H; have H := H1; clear H1
          by_cases c14 : ((rd_T68 l0 x13_1).f1) = 0
          ·rw [if_pos c14] at H
           have c14b0 : (((rd_T68 l0 x13_1).f1) == 0) = true := beq_iff_eq.mpr c14
           have c14b1 : (((rd_T68 l0 x13_1).f1) != 0) = false := bne_eq_false_iff_eq.mpr c14
           clear c14
           (first | rw [c14b0] | (simp only [i64_w, i32_w]; rw [c14b0]) | skip)
           by_cases c15 : ((rd_T68 l0 x13_1).f0) < 1
           ·rw [if_pos c15] at H
            have c15b0 : decide (((rd_T68 l0 x13_1).f0) < 1) = true := decide_eq_true c15
            clear c15
            have H' := Aside0.mk H
            clear H
            obtain ⟨hcz16_0, hcz16_1, hcz16_2, hfz16_0, hfz16_1, hfz16_2⟩ := sZ_ BK125.out
            go_wp2_with (first | ((with_reducible refine gate_callee (f := 63) rfl ?_); refine goesL_ (some 20) rfl rfl Try.func63 (by kernel_rfl) rfl #[.int .i64 ((rd_T68 l0 x13_1).f0), .int .i64 (-4), .int .i64 4] rfl sL_ ?_; (with_reducible refine (spec_l1In.calls ((rd_T68 l0 x13_1).f0) (-4) 4 true _ A10.out).mono ?_); rintro e w' ⟨rfl, ⟨nd, rfl⟩⟩; refine ⟨_, rfl, ?_⟩) | (go_at_call 63; (with_reducible refine (spec_l1In.calls ((rd_T68 l0 x13_1).f1) 0 4 true _ A12.out).mono ?_); rintro e w' ⟨rfl, ⟨nd, rfl⟩⟩))
            go_meet
            case rel => exact ⟨_, (true), (by first | rfl | (simp; done) | (simp [*]; done)), H', ⟨by have := HK1.out; first | omega | exact Nat.le_refl _⟩, ⟨by refine sB_ ?_; refine blk_put (cs := #[.int .i64 ((rd_T68 l0 x13_1).f0), .int .i64 ((rd_T68 l0 x13_1).f1), .int .i64 0]) ?_ 2 _ rfl; refine sB_ ?_; refine blk_put (cs := #[.int .i64 ((rd_T68 l0 x13_1).f0), .int .i64 0, .int .i64 0]) ?_ 1 _ rfl; refine sB_ ?_; refine blk_put (cs := #[.int .i64 0, .int .i64 0, .int .i64 0]) ?_ 0 _ rfl; refine sB_ ?_; exact BK125.out⟩, ⟨by repeat (first | (with_reducible first | exact HB.out | apply below_alloc | apply pw_below_drewN | apply below_drew1 | refine below_set ?_ GE125.out) | exact HB.out)⟩⟩
           rw [if_neg c15] at H
           have c15b0 : decide (((rd_T68 l0 x13_1).f0) < 1) = false := decide_eq_false c15
           clear c15
           replace H := Option.bind_eq_some_iff.mp H
           obtain ⟨t128, A170, H⟩ := H
           replace H : (spec_IsKernel.j1 k1 l0 x13_1 l0 (l0.length : Int) x13_1 (!t128) ((rd_T68 l0 x13_1).f0) ((rd_T68 l0 x13_1).f1) ((rd_T68 l0 x13_1).f2)) = some r := H
           have A17 := Aside0.mk A170
           clear A170
           have H' := Aside0.mk H
           clear H
           obtain ⟨hcz18_0, hcz18_1, hcz18_2, hfz18_0, hfz18_1, hfz18_2⟩ := sZ_ BK125.out
           go_wp2_with (first | ((with_reducible refine gate_callee (f := 63) rfl ?_); refine goesL_ (some 20) rfl rfl Try.func63 (by kernel_rfl) rfl #[.int .i64 ((rd_T68 l0 x13_1).f0), .int .i64 (-4), .int .i64 4] rfl sL_ ?_; (with_reducible refine (spec_l1In.calls ((rd_T68 l0 x13_1).f0) (-4) 4 true _ A10.out).mono ?_); rintro e w' ⟨rfl, ⟨nd, rfl⟩⟩; refine ⟨_, rfl, ?_⟩) | (go_at_call 63; (with_reducible refine (spec_l1In.calls ((rd_T68 l0 x13_1).f1) 0 4 true _ A12.out).mono ?_); rintro e w' ⟨rfl, ⟨nd, rfl⟩⟩) | (go_at_call 63; (with_reducible refine (spec_l1In.calls ((rd_T68 l0 x13_1).f2) 1 100 t128 _ A17.out).mono ?_); rintro e w' ⟨rfl, ⟨nd, rfl⟩⟩))
           go_meet
           case rel => exact ⟨_, (!t128), (by first | rfl | (simp; done) | (simp [*]; done)), H', ⟨by have := HK1.out; first | omega | exact Nat.le_refl _⟩, ⟨by refine sB_ ?_; refine blk_put (cs := #[.int .i64 ((rd_T68 l0 x13_1).f0), .int .i64 ((rd_T68 l0 x13_1).f1), .int .i64 0]) ?_ 2 _ rfl; refine sB_ ?_; refine blk_put (cs := #[.int .i64 ((rd_T68 l0 x13_1).f0), .int .i64 0, .int .i64 0]) ?_ 1 _ rfl; refine sB_ ?_; refine blk_put (cs := #[.int .i64 0, .int .i64 0, .int .i64 0]) ?_ 0 _ rfl; refine sB_ ?_; exact BK125.out⟩, ⟨by repeat (first | (with_reducible first | exact HB.out | apply below_alloc | apply pw_below_drewN | apply below_drew1 | refine below_set ?_ GE125.out) | exact HB.out)⟩⟩
          rw [if_neg c14] at H
          have c14b0 : (((rd_T68 l0 x13_1).f1) == 0) = false := beq_eq_false_iff_ne.mpr c14
          have c14b1 : (((rd_T68 l0 x13_1).f1) != 0) = true := bne_iff_ne.mpr c14
          (first | rw [c14b0] | (simp only [i64_w, i32_w]; rw [c14b0]) | skip)
          replace H := Option.bind_eq_some_iff.mp H
          obtain ⟨t129, A190, H⟩ := H
          replace H : (spec_IsKernel.j1 k1 l0 x13_1 l0 (l0.length : Int) x13_1 (!t129) ((rd_T68 l0 x13_1).f0) ((rd_T68 l0 x13_1).f1) ((rd_T68 l0 x13_1).f2)) = some r := H
          have A19 := Aside0.mk A190
          clear A190
          have H' := Aside0.mk H
          clear H
          obtain ⟨hcz20_0, hcz20_1, hcz20_2, hfz20_0, hfz20_1, hfz20_2⟩ := sZ_ BK125.out
          go_wp2_with (first | ((with_reducible refine gate_callee (f := 63) rfl ?_); refine goesL_ (some 20) rfl rfl Try.func63 (by kernel_rfl) rfl #[.int .i64 ((rd_T68 l0 x13_1).f0), .int .i64 (-4), .int .i64 4] rfl sL_ ?_; (with_reducible refine (spec_l1In.calls ((rd_T68 l0 x13_1).f0) (-4) 4 true _ A10.out).mono ?_); rintro e w' ⟨rfl, ⟨nd, rfl⟩⟩; refine ⟨_, rfl, ?_⟩) | (go_at_call 63; (with_reducible refine (spec_l1In.calls ((rd_T68 l0 x13_1).f1) 0 4 true _ A12.out).mono ?_); rintro e w' ⟨rfl, ⟨nd, rfl⟩⟩) | (go_at_call 63; (with_reducible refine (spec_l1In.calls ((rd_T68 l0 x13_1).f2) 1 100 t129 _ A19.out).mono ?_); rintro e w' ⟨rfl, ⟨nd, rfl⟩⟩))
          go_meet
          case rel => exact ⟨_, (!t129), (by first | rfl | (simp; done) | (simp [*]; done)), H', ⟨by have := HK1.out; first | omega | exact Nat.le_refl _⟩, ⟨by refine sB_ ?_; refine blk_put (cs := #[.int .i64 ((rd_T68 l0 x13_1).f0), .int .i64 ((rd_T68 l0 x13_1).f1), .int .i64 0]) ?_ 2 _ rfl; refine sB_ ?_; refine blk_put (cs := #[.int .i64 ((rd_T68 l0 x13_1).f0), .int .i64 0, .int .i64 0]) ?_ 1 _ rfl; refine sB_ ?_; refine blk_put (cs := #[.int .i64 0, .int .i64 0, .int .i64 0]) ?_ 0 _ rfl; refine sB_ ?_; exact BK125.out⟩, ⟨by repeat (first | (with_reducible first | exact HB.out | apply below_alloc | apply pw_below_drewN | apply below_drew1 | refine below_set ?_ GE125.out) | exact HB.out)⟩⟩
         replace c13 := Bool.eq_false_iff.mpr c13
         subst c13
         have H1 : (spec_IsKernel.j1 k1 l0 x13_1 l0 (l0.length : Int) x13_1 true ((rd_T68 l0 x13_1).f0) ((rd_T68 l0 x13_1).f1) ((rd_T68 l0 x13_1).f2)) = some r := by rw [if_neg (show ¬ (false = true) by decide)] at H; exact H
         clear H; have H := H1; clear H1
         have H' := Aside0.mk H
         clear H
         obtain ⟨hcz21_0, hcz21_1, hcz21_2, hfz21_0, hfz21_1, hfz21_2⟩ := sZ_ BK125.out
         go_wp2_with (first | ((with_reducible refine gate_callee (f := 63) rfl ?_); refine goesL_ (some 20) rfl rfl Try.func63 (by kernel_rfl) rfl #[.int .i64 ((rd_T68 l0 x13_1).f0), .int .i64 (-4), .int .i64 4] rfl sL_ ?_; (with_reducible refine (spec_l1In.calls ((rd_T68 l0 x13_1).f0) (-4) 4 true _ A10.out).mono ?_); rintro e w' ⟨rfl, ⟨nd, rfl⟩⟩; refine ⟨_, rfl, ?_⟩) | (go_at_call 63; (with_reducible refine (spec_l1In.calls ((rd_T68 l0 x13_1).f1) 0 4 false _ A12.out).mono ?_); rintro e w' ⟨rfl, ⟨nd, rfl⟩⟩))
         go_meet
         case rel => exact ⟨_, (true), (by first | rfl | (simp; done) | (simp [*]; done)), H', ⟨by have := HK1.out; first | omega | exact Nat.le_refl _⟩, ⟨by refine sB_ ?_; refine blk_put (cs := #[.int .i64 ((rd_T68 l0 x13_1).f0), .int .i64 ((rd_T68 l0 x13_1).f1), .int .i64 0]) ?_ 2 _ rfl; refine sB_ ?_; refine blk_put (cs := #[.int .i64 ((rd_T68 l0 x13_1).f0), .int .i64 0, .int .i64 0]) ?_ 1 _ rfl; refine sB_ ?_; refine blk_put (cs := #[.int .i64 0, .int .i64 0, .int .i64 0]) ?_ 0 _ rfl; refine sB_ ?_; exact BK125.out⟩, ⟨by repeat (first | (with_reducible first | exact HB.out | apply below_alloc | apply pw_below_drewN | apply below_drew1 | refine below_set ?_ GE125.out) | exact HB.out)⟩⟩
        replace c11 := Bool.eq_false_iff.mpr c11
        subst c11
        have H1 : (spec_IsKernel.j1 k1 l0 x13_1 l0 (l0.length : Int) x13_1 true ((rd_T68 l0 x13_1).f0) ((rd_T68 l0 x13_1).f1) ((rd_T68 l0 x13_1).f2)) = some r := by rw [if_neg (show ¬ (false = true) by decide)] at H; exact H
        clear H; have H := H1; clear H1
        have H' := Aside0.mk H
        clear H
        obtain ⟨hcz22_0, hcz22_1, hcz22_2, hfz22_0, hfz22_1, hfz22_2⟩ := sZ_ BK125.out
        go_wp2_with (first | ((with_reducible refine gate_callee (f := 63) rfl ?_); refine goesL_ (some 20) rfl rfl Try.func63 (by kernel_rfl) rfl #[.int .i64 ((rd_T68 l0 x13_1).f0), .int .i64 (-4), .int .i64 4] rfl sL_ ?_; (with_reducible refine (spec_l1In.calls ((rd_T68 l0 x13_1).f0) (-4) 4 false _ A10.out).mono ?_); rintro e w' ⟨rfl, ⟨nd, rfl⟩⟩; refine ⟨_, rfl, ?_⟩))
        go_meet
        case rel => exact ⟨_, (true), (by first | rfl | (simp; done) | (simp [*]; done)), H', ⟨by have := HK1.out; first | omega | exact Nat.le_refl _⟩, ⟨by refine sB_ ?_; refine blk_put (cs := #[.int .i64 ((rd_T68 l0 x13_1).f0), .int .i64 ((rd_T68 l0 x13_1).f1), .int .i64 0]) ?_ 2 _ rfl; refine sB_ ?_; refine blk_put (cs := #[.int .i64 ((rd_T68 l0 x13_1).f0), .int .i64 0, .int .i64 0]) ?_ 1 _ rfl; refine sB_ ?_; refine blk_put (cs := #[.int .i64 0, .int .i64 0, .int .i64 0]) ?_ 0 _ rfl; refine sB_ ?_; exact BK125.out⟩, ⟨by repeat (first | (with_reducible first | exact HB.out | apply below_alloc | apply pw_below_drewN | apply below_drew1 | refine below_set ?_ GE125.out) | exact HB.out)⟩⟩
       case rest =>
        clear HC7
        try clear c1
        try clear p1
        try clear q1
        try clear hx1
        try clear p2
        try clear c3
        try clear c4
        try clear c4b0
        try clear c5
        try clear c5b0
        try clear c6
        try clear c6b0
        try clear c11
        try clear p12
        try clear q12
        try clear hx12
        try clear c13
        try clear c14
        try clear c14b0
        try clear c14b1
        try clear c15
        try clear c15b0
        try clear hcz16_0
        try clear hcz16_1
        try clear hcz16_2
        try clear hcz18_0
        try clear hcz18_1
        try clear hcz18_2
        try clear hcz20_0
        try clear hcz20_1
        try clear hcz20_2
        try clear hcz21_0
        try clear hcz21_1
        try clear hcz21_2
        try clear hcz22_0
        try clear hcz22_1
        try clear hcz22_2
        try clear hcz9_0
        try clear hcz9_1
        try clear hcz9_2
        try clear hfz16_0
        try clear hfz16_1
        try clear hfz16_2
        try clear hfz18_0
        try clear hfz18_1
        try clear hfz18_2
        try clear hfz20_0
        try clear hfz20_1
        try clear hfz20_2
        try clear hfz21_0
        try clear hfz21_1
        try clear hfz21_2
        try clear hfz22_0
        try clear hfz22_1
        try clear hfz22_2
        try clear hfz9_0
        try clear hfz9_1
        try clear hfz9_2
        try clear hx124_0
        try clear hx124_1
        try clear hx124_2
        try clear p124
        try clear p2
        try clear q124
        obtain ⟨kq, x43_6, rfl, HA, HJ6, BK125, HB⟩ := hcut
        cases kq with
        | zero => exact absurd HA.out (by simp [spec_IsKernel.j1])
        | succ kj6 =>
         have H := HA.out; clear HA
         simp only [spec_IsKernel.j1] at H
         by_cases c23 : x43_6 = true
         ·subst c23
          have H1 : (some false) = some r := by rw [if_pos rfl] at H; exact H
          clear H; have H := H1; clear H1
          obtain rfl := Option.some.inj H
          go_wp2
          go_ret
          exact ⟨by first | rfl | (simp [errW_none, errW_some] <;> rfl) | (simp [*, errW_none, errW_some] <;> rfl), by repeat (first | (with_reducible first | exact HB.out | apply below_alloc | apply pw_below_drewN | apply below_drew1 | refine below_set ?_ GE125.out) | exact HB.out)⟩
         replace c23 := Bool.eq_false_iff.mpr c23
         subst c23
         have H1 : (if 0 ≤ x13_1 then (if x13_1 ≤ (l0.length : Int) then ((some (l0.take (x13_1 : Int).toNat : List (S68))).bind fun y130 => (spec_IsKernel.l1 kj6 l0 l0 (l0.length : Int) x13_1 y130 (y130.length : Int) 0 ((rd_T68 l0 x13_1).f0) ((rd_T68 l0 x13_1).f1) ((rd_T68 l0 x13_1).f2))) else (none)) else (none)) = some r := by rw [if_neg (show ¬ (false = true) by decide)] at H; exact H
         clear H; have H := H1; clear H1
         by_cases c24 : 0 ≤ x13_1
         ·rw [if_pos c24] at H
          have c24b0 := eq_true c24
          have c24b1 : decide (0 ≤ x13_1) = true := decide_eq_true c24
          clear c24
          by_cases c25 : x13_1 ≤ (l0.length : Int)
          ·rw [if_pos c25] at H
           have c25b0 := eq_true c25
           have c25b1 : decide (x13_1 ≤ (l0.length : Int)) = true := decide_eq_true c25
           clear c25
           obtain ⟨y130, hy130⟩ : ∃ y_ : List (S68), y_ = (l0.take (x13_1 : Int).toNat) := ⟨_, rfl⟩
           replace H : (spec_IsKernel.l1 kj6 l0 l0 (l0.length : Int) x13_1 y130 (y130.length : Int) 0 ((rd_T68 l0 x13_1).f0) ((rd_T68 l0 x13_1).f1) ((rd_T68 l0 x13_1).f2)) = some r := by first | (rw [hy130]; with_reducible exact H) | (have H2_ := (Option.bind_some _ _).symm.trans H; rw [hy130]; with_reducible exact H2_) | (have H2_ := (Option.bind_some _ _).symm.trans H; with_reducible exact H2_) | with_reducible exact H | (rw [hy130]; exact H) | exact H
           have Ny130 := Aside0.mk hy130
           clear hy130
           have H' := Aside0.mk H
           clear H
           have q26 : (x13_1 : Int) ≤ ((l0.length : Int) : Int) := of_decide_eq_true (by first | (with_reducible assumption) | assumption)
           obtain ⟨i026, hi026, _, hsz26, _⟩ := info_parts info68
           have hroom26 : l0.length ≤ c0 := HC0.out
           have hC26 : Kd.C k68 _ (some ad124) l0.length l0 := HR0.out
           have hcut26 := cut_to (P := Try.prog) 23 68 .i64 Try.underlying23 hi026 (some ad124) l0.length c0 x13_1 (of_decide_eq_true (by first | (with_reducible assumption) | assumption)) q26 hroom26
           have hr26 := Kd.C_take (m := (x13_1 : Int).toNat) hC26 (by omega)
           have hy26 : y130.length = (x13_1 : Int).toNat := (by rw [Ny130.out, List.length_take]; omega)
           rw [← Ny130.out] at hr26
           rw [← hy26] at hcut26
           have HR133 := Aside0.mk hr26
           have HC133 := Aside0.mk (show y130.length ≤ c0 from by omega)
           clear hr26 hC26 hroom26 hi026 hsz26
           have KY26 := Aside0.mk hy26
           clear hy26
           replace q26 := eq_true q26
           go_wp2
           go_loopg [48] kj6 (fun kq v48 w' => ∃ (x48_3 : Int), v48 = .int .i64 x48_3 ∧ Aside0 (spec_IsKernel.l1 kq l0 l0 (l0.length : Int) x13_1 y130 (y130.length : Int) x48_3 ((rd_T68 l0 x13_1).f0) ((rd_T68 l0 x13_1).f1) ((rd_T68 l0 x13_1).f2) = some r) ∧ Aside0 (kq ≤ kj6) ∧ Aside0 (w'.heap[gb125]? = some (.cells #[.int .i64 ((rd_T68 l0 x13_1).f0), .int .i64 ((rd_T68 l0 x13_1).f1), .int .i64 ((rd_T68 l0 x13_1).f2)] 68 (0, 0))) ∧ Aside0 (Below w.heap.size w w'))
           case atStart => exact ⟨(0), (by first | rfl | (simp; done) | (simp [*]; done)), H', ⟨Nat.le_refl _⟩, ⟨by refine sB_ ?_; exact BK125.out⟩, ⟨by repeat (first | (with_reducible first | exact HB.out | apply below_alloc | apply pw_below_drewN | apply below_drew1 | refine below_set ?_ GE125.out) | exact HB.out)⟩⟩
           case round =>
            clear H'
            try clear c1
            try clear p1
            try clear q1
            try clear hx1
            try clear c2
            try clear p2
            try clear q2
            try clear c3
            try clear c4
            try clear c4b0
            try clear c5
            try clear c5b0
            try clear c6
            try clear c6b0
            try clear c11
            try clear p12
            try clear q12
            try clear hx12
            try clear c13
            try clear c14
            try clear c14b0
            try clear c14b1
            try clear c15
            try clear c15b0
            try clear c23
            try clear c24
            try clear c24b0
            try clear c24b1
            try clear c25
            try clear c25b0
            try clear c25b1
            try clear q26
            try clear hcz16_0
            try clear hcz16_1
            try clear hcz16_2
            try clear hcz18_0
            try clear hcz18_1
            try clear hcz18_2
            try clear hcz20_0
            try clear hcz20_1
            try clear hcz20_2
            try clear hcz21_0
            try clear hcz21_1
            try clear hcz21_2
            try clear hcz22_0
            try clear hcz22_1
            try clear hcz22_2
            try clear hcz9_0
            try clear hcz9_1
            try clear hcz9_2
            try clear hfz16_0
            try clear hfz16_1
            try clear hfz16_2
            try clear hfz18_0
            try clear hfz18_1
            try clear hfz18_2
            try clear hfz20_0
            try clear hfz20_1
            try clear hfz20_2
            try clear hfz21_0
            try clear hfz21_1
            try clear hfz21_2
            try clear hfz22_0
            try clear hfz22_1
            try clear hfz22_2
            try clear hfz9_0
            try clear hfz9_1
            try clear hfz9_2
            try clear hx124_0
            try clear hx124_1
            try clear hx124_2
            try clear p1
            try clear p12
            try clear p124
            try clear p2
            try clear q1
            try clear q12
            try clear q124
            try clear q26
            obtain ⟨x48_3, rfl, HA, HK3, BK125, HB⟩ := hrel
            cases gk with
            | zero => exact absurd HA.out (by simp [spec_IsKernel.l1])
            | succ k3 =>
             have H := HA.out; clear HA
             simp only [spec_IsKernel.l1] at H
             by_cases c27 : x48_3 < (y130.length : Int)
             ·rw [if_pos c27] at H
              have c27b0 : decide (x48_3 < (y130.length : Int)) = true := decide_eq_true c27
              clear c27
              by_cases c28 : 0 ≤ x48_3
              ·rw [if_pos c28] at H
               have c28b0 : decide (0 ≤ x48_3) = true := decide_eq_true c28
               clear c28
               by_cases c29 : x48_3 < (y130.length : Int)
               ·rw [if_pos c29] at H
                have c29b0 : decide (x48_3 < (y130.length : Int)) = true := decide_eq_true c29
                clear c29
                by_cases c30 : ((rd_T68 l0 x13_1).f0) = ((rd_T68 y130 x48_3).f0)
                ·rw [if_pos c30] at H
                 have c30b0 : (((rd_T68 l0 x13_1).f0) == ((rd_T68 y130 x48_3).f0)) = true := beq_iff_eq.mpr c30
                 have c30b1 : (((rd_T68 l0 x13_1).f0) != ((rd_T68 y130 x48_3).f0)) = false := bne_eq_false_iff_eq.mpr c30
                 clear c30
                 by_cases c31 : ((rd_T68 l0 x13_1).f1) = ((rd_T68 y130 x48_3).f1)
                 ·rw [if_pos c31] at H
                  have c31b0 : (((rd_T68 l0 x13_1).f1) == ((rd_T68 y130 x48_3).f1)) = true := beq_iff_eq.mpr c31
                  have c31b1 : (((rd_T68 l0 x13_1).f1) != ((rd_T68 y130 x48_3).f1)) = false := bne_eq_false_iff_eq.mpr c31
                  clear c31
                  obtain rfl := Option.some.inj H
                  have p134 : 0 ≤ (x48_3 : Int) := of_decide_eq_true (by first | (with_reducible assumption) | assumption)
                  have q134 : x48_3 < (y130.length : Int) := of_decide_eq_true (by first | (with_reducible assumption) | assumption)
                  obtain ⟨ad134, e134, hx134_0, hx134_1, hx134_2⟩ := at_T68 HR133.out x48_3 p134 q134
                  obtain rfl : ad124 = ad134 := (by injection e134)
                  replace hx134_0 := (HB.out.cell (World.block_lt_of_cell? w _ hx134_0)).trans hx134_0
                  replace hx134_1 := (HB.out.cell (World.block_lt_of_cell? w _ hx134_1)).trans hx134_1
                  replace hx134_2 := (HB.out.cell (World.block_lt_of_cell? w _ hx134_2)).trans hx134_2
                  replace p134 := eq_true p134
                  replace q134 := eq_true q134
                  go_wp2_with (first | ((with_reducible refine gate_dst (N := 6) rfl ?_); refine box_event ?hg (N := 6) ?hd (cs := #[.int .i64 0, .int .i64 0, .int .i64 0]) (t := 68) ?hr ?_; (case hd => rfl); (case hg => rfl); (case hr => first | (go_simp; done) | (go_simp; rfl)); intro gb135 hg w32 hbox hb; have n0_ := Aside0.mk (blk_below (sB_ BK125.out) hb); have n1_ := Aside0.mk (below_step (sW_ HB.out) hb); have n2_ := Aside0.mk (hbox); have n3_ := Aside0.mk ((by rw [hg]; exact (below_size (sW_ HB.out)) : w.heap.size ≤ gb135)); have n4_ := n3_; have n5_ := Aside0.mk (sN_ hg (blk_lt (sB_ BK125.out))); have n6_ := Aside0.mk n5_.out.symm; clear BK125 HB; have BK125 := n0_; have HB := n1_; have BK135 := n2_; have GW135 := n3_; have GE135 := n4_; have NB125_135 := n5_; have NB135_125 := n6_; clear n0_ n1_ n2_ n3_ n4_ n5_ n6_; clear hb hbox hg; have hnb33 := NB135_125.out; have hnc33 := NB125_135.out; obtain ⟨hcz34_0, hcz34_1, hcz34_2, hfz34_0, hfz34_1, hfz34_2⟩ := sZ_ BK135.out; have hcz35_0 : w32.cell? ⟨gb125, 0, none⟩ = some (.int .i64 ((rd_T68 l0 x13_1).f0)) := (blk_cell BK125.out 0).trans rfl; have hcz35_1 : w32.cell? ⟨gb125, 1, none⟩ = some (.int .i64 ((rd_T68 l0 x13_1).f1)) := (blk_cell BK125.out 1).trans rfl; have hcz35_2 : w32.cell? ⟨gb125, 2, none⟩ = some (.int .i64 ((rd_T68 l0 x13_1).f2)) := (blk_cell BK125.out 2).trans rfl; have hfz35_0 := blk_frozen BK125.out 0; have hfz35_1 := blk_frozen BK125.out 1; have hfz35_2 := blk_frozen BK125.out 2))
                  go_ret
                  exact ⟨by first | rfl | (simp [errW_none, errW_some] <;> rfl) | (simp [*, errW_none, errW_some] <;> rfl), by repeat (first | (with_reducible first | exact HB.out | apply below_alloc | apply pw_below_drewN | apply below_drew1 | refine below_set ?_ GE125.out | refine below_set ?_ GE135.out) | exact HB.out)⟩
                 rw [if_neg c31] at H
                 have c31b0 : (((rd_T68 l0 x13_1).f1) == ((rd_T68 y130 x48_3).f1)) = false := beq_eq_false_iff_ne.mpr c31
                 have c31b1 : (((rd_T68 l0 x13_1).f1) != ((rd_T68 y130 x48_3).f1)) = true := bne_iff_ne.mpr c31
                 have H' := Aside0.mk H
                 clear H
                 have p134 : 0 ≤ (x48_3 : Int) := of_decide_eq_true (by first | (with_reducible assumption) | assumption)
                 have q134 : x48_3 < (y130.length : Int) := of_decide_eq_true (by first | (with_reducible assumption) | assumption)
                 obtain ⟨ad134, e134, hx134_0, hx134_1, hx134_2⟩ := at_T68 HR133.out x48_3 p134 q134
                 obtain rfl : ad124 = ad134 := (by injection e134)
                 replace hx134_0 := (HB.out.cell (World.block_lt_of_cell? w _ hx134_0)).trans hx134_0
                 replace hx134_1 := (HB.out.cell (World.block_lt_of_cell? w _ hx134_1)).trans hx134_1
                 replace hx134_2 := (HB.out.cell (World.block_lt_of_cell? w _ hx134_2)).trans hx134_2
                 replace p134 := eq_true p134
                 replace q134 := eq_true q134
                 go_wp2_with (first | ((with_reducible refine gate_dst (N := 6) rfl ?_); refine box_event ?hg (N := 6) ?hd (cs := #[.int .i64 0, .int .i64 0, .int .i64 0]) (t := 68) ?hr ?_; (case hd => rfl); (case hg => rfl); (case hr => first | (go_simp; done) | (go_simp; rfl)); intro gb135 hg w36 hbox hb; have n0_ := Aside0.mk (blk_below (sB_ BK125.out) hb); have n1_ := Aside0.mk (below_step (sW_ HB.out) hb); have n2_ := Aside0.mk (hbox); have n3_ := Aside0.mk ((by rw [hg]; exact (below_size (sW_ HB.out)) : w.heap.size ≤ gb135)); have n4_ := n3_; have n5_ := Aside0.mk (sN_ hg (blk_lt (sB_ BK125.out))); have n6_ := Aside0.mk n5_.out.symm; clear BK125 HB; have BK125 := n0_; have HB := n1_; have BK135 := n2_; have GW135 := n3_; have GE135 := n4_; have NB125_135 := n5_; have NB135_125 := n6_; clear n0_ n1_ n2_ n3_ n4_ n5_ n6_; clear hb hbox hg; have hnb37 := NB135_125.out; have hnc37 := NB125_135.out; obtain ⟨hcz38_0, hcz38_1, hcz38_2, hfz38_0, hfz38_1, hfz38_2⟩ := sZ_ BK135.out; have hcz39_0 : w36.cell? ⟨gb125, 0, none⟩ = some (.int .i64 ((rd_T68 l0 x13_1).f0)) := (blk_cell BK125.out 0).trans rfl; have hcz39_1 : w36.cell? ⟨gb125, 1, none⟩ = some (.int .i64 ((rd_T68 l0 x13_1).f1)) := (blk_cell BK125.out 1).trans rfl; have hcz39_2 : w36.cell? ⟨gb125, 2, none⟩ = some (.int .i64 ((rd_T68 l0 x13_1).f2)) := (blk_cell BK125.out 2).trans rfl; have hfz39_0 := blk_frozen BK125.out 0; have hfz39_1 := blk_frozen BK125.out 1; have hfz39_2 := blk_frozen BK125.out 2))
                 go_roundg k3
                 case measure => have := HK1.out; have := HJ6.out; have := HK3.out; omega
                 case rel => exact ⟨(wrap64 (x48_3 + 1)), (by first | rfl | (simp; done) | (simp [*]; done)), H', ⟨by have := HK1.out; have := HJ6.out; have := HK3.out; omega⟩, ⟨by refine sB_ ?_; refine blk_far ?_ NB125_135.out _; refine sB_ ?_; refine blk_far ?_ NB125_135.out _; refine sB_ ?_; refine blk_far ?_ NB125_135.out _; refine sB_ ?_; exact BK125.out⟩, ⟨by repeat (first | (with_reducible first | exact HB.out | apply below_alloc | apply pw_below_drewN | apply below_drew1 | refine below_set ?_ GE125.out | refine below_set ?_ GE135.out) | exact HB.out)⟩⟩
                rw [if_neg c30] at H
                have c30b0 : (((rd_T68 l0 x13_1).f0) == ((rd_T68 y130 x48_3).f0)) = false := beq_eq_false_iff_ne.mpr c30
                have c30b1 : (((rd_T68 l0 x13_1).f0) != ((rd_T68 y130 x48_3).f0)) = true := bne_iff_ne.mpr c30
                have H' := Aside0.mk H
                clear H
                have p134 : 0 ≤ (x48_3 : Int) := of_decide_eq_true (by first | (with_reducible assumption) | assumption)
                have q134 : x48_3 < (y130.length : Int) := of_decide_eq_true (by first | (with_reducible assumption) | assumption)
                obtain ⟨ad134, e134, hx134_0, hx134_1, hx134_2⟩ := at_T68 HR133.out x48_3 p134 q134
                obtain rfl : ad124 = ad134 := (by injection e134)
                replace hx134_0 := (HB.out.cell (World.block_lt_of_cell? w _ hx134_0)).trans hx134_0
                replace hx134_1 := (HB.out.cell (World.block_lt_of_cell? w _ hx134_1)).trans hx134_1
                replace hx134_2 := (HB.out.cell (World.block_lt_of_cell? w _ hx134_2)).trans hx134_2
                replace p134 := eq_true p134
                replace q134 := eq_true q134
                go_wp2_with (first | ((with_reducible refine gate_dst (N := 6) rfl ?_); refine box_event ?hg (N := 6) ?hd (cs := #[.int .i64 0, .int .i64 0, .int .i64 0]) (t := 68) ?hr ?_; (case hd => rfl); (case hg => rfl); (case hr => first | (go_simp; done) | (go_simp; rfl)); intro gb135 hg w40 hbox hb; have n0_ := Aside0.mk (blk_below (sB_ BK125.out) hb); have n1_ := Aside0.mk (below_step (sW_ HB.out) hb); have n2_ := Aside0.mk (hbox); have n3_ := Aside0.mk ((by rw [hg]; exact (below_size (sW_ HB.out)) : w.heap.size ≤ gb135)); have n4_ := n3_; have n5_ := Aside0.mk (sN_ hg (blk_lt (sB_ BK125.out))); have n6_ := Aside0.mk n5_.out.symm; clear BK125 HB; have BK125 := n0_; have HB := n1_; have BK135 := n2_; have GW135 := n3_; have GE135 := n4_; have NB125_135 := n5_; have NB135_125 := n6_; clear n0_ n1_ n2_ n3_ n4_ n5_ n6_; clear hb hbox hg; have hnb41 := NB135_125.out; have hnc41 := NB125_135.out; obtain ⟨hcz42_0, hcz42_1, hcz42_2, hfz42_0, hfz42_1, hfz42_2⟩ := sZ_ BK135.out; have hcz43_0 : w40.cell? ⟨gb125, 0, none⟩ = some (.int .i64 ((rd_T68 l0 x13_1).f0)) := (blk_cell BK125.out 0).trans rfl; have hcz43_1 : w40.cell? ⟨gb125, 1, none⟩ = some (.int .i64 ((rd_T68 l0 x13_1).f1)) := (blk_cell BK125.out 1).trans rfl; have hcz43_2 : w40.cell? ⟨gb125, 2, none⟩ = some (.int .i64 ((rd_T68 l0 x13_1).f2)) := (blk_cell BK125.out 2).trans rfl; have hfz43_0 := blk_frozen BK125.out 0; have hfz43_1 := blk_frozen BK125.out 1; have hfz43_2 := blk_frozen BK125.out 2))
                go_roundg k3
                case measure => have := HK1.out; have := HJ6.out; have := HK3.out; omega
                case rel => exact ⟨(wrap64 (x48_3 + 1)), (by first | rfl | (simp; done) | (simp [*]; done)), H', ⟨by have := HK1.out; have := HJ6.out; have := HK3.out; omega⟩, ⟨by refine sB_ ?_; refine blk_far ?_ NB125_135.out _; refine sB_ ?_; refine blk_far ?_ NB125_135.out _; refine sB_ ?_; refine blk_far ?_ NB125_135.out _; refine sB_ ?_; exact BK125.out⟩, ⟨by repeat (first | (with_reducible first | exact HB.out | apply below_alloc | apply pw_below_drewN | apply below_drew1 | refine below_set ?_ GE125.out | refine below_set ?_ GE135.out) | exact HB.out)⟩⟩
               rw [if_neg c29] at H
               exact absurd H (by simp)
              rw [if_neg c28] at H
              exact absurd H (by simp)
             rw [if_neg c27] at H
             have c27b0 : decide (x48_3 < (y130.length : Int)) = false := decide_eq_false c27
             clear c27
             have H' := Aside0.mk H
             clear H
             go_wp2
             go_roundg k3
             case measure => have := HK1.out; have := HJ6.out; have := HK3.out; omega
             case rel => exact ⟨(wrap64 (x13_1 + 1)), (by first | rfl | (simp; done) | (simp [*]; done)), H', ⟨by have := HK1.out; have := HJ6.out; have := HK3.out; omega⟩, ⟨by repeat (first | (with_reducible first | exact HB.out | apply below_alloc | apply pw_below_drewN | apply below_drew1 | refine below_set ?_ GE125.out) | exact HB.out)⟩⟩
          rw [if_neg c25] at H
          exact absurd H (by simp)
         rw [if_neg c24] at H
         exact absurd H (by simp)
      rw [if_neg c6] at H
      exact absurd H (by simp)
     rw [if_neg c5] at H
     exact absurd H (by simp)
    rw [if_neg c4] at H
    have c4b0 : decide (x13_1 < (l0.length : Int)) = false := decide_eq_false c4
    clear c4
    obtain rfl := Option.some.inj H
    go_wp2
    go_ret
    exact ⟨by first | rfl | (simp [errW_none, errW_some] <;> rfl) | (simp [*, errW_none, errW_some] <;> rfl), by repeat (first | (with_reducible first | exact HB.out | apply below_alloc | apply pw_below_drewN | apply below_drew1) | exact HB.out)⟩
 replace c3 := Bool.eq_false_iff.mpr c3
 subst c3
 have H1 : (some false) = some r := by rw [if_neg (show ¬ (false = true) by decide)] at H; exact H
 clear H; have H := H1; clear H1
 obtain rfl := Option.some.inj H
 go_enter Try.func53, Try.ntmps53
 go_wp2_with (first | ((with_reducible refine gate_callee (f := 63) rfl ?_); refine goesL_ (some 9) rfl rfl Try.func63 (by kernel_rfl) rfl #[.int .i64 (l0.length : Int), .int .i64 1, .int .i64 12] rfl sL_ ?_; (with_reducible refine (spec_l1In.calls (l0.length : Int) 1 12 false _ A2.out).mono ?_); rintro e w' ⟨rfl, ⟨nd, rfl⟩⟩; refine ⟨_, rfl, ?_⟩))
 go_ret
 exact ⟨by first | rfl | (simp [errW_none, errW_some] <;> rfl) | (simp [*, errW_none, errW_some] <;> rfl), by repeat (first | (with_reducible first | exact HB.out | apply below_alloc | apply pw_below_drewN | apply below_drew1) | exact HB.out)⟩

end Go.Proofs.Ytndnklicfibkeaa.P
