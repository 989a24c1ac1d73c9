-- Written by tools/seatprint.py (over the kit's print, changed in memory). Not trusted: Lean checks it.
import Derived.Test.YtbgbbfdmgpcgmaaP0
import Derived.Test.YtbgbbfdmgpcgmaaFspecl1In
namespace Go.Proofs.Ytbgbbfdmgpcgmaa.P
open Go.RowKit Go.Proofs.YtbgbbfdmgpcgmaaW.PrintWords Go.Proofs.YtbgbbfdmgpcgmaaW.PrintLast Go.Proofs.YtbgbbfdmgpcgmaaW.PrintMore
attribute [local go_sem] max2_int min2_int max_two min_two max_three min_three max_four min_four   -- for this text's walks alone
set_option linter.unusedVariables false
set_option linter.unusedSimpArgs false

/-! ### spec_IsKernel: function 43 -/
mutual
def spec_IsKernel.l0 : Nat → List (S47) → List (S47) → Int → Int → Option (Bool)
  | 0, _, _, _, _ => none
  | k + 1, x0, x11, x12, x13 => if x13 < x12 then (if 0 ≤ x13 then (if x13 < (x11.length : Int) then ((spec_l1In.f ((rd_T47 x11 x13).f0) (-4) 4).bind fun t157 => (if t157 = true then ((spec_l1In.f ((rd_T47 x11 x13).f1) 0 4).bind fun t158 => (if t158 = true then (if ((rd_T47 x11 x13).f1) = 0 then (if ((rd_T47 x11 x13).f0) < 1 then (spec_IsKernel.j1 k x0 x13 x11 x12 x13 true ((rd_T47 x11 x13).f0) ((rd_T47 x11 x13).f1) ((rd_T47 x11 x13).f2)) else ((spec_l1In.f ((rd_T47 x11 x13).f2) 1 100).bind fun t159 => (spec_IsKernel.j1 k x0 x13 x11 x12 x13 (!t159) ((rd_T47 x11 x13).f0) ((rd_T47 x11 x13).f1) ((rd_T47 x11 x13).f2)))) else ((spec_l1In.f ((rd_T47 x11 x13).f2) 1 100).bind fun t160 => (spec_IsKernel.j1 k x0 x13 x11 x12 x13 (!t160) ((rd_T47 x11 x13).f0) ((rd_T47 x11 x13).f1) ((rd_T47 x11 x13).f2)))) else (spec_IsKernel.j1 k x0 x13 x11 x12 x13 true ((rd_T47 x11 x13).f0) ((rd_T47 x11 x13).f1) ((rd_T47 x11 x13).f2)))) else (spec_IsKernel.j1 k x0 x13 x11 x12 x13 true ((rd_T47 x11 x13).f0) ((rd_T47 x11 x13).f1) ((rd_T47 x11 x13).f2)))) else (none)) else (none)) else (some true)
def spec_IsKernel.j1 : Nat → List (S47) → Int → List (S47) → Int → Int → Bool → Int → Int → Int → Option (Bool)
  | 0, _, _, _, _, _, _, _, _, _ => none
  | k + 1, x0, x3, x11, x12, x13, x43, x157000, x157001, x157002 => if x43 = true then (some false) else (if 0 ≤ x3 then (if x3 ≤ (x0.length : Int) then ((some (x0.take (x3 : Int).toNat : List (S47))).bind fun y161 => (spec_IsKernel.l1 k x0 x11 x12 x13 y161 (y161.length : Int) 0 x157000 x157001 x157002)) else (none)) else (none))
def spec_IsKernel.l1 : Nat → List (S47) → List (S47) → Int → Int → List (S47) → Int → Int → Int → Int → Int → Option (Bool)
  | 0, _, _, _, _, _, _, _, _, _, _ => none
  | k + 1, x0, x11, x12, x13, x46, x47, x48, x157000, x157001, x157002 => if x48 < x47 then (if 0 ≤ x48 then (if x48 < (x46.length : Int) then (if x157000 = ((rd_T47 x46 x48).f0) then (if x157001 = ((rd_T47 x46 x48).f1) then (some false) else (spec_IsKernel.l1 k x0 x11 x12 x13 x46 x47 (wrap64 (x48 + 1)) x157000 x157001 x157002)) else (spec_IsKernel.l1 k x0 x11 x12 x13 x46 x47 (wrap64 (x48 + 1)) x157000 x157001 x157002)) else (none)) else (none)) else (spec_IsKernel.l0 k x0 x11 x12 (wrap64 (x13 + 1)))
end
def spec_IsKernel.f (k : Nat) (l0 : List (S47)) : Option (Bool) := (spec_l1In.f (l0.length : Int) 1 12).bind fun t154 => (if t154 = true then (spec_IsKernel.l0 k l0 l0 (l0.length : Int) 0) else (some false))
theorem spec_IsKernel.mono_l : ∀ k, (∀ y0 y1 y2 y3, LeO (spec_IsKernel.l0 k y0 y1 y2 y3) (spec_IsKernel.l0 (k + 1) y0 y1 y2 y3)) ∧ (∀ y0 y1 y2 y3 y4 y5 y6 y7 y8, LeO (spec_IsKernel.j1 k y0 y1 y2 y3 y4 y5 y6 y7 y8) (spec_IsKernel.j1 (k + 1) y0 y1 y2 y3 y4 y5 y6 y7 y8)) ∧ (∀ y0 y1 y2 y3 y4 y5 y6 y7 y8 y9, LeO (spec_IsKernel.l1 k y0 y1 y2 y3 y4 y5 y6 y7 y8 y9) (spec_IsKernel.l1 (k + 1) y0 y1 y2 y3 y4 y5 y6 y7 y8 y9))
  | 0 => ⟨fun _ _ _ _ r h => by simp [spec_IsKernel.l0] at h, fun _ _ _ _ _ _ _ _ _ r h => by simp [spec_IsKernel.j1] at h, fun _ _ _ _ _ _ _ _ _ _ r h => by simp [spec_IsKernel.l1] at h⟩
  | k + 1 => by
    obtain ⟨ih0, ih1, ih2⟩ := spec_IsKernel.mono_l k
    refine ⟨?_, ?_, ?_⟩
    · intro y0 y1 y2 y3
      unfold spec_IsKernel.l0
      repeat' first
      | (with_reducible exact ih0 _ _ _ _)
      | (with_reducible exact ih1 _ _ _ _ _ _ _ _ _)
      | (with_reducible exact ih2 _ _ _ _ _ _ _ _ _ _)
      | (with_reducible exact LeO.refl _)
      | (with_reducible exact LeO.none _)
      | (with_reducible refine LeO.ite ?_ ?_)
      | (with_reducible refine LeO.bind ?_ (fun _ => ?_))
      | exact ih0 _ _ _ _
      | exact ih1 _ _ _ _ _ _ _ _ _
      | exact ih2 _ _ _ _ _ _ _ _ _ _
      | exact LeO.none _
      | refine LeO.ite ?_ ?_
      | refine LeO.bind ?_ (fun _ => ?_)
    · intro y0 y1 y2 y3 y4 y5 y6 y7 y8
      unfold spec_IsKernel.j1
      repeat' first
      | (with_reducible exact ih0 _ _ _ _)
      | (with_reducible exact ih1 _ _ _ _ _ _ _ _ _)
      | (with_reducible exact ih2 _ _ _ _ _ _ _ _ _ _)
      | (with_reducible exact LeO.refl _)
      | (with_reducible exact LeO.none _)
      | (with_reducible refine LeO.ite ?_ ?_)
      | (with_reducible refine LeO.bind ?_ (fun _ => ?_))
      | exact ih0 _ _ _ _
      | exact ih1 _ _ _ _ _ _ _ _ _
      | exact ih2 _ _ _ _ _ _ _ _ _ _
      | exact LeO.none _
      | refine LeO.ite ?_ ?_
      | refine LeO.bind ?_ (fun _ => ?_)
    · intro y0 y1 y2 y3 y4 y5 y6 y7 y8 y9
      unfold spec_IsKernel.l1
      repeat' first
      | (with_reducible exact ih0 _ _ _ _)
      | (with_reducible exact ih1 _ _ _ _ _ _ _ _ _)
      | (with_reducible exact ih2 _ _ _ _ _ _ _ _ _ _)
      | (with_reducible exact LeO.refl _)
      | (with_reducible exact LeO.none _)
      | (with_reducible refine LeO.ite ?_ ?_)
      | (with_reducible refine LeO.bind ?_ (fun _ => ?_))
      | exact ih0 _ _ _ _
      | exact ih1 _ _ _ _ _ _ _ _ _
      | exact ih2 _ _ _ _ _ _ _ _ _ _
      | exact LeO.none _
      | refine LeO.ite ?_ ?_
      | refine LeO.bind ?_ (fun _ => ?_)
theorem spec_IsKernel.mono : ∀ a0 k, LeO (spec_IsKernel.f k a0) (spec_IsKernel.f (k + 1) a0) := by
  intro a0 k
  obtain ⟨ih0, ih1, ih2⟩ := spec_IsKernel.mono_l k
  unfold spec_IsKernel.f
  repeat' first
      | (with_reducible exact ih0 _ _ _ _)
      | (with_reducible exact ih1 _ _ _ _ _ _ _ _ _)
      | (with_reducible exact ih2 _ _ _ _ _ _ _ _ _ _)
      | (with_reducible exact LeO.refl _)
      | (with_reducible exact LeO.none _)
      | (with_reducible refine LeO.ite ?_ ?_)
      | (with_reducible refine LeO.bind ?_ (fun _ => ?_))
      | exact ih0 _ _ _ _
      | exact ih1 _ _ _ _ _ _ _ _ _
      | exact ih2 _ _ _ _ _ _ _ _ _ _
      | exact LeO.none _
      | refine LeO.ite ?_ ?_
      | refine LeO.bind ?_ (fun _ => ?_)
set_option maxHeartbeats 8000000 in
set_option maxRecDepth 100000 in
theorem spec_IsKernel.calls (k : Nat) (A0 : Option Addr) (c0 : Nat) (l0 : List (S47)) (r : Bool) (w : World) (hr0 : Kd.C k47 w A0 l0.length l0) (hc0 : l0.length ≤ c0) (h : spec_IsKernel.f k l0 = some r) :
    Calls Try.prog 43 #[.slice A0 l0.length c0] w fun e w' => e = .returned (.bool r) ∧ Below w.heap.size w w' := by
  have hu47 := Try.underlying47
  have HR0 := Aside0.mk hr0
  have HC0 := Aside0.mk hc0
  clear hr0 hc0
  have HB := Aside0.mk (Below.refl w.heap.size w)
  have H : ((spec_l1In.f (l0.length : Int) 1 12).bind fun t154 => (if t154 = true then (spec_IsKernel.l0 k l0 l0 (l0.length : Int) 0) else (some false))) = some r := h
  clear h
  replace H := Option.bind_eq_some_iff.mp H
  obtain ⟨t154, A20, H⟩ := H
  replace H : (if t154 = true then (spec_IsKernel.l0 k l0 l0 (l0.length : Int) 0) else (some false)) = some r := H
  have A2 := Aside0.mk A20
  clear A20
  by_cases c3 : t154 = true
  · subst c3
    have H1 : (spec_IsKernel.l0 k l0 l0 (l0.length : Int) 0) = some r := by rw [if_pos rfl] at H; exact H
    clear H
    have H := H1
    clear H1
    have H' := Aside0.mk H
    clear H
    go_enter Try.func43, Try.ntmps43
    go_wp2_with (first | ((with_reducible refine gate_callee (f := 106) rfl ?_); refine goesL_ (some 9) rfl rfl Try.func106 (by kernel_rfl) rfl #[.int .i64 (l0.length : Int), .int .i64 1, .int .i64 12] rfl (by (try simp only [List.map_toArray, List.map_cons, List.map_nil]); first | done | rfl | (simp only [List.length_drop, List.length_take]; rfl)) ?_; (with_reducible refine (spec_l1In.calls (l0.length : Int) 1 12 true _ A2.out).mono ?_); rintro e w' ⟨rfl, ⟨nd, rfl⟩⟩; refine ⟨_, rfl, ?_⟩))
    go_loopg [13] k (fun kq v13 w' => ∃ (x13_1 : Int), v13 = .int .i64 x13_1 ∧ Aside0 (spec_IsKernel.l0 kq l0 l0 (l0.length : Int) x13_1 = some r) ∧ Aside0 (kq ≤ k) ∧ Aside0 (Below w.heap.size w w'))
    case atStart => exact ⟨(0), (by first | rfl | (simp; done) | (simp [*]; done)), H', ⟨Nat.le_refl _⟩, ⟨by repeat (first | (with_reducible first | exact HB.out | apply below_alloc | apply pw_below_drewN | apply below_drew1) | exact HB.out)⟩⟩
    case round =>
      clear H'
      try clear c1
      try clear p2
      try clear c3
      obtain ⟨x13_1, rfl, HA, HK1, HB⟩ := hrel
      cases gk with
      | zero => exact absurd HA.out (by simp [spec_IsKernel.l0])
      | succ k1 =>
        have H := HA.out
        clear HA
        simp only [spec_IsKernel.l0] at H
        by_cases c4 : x13_1 < (l0.length : Int)
        · rw [if_pos c4] at H
          have c4b0 : decide (x13_1 < (l0.length : Int)) = true := decide_eq_true c4
          clear c4
          by_cases c5 : 0 ≤ x13_1
          · rw [if_pos c5] at H
            have c5b0 : decide (0 ≤ x13_1) = true := decide_eq_true c5
            clear c5
            by_cases c6 : x13_1 < (l0.length : Int)
            · rw [if_pos c6] at H
              have c6b0 : decide (x13_1 < (l0.length : Int)) = true := decide_eq_true c6
              clear c6
              have HC7 := Aside0.mk H
              clear H
              have p155 : 0 ≤ (x13_1 : Int) := of_decide_eq_true (by first | (with_reducible assumption) | assumption)
              have q155 : x13_1 < (l0.length : Int) := of_decide_eq_true (by first | (with_reducible assumption) | assumption)
              obtain ⟨ad155, e155, hx155_0, hx155_1, hx155_2⟩ := at_T47 HR0.out x13_1 p155 q155
              cases e155
              replace hx155_0 := (HB.out.cell (World.block_lt_of_cell? w _ hx155_0)).trans hx155_0
              replace hx155_1 := (HB.out.cell (World.block_lt_of_cell? w _ hx155_1)).trans hx155_1
              replace hx155_2 := (HB.out.cell (World.block_lt_of_cell? w _ hx155_2)).trans hx155_2
              replace p155 := eq_true p155
              replace q155 := eq_true q155
              go_upto_region 6 with (first | ((with_reducible refine gate_dst (N := 4) rfl ?_); refine box_event ?hg (N := 4) ?hd (cs := #[.int .i64 0, .int .i64 0, .int .i64 0]) (t := 47) ?hr ?_; (case hd => rfl); (case hg => rfl); (case hr => first | (go_simp; done) | (go_simp; rfl)); intro gb156 hg w8 hbox hb; have n0_ := Aside0.mk (below_step (by repeat (first | (with_reducible first | exact HB.out | apply below_alloc | apply pw_below_drewN | apply below_drew1) | exact HB.out)) hb); have n1_ := Aside0.mk (hbox); have n2_ := Aside0.mk ((by rw [hg]; exact (below_size (by repeat (first | (with_reducible first | exact HB.out | apply below_alloc | apply pw_below_drewN | apply below_drew1) | exact HB.out))) : w.heap.size ≤ gb156)); have n3_ := Aside0.mk ((by rw [hg]; exact (below_size (by repeat (first | (with_reducible first | exact HB.out | apply below_alloc | apply pw_below_drewN | apply below_drew1) | exact HB.out))) : w.heap.size ≤ gb156)); clear HB; have HB := n0_; have BK156 := n1_; have GW156 := n2_; have GE156 := n3_; clear n0_ n1_ n2_ n3_; clear hb hbox hg; have hcz9_0 : w8.cell? ⟨gb156, 0, none⟩ = some (.int .i64 0) := (blk_cell BK156.out 0).trans rfl; have hcz9_1 : w8.cell? ⟨gb156, 1, none⟩ = some (.int .i64 0) := (blk_cell BK156.out 1).trans rfl; have hcz9_2 : w8.cell? ⟨gb156, 2, none⟩ = some (.int .i64 0) := (blk_cell BK156.out 2).trans rfl; have hfz9_0 := blk_frozen BK156.out 0; have hfz9_1 := blk_frozen BK156.out 1; have hfz9_2 := blk_frozen BK156.out 2))
              (try simp only [Act.put, List.setIfInBounds_toArray, List.set_cons_zero, List.set_cons_succ])
              go_cut [43] (fun v43 wc => ∃ (kq : Nat) (x43_6 : Bool), v43 = .bool x43_6 ∧ Aside0 (spec_IsKernel.j1 kq l0 x13_1 l0 (l0.length : Int) x13_1 x43_6 ((rd_T47 l0 x13_1).f0) ((rd_T47 l0 x13_1).f1) ((rd_T47 l0 x13_1).f2) = some r) ∧ Aside0 (kq ≤ k1) ∧ Aside0 (wc.heap[gb156]? = some (.cells #[.int .i64 ((rd_T47 l0 x13_1).f0), .int .i64 ((rd_T47 l0 x13_1).f1), .int .i64 ((rd_T47 l0 x13_1).f2)] 47 (0, 0))) ∧ Aside0 (Below w.heap.size w wc))
              case first =>
                have H := HC7.out
                clear HC7
                replace H := Option.bind_eq_some_iff.mp H
                obtain ⟨t157, A100, H⟩ := H
                replace H : (if t157 = true then ((spec_l1In.f ((rd_T47 l0 x13_1).f1) 0 4).bind fun t158 => (if t158 = true then (if ((rd_T47 l0 x13_1).f1) = 0 then (if ((rd_T47 l0 x13_1).f0) < 1 then (spec_IsKernel.j1 k1 l0 x13_1 l0 (l0.length : Int) x13_1 true ((rd_T47 l0 x13_1).f0) ((rd_T47 l0 x13_1).f1) ((rd_T47 l0 x13_1).f2)) else ((spec_l1In.f ((rd_T47 l0 x13_1).f2) 1 100).bind fun t159 => (spec_IsKernel.j1 k1 l0 x13_1 l0 (l0.length : Int) x13_1 (!t159) ((rd_T47 l0 x13_1).f0) ((rd_T47 l0 x13_1).f1) ((rd_T47 l0 x13_1).f2)))) else ((spec_l1In.f ((rd_T47 l0 x13_1).f2) 1 100).bind fun t160 => (spec_IsKernel.j1 k1 l0 x13_1 l0 (l0.length : Int) x13_1 (!t160) ((rd_T47 l0 x13_1).f0) ((rd_T47 l0 x13_1).f1) ((rd_T47 l0 x13_1).f2)))) else (spec_IsKernel.j1 k1 l0 x13_1 l0 (l0.length : Int) x13_1 true ((rd_T47 l0 x13_1).f0) ((rd_T47 l0 x13_1).f1) ((rd_T47 l0 x13_1).f2)))) else (spec_IsKernel.j1 k1 l0 x13_1 l0 (l0.length : Int) x13_1 true ((rd_T47 l0 x13_1).f0) ((rd_T47 l0 x13_1).f1) ((rd_T47 l0 x13_1).f2))) = some r := H
                have A10 := Aside0.mk A100
                clear A100
                by_cases c11 : t157 = true
                · subst c11
                  have H1 : ((spec_l1In.f ((rd_T47 l0 x13_1).f1) 0 4).bind fun t158 => (if t158 = true then (if ((rd_T47 l0 x13_1).f1) = 0 then (if ((rd_T47 l0 x13_1).f0) < 1 then (spec_IsKernel.j1 k1 l0 x13_1 l0 (l0.length : Int) x13_1 true ((rd_T47 l0 x13_1).f0) ((rd_T47 l0 x13_1).f1) ((rd_T47 l0 x13_1).f2)) else ((spec_l1In.f ((rd_T47 l0 x13_1).f2) 1 100).bind fun t159 => (spec_IsKernel.j1 k1 l0 x13_1 l0 (l0.length : Int) x13_1 (!t159) ((rd_T47 l0 x13_1).f0) ((rd_T47 l0 x13_1).f1) ((rd_T47 l0 x13_1).f2)))) else ((spec_l1In.f ((rd_T47 l0 x13_1).f2) 1 100).bind fun t160 => (spec_IsKernel.j1 k1 l0 x13_1 l0 (l0.length : Int) x13_1 (!t160) ((rd_T47 l0 x13_1).f0) ((rd_T47 l0 x13_1).f1) ((rd_T47 l0 x13_1).f2)))) else (spec_IsKernel.j1 k1 l0 x13_1 l0 (l0.length : Int) x13_1 true ((rd_T47 l0 x13_1).f0) ((rd_T47 l0 x13_1).f1) ((rd_T47 l0 x13_1).f2)))) = some r := by rw [if_pos rfl] at H; exact H
                  clear H
                  have H := H1
                  clear H1
                  replace H := Option.bind_eq_some_iff.mp H
                  obtain ⟨t158, A120, H⟩ := H
                  replace H : (if t158 = true then (if ((rd_T47 l0 x13_1).f1) = 0 then (if ((rd_T47 l0 x13_1).f0) < 1 then (spec_IsKernel.j1 k1 l0 x13_1 l0 (l0.length : Int) x13_1 true ((rd_T47 l0 x13_1).f0) ((rd_T47 l0 x13_1).f1) ((rd_T47 l0 x13_1).f2)) else ((spec_l1In.f ((rd_T47 l0 x13_1).f2) 1 100).bind fun t159 => (spec_IsKernel.j1 k1 l0 x13_1 l0 (l0.length : Int) x13_1 (!t159) ((rd_T47 l0 x13_1).f0) ((rd_T47 l0 x13_1).f1) ((rd_T47 l0 x13_1).f2)))) else ((spec_l1In.f ((rd_T47 l0 x13_1).f2) 1 100).bind fun t160 => (spec_IsKernel.j1 k1 l0 x13_1 l0 (l0.length : Int) x13_1 (!t160) ((rd_T47 l0 x13_1).f0) ((rd_T47 l0 x13_1).f1) ((rd_T47 l0 x13_1).f2)))) else (spec_IsKernel.j1 k1 l0 x13_1 l0 (l0.length : Int) x13_1 true ((rd_T47 l0 x13_1).f0) ((rd_T47 l0 x13_1).f1) ((rd_T47 l0 x13_1).f2))) = some r := H
                  have A12 := Aside0.mk A120
                  clear A120
                  by_cases c13 : t158 = true
                  · subst c13
                    have H1 : (if ((rd_T47 l0 x13_1).f1) = 0 then (if ((rd_T47 l0 x13_1).f0) < 1 then (spec_IsKernel.j1 k1 l0 x13_1 l0 (l0.length : Int) x13_1 true ((rd_T47 l0 x13_1).f0) ((rd_T47 l0 x13_1).f1) ((rd_T47 l0 x13_1).f2)) else ((spec_l1In.f ((rd_T47 l0 x13_1).f2) 1 100).bind fun t159 => (spec_IsKernel.j1 k1 l0 x13_1 l0 (l0.length : Int) x13_1 (!t159) ((rd_T47 l0 x13_1).f0) ((rd_T47 l0 x13_1).f1) ((rd_T47 l0 x13_1).f2)))) else ((spec_l1In.f ((rd_T47 l0 x13_1).f2) 1 100).bind fun t160 => (spec_IsKernel.j1 k1 l0 x13_1 l0 (l0.length : Int) x13_1 (!t160) ((rd_T47 l0 x13_1).f0) ((rd_T47 l0 x13_1).f1) ((rd_T47 l0 x13_1).f2)))) = some r := by rw [if_pos rfl] at H; exact H
                    clear H
                    have H := H1
                    clear H1
                    by_cases c14 : ((rd_T47 l0 x13_1).f1) = 0
                    · rw [if_pos c14] at H
                      have c14b0 : (((rd_T47 l0 x13_1).f1) == 0) = true := beq_iff_eq.mpr c14
                      have c14b1 : (((rd_T47 l0 x13_1).f1) != 0) = false := bne_eq_false_iff_eq.mpr c14
                      clear c14
                      (first | rw [c14b0] | (simp only [i64_w, i32_w]; rw [c14b0]) | skip)
                      by_cases c15 : ((rd_T47 l0 x13_1).f0) < 1
                      · rw [if_pos c15] at H
                        have c15b0 : decide (((rd_T47 l0 x13_1).f0) < 1) = true := decide_eq_true c15
                        clear c15
                        have H' := Aside0.mk H
                        clear H
                        have hcz16_0 : w8.cell? ⟨gb156, 0, none⟩ = some (.int .i64 0) := (blk_cell BK156.out 0).trans rfl
                        have hcz16_1 : w8.cell? ⟨gb156, 1, none⟩ = some (.int .i64 0) := (blk_cell BK156.out 1).trans rfl
                        have hcz16_2 : w8.cell? ⟨gb156, 2, none⟩ = some (.int .i64 0) := (blk_cell BK156.out 2).trans rfl
                        have hfz16_0 := blk_frozen BK156.out 0
                        have hfz16_1 := blk_frozen BK156.out 1
                        have hfz16_2 := blk_frozen BK156.out 2
                        go_wp2_with (first | ((with_reducible refine gate_callee (f := 106) rfl ?_); refine goesL_ (some 20) rfl rfl Try.func106 (by kernel_rfl) rfl #[.int .i64 ((rd_T47 l0 x13_1).f0), .int .i64 (-4), .int .i64 4] rfl (by (try simp only [List.map_toArray, List.map_cons, List.map_nil]); first | done | rfl | (simp only [List.length_drop, List.length_take]; rfl)) ?_; (with_reducible refine (spec_l1In.calls ((rd_T47 l0 x13_1).f0) (-4) 4 true _ A10.out).mono ?_); rintro e w' ⟨rfl, ⟨nd, rfl⟩⟩; refine ⟨_, rfl, ?_⟩) | (go_at_call 106; (with_reducible refine (spec_l1In.calls ((rd_T47 l0 x13_1).f1) 0 4 true _ A12.out).mono ?_); rintro e w' ⟨rfl, ⟨nd, rfl⟩⟩))
                        go_meet
                        case rel => exact ⟨_, (true), (by first | rfl | (simp; done) | (simp [*]; done)), H', ⟨by have := HK1.out; first | omega | exact Nat.le_refl _⟩, ⟨by (with_reducible repeat (first | refine blk_drewN ?_ _ | refine blk_drew ?_ | refine blk_alloc ?_ _)); refine blk_put (cs := #[.int .i64 ((rd_T47 l0 x13_1).f0), .int .i64 ((rd_T47 l0 x13_1).f1), .int .i64 0]) ?_ 2 _ rfl; (with_reducible repeat (first | refine blk_drewN ?_ _ | refine blk_drew ?_ | refine blk_alloc ?_ _)); refine blk_put (cs := #[.int .i64 ((rd_T47 l0 x13_1).f0), .int .i64 0, .int .i64 0]) ?_ 1 _ rfl; (with_reducible repeat (first | refine blk_drewN ?_ _ | refine blk_drew ?_ | refine blk_alloc ?_ _)); refine blk_put (cs := #[.int .i64 0, .int .i64 0, .int .i64 0]) ?_ 0 _ rfl; (with_reducible repeat (first | refine blk_drewN ?_ _ | refine blk_drew ?_ | refine blk_alloc ?_ _)); exact BK156.out⟩, ⟨by repeat (first | (with_reducible first | exact HB.out | apply below_alloc | apply pw_below_drewN | apply below_drew1 | refine below_set ?_ GE156.out) | exact HB.out)⟩⟩
                      · rw [if_neg c15] at H
                        have c15b0 : decide (((rd_T47 l0 x13_1).f0) < 1) = false := decide_eq_false c15
                        clear c15
                        replace H := Option.bind_eq_some_iff.mp H
                        obtain ⟨t159, A170, H⟩ := H
                        replace H : (spec_IsKernel.j1 k1 l0 x13_1 l0 (l0.length : Int) x13_1 (!t159) ((rd_T47 l0 x13_1).f0) ((rd_T47 l0 x13_1).f1) ((rd_T47 l0 x13_1).f2)) = some r := H
                        have A17 := Aside0.mk A170
                        clear A170
                        have H' := Aside0.mk H
                        clear H
                        have hcz18_0 : w8.cell? ⟨gb156, 0, none⟩ = some (.int .i64 0) := (blk_cell BK156.out 0).trans rfl
                        have hcz18_1 : w8.cell? ⟨gb156, 1, none⟩ = some (.int .i64 0) := (blk_cell BK156.out 1).trans rfl
                        have hcz18_2 : w8.cell? ⟨gb156, 2, none⟩ = some (.int .i64 0) := (blk_cell BK156.out 2).trans rfl
                        have hfz18_0 := blk_frozen BK156.out 0
                        have hfz18_1 := blk_frozen BK156.out 1
                        have hfz18_2 := blk_frozen BK156.out 2
                        go_wp2_with (first | ((with_reducible refine gate_callee (f := 106) rfl ?_); refine goesL_ (some 20) rfl rfl Try.func106 (by kernel_rfl) rfl #[.int .i64 ((rd_T47 l0 x13_1).f0), .int .i64 (-4), .int .i64 4] rfl (by (try simp only [List.map_toArray, List.map_cons, List.map_nil]); first | done | rfl | (simp only [List.length_drop, List.length_take]; rfl)) ?_; (with_reducible refine (spec_l1In.calls ((rd_T47 l0 x13_1).f0) (-4) 4 true _ A10.out).mono ?_); rintro e w' ⟨rfl, ⟨nd, rfl⟩⟩; refine ⟨_, rfl, ?_⟩) | (go_at_call 106; (with_reducible refine (spec_l1In.calls ((rd_T47 l0 x13_1).f1) 0 4 true _ A12.out).mono ?_); rintro e w' ⟨rfl, ⟨nd, rfl⟩⟩) | (go_at_call 106; (with_reducible refine (spec_l1In.calls ((rd_T47 l0 x13_1).f2) 1 100 t159 _ A17.out).mono ?_); rintro e w' ⟨rfl, ⟨nd, rfl⟩⟩))
                        go_meet
                        case rel => exact ⟨_, (!t159), (by first | rfl | (simp; done) | (simp [*]; done)), H', ⟨by have := HK1.out; first | omega | exact Nat.le_refl _⟩, ⟨by (with_reducible repeat (first | refine blk_drewN ?_ _ | refine blk_drew ?_ | refine blk_alloc ?_ _)); refine blk_put (cs := #[.int .i64 ((rd_T47 l0 x13_1).f0), .int .i64 ((rd_T47 l0 x13_1).f1), .int .i64 0]) ?_ 2 _ rfl; (with_reducible repeat (first | refine blk_drewN ?_ _ | refine blk_drew ?_ | refine blk_alloc ?_ _)); refine blk_put (cs := #[.int .i64 ((rd_T47 l0 x13_1).f0), .int .i64 0, .int .i64 0]) ?_ 1 _ rfl; (with_reducible repeat (first | refine blk_drewN ?_ _ | refine blk_drew ?_ | refine blk_alloc ?_ _)); refine blk_put (cs := #[.int .i64 0, .int .i64 0, .int .i64 0]) ?_ 0 _ rfl; (with_reducible repeat (first | refine blk_drewN ?_ _ | refine blk_drew ?_ | refine blk_alloc ?_ _)); exact BK156.out⟩, ⟨by repeat (first | (with_reducible first | exact HB.out | apply below_alloc | apply pw_below_drewN | apply below_drew1 | refine below_set ?_ GE156.out) | exact HB.out)⟩⟩
                    · rw [if_neg c14] at H
                      have c14b0 : (((rd_T47 l0 x13_1).f1) == 0) = false := beq_eq_false_iff_ne.mpr c14
                      have c14b1 : (((rd_T47 l0 x13_1).f1) != 0) = true := bne_iff_ne.mpr c14
                      (first | rw [c14b0] | (simp only [i64_w, i32_w]; rw [c14b0]) | skip)
                      replace H := Option.bind_eq_some_iff.mp H
                      obtain ⟨t160, A190, H⟩ := H
                      replace H : (spec_IsKernel.j1 k1 l0 x13_1 l0 (l0.length : Int) x13_1 (!t160) ((rd_T47 l0 x13_1).f0) ((rd_T47 l0 x13_1).f1) ((rd_T47 l0 x13_1).f2)) = some r := H
                      have A19 := Aside0.mk A190
                      clear A190
                      have H' := Aside0.mk H
                      clear H
                      have hcz20_0 : w8.cell? ⟨gb156, 0, none⟩ = some (.int .i64 0) := (blk_cell BK156.out 0).trans rfl
                      have hcz20_1 : w8.cell? ⟨gb156, 1, none⟩ = some (.int .i64 0) := (blk_cell BK156.out 1).trans rfl
                      have hcz20_2 : w8.cell? ⟨gb156, 2, none⟩ = some (.int .i64 0) := (blk_cell BK156.out 2).trans rfl
                      have hfz20_0 := blk_frozen BK156.out 0
                      have hfz20_1 := blk_frozen BK156.out 1
                      have hfz20_2 := blk_frozen BK156.out 2
                      go_wp2_with (first | ((with_reducible refine gate_callee (f := 106) rfl ?_); refine goesL_ (some 20) rfl rfl Try.func106 (by kernel_rfl) rfl #[.int .i64 ((rd_T47 l0 x13_1).f0), .int .i64 (-4), .int .i64 4] rfl (by (try simp only [List.map_toArray, List.map_cons, List.map_nil]); first | done | rfl | (simp only [List.length_drop, List.length_take]; rfl)) ?_; (with_reducible refine (spec_l1In.calls ((rd_T47 l0 x13_1).f0) (-4) 4 true _ A10.out).mono ?_); rintro e w' ⟨rfl, ⟨nd, rfl⟩⟩; refine ⟨_, rfl, ?_⟩) | (go_at_call 106; (with_reducible refine (spec_l1In.calls ((rd_T47 l0 x13_1).f1) 0 4 true _ A12.out).mono ?_); rintro e w' ⟨rfl, ⟨nd, rfl⟩⟩) | (go_at_call 106; (with_reducible refine (spec_l1In.calls ((rd_T47 l0 x13_1).f2) 1 100 t160 _ A19.out).mono ?_); rintro e w' ⟨rfl, ⟨nd, rfl⟩⟩))
                      go_meet
                      case rel => exact ⟨_, (!t160), (by first | rfl | (simp; done) | (simp [*]; done)), H', ⟨by have := HK1.out; first | omega | exact Nat.le_refl _⟩, ⟨by (with_reducible repeat (first | refine blk_drewN ?_ _ | refine blk_drew ?_ | refine blk_alloc ?_ _)); refine blk_put (cs := #[.int .i64 ((rd_T47 l0 x13_1).f0), .int .i64 ((rd_T47 l0 x13_1).f1), .int .i64 0]) ?_ 2 _ rfl; (with_reducible repeat (first | refine blk_drewN ?_ _ | refine blk_drew ?_ | refine blk_alloc ?_ _)); refine blk_put (cs := #[.int .i64 ((rd_T47 l0 x13_1).f0), .int .i64 0, .int .i64 0]) ?_ 1 _ rfl; (with_reducible repeat (first | refine blk_drewN ?_ _ | refine blk_drew ?_ | refine blk_alloc ?_ _)); refine blk_put (cs := #[.int .i64 0, .int .i64 0, .int .i64 0]) ?_ 0 _ rfl; (with_reducible repeat (first | refine blk_drewN ?_ _ | refine blk_drew ?_ | refine blk_alloc ?_ _)); exact BK156.out⟩, ⟨by repeat (first | (with_reducible first | exact HB.out | apply below_alloc | apply pw_below_drewN | apply below_drew1 | refine below_set ?_ GE156.out) | exact HB.out)⟩⟩
                  · replace c13 := Bool.eq_false_iff.mpr c13
                    subst c13
                    have H1 : (spec_IsKernel.j1 k1 l0 x13_1 l0 (l0.length : Int) x13_1 true ((rd_T47 l0 x13_1).f0) ((rd_T47 l0 x13_1).f1) ((rd_T47 l0 x13_1).f2)) = some r := by rw [if_neg (show ¬ (false = true) by decide)] at H; exact H
                    clear H
                    have H := H1
                    clear H1
                    have H' := Aside0.mk H
                    clear H
                    have hcz21_0 : w8.cell? ⟨gb156, 0, none⟩ = some (.int .i64 0) := (blk_cell BK156.out 0).trans rfl
                    have hcz21_1 : w8.cell? ⟨gb156, 1, none⟩ = some (.int .i64 0) := (blk_cell BK156.out 1).trans rfl
                    have hcz21_2 : w8.cell? ⟨gb156, 2, none⟩ = some (.int .i64 0) := (blk_cell BK156.out 2).trans rfl
                    have hfz21_0 := blk_frozen BK156.out 0
                    have hfz21_1 := blk_frozen BK156.out 1
                    have hfz21_2 := blk_frozen BK156.out 2
                    go_wp2_with (first | ((with_reducible refine gate_callee (f := 106) rfl ?_); refine goesL_ (some 20) rfl rfl Try.func106 (by kernel_rfl) rfl #[.int .i64 ((rd_T47 l0 x13_1).f0), .int .i64 (-4), .int .i64 4] rfl (by (try simp only [List.map_toArray, List.map_cons, List.map_nil]); first | done | rfl | (simp only [List.length_drop, List.length_take]; rfl)) ?_; (with_reducible refine (spec_l1In.calls ((rd_T47 l0 x13_1).f0) (-4) 4 true _ A10.out).mono ?_); rintro e w' ⟨rfl, ⟨nd, rfl⟩⟩; refine ⟨_, rfl, ?_⟩) | (go_at_call 106; (with_reducible refine (spec_l1In.calls ((rd_T47 l0 x13_1).f1) 0 4 false _ A12.out).mono ?_); rintro e w' ⟨rfl, ⟨nd, rfl⟩⟩))
                    go_meet
                    case rel => exact ⟨_, (true), (by first | rfl | (simp; done) | (simp [*]; done)), H', ⟨by have := HK1.out; first | omega | exact Nat.le_refl _⟩, ⟨by (with_reducible repeat (first | refine blk_drewN ?_ _ | refine blk_drew ?_ | refine blk_alloc ?_ _)); refine blk_put (cs := #[.int .i64 ((rd_T47 l0 x13_1).f0), .int .i64 ((rd_T47 l0 x13_1).f1), .int .i64 0]) ?_ 2 _ rfl; (with_reducible repeat (first | refine blk_drewN ?_ _ | refine blk_drew ?_ | refine blk_alloc ?_ _)); refine blk_put (cs := #[.int .i64 ((rd_T47 l0 x13_1).f0), .int .i64 0, .int .i64 0]) ?_ 1 _ rfl; (with_reducible repeat (first | refine blk_drewN ?_ _ | refine blk_drew ?_ | refine blk_alloc ?_ _)); refine blk_put (cs := #[.int .i64 0, .int .i64 0, .int .i64 0]) ?_ 0 _ rfl; (with_reducible repeat (first | refine blk_drewN ?_ _ | refine blk_drew ?_ | refine blk_alloc ?_ _)); exact BK156.out⟩, ⟨by repeat (first | (with_reducible first | exact HB.out | apply below_alloc | apply pw_below_drewN | apply below_drew1 | refine below_set ?_ GE156.out) | exact HB.out)⟩⟩
                · replace c11 := Bool.eq_false_iff.mpr c11
                  subst c11
                  have H1 : (spec_IsKernel.j1 k1 l0 x13_1 l0 (l0.length : Int) x13_1 true ((rd_T47 l0 x13_1).f0) ((rd_T47 l0 x13_1).f1) ((rd_T47 l0 x13_1).f2)) = some r := by rw [if_neg (show ¬ (false = true) by decide)] at H; exact H
                  clear H
                  have H := H1
                  clear H1
                  have H' := Aside0.mk H
                  clear H
                  have hcz22_0 : w8.cell? ⟨gb156, 0, none⟩ = some (.int .i64 0) := (blk_cell BK156.out 0).trans rfl
                  have hcz22_1 : w8.cell? ⟨gb156, 1, none⟩ = some (.int .i64 0) := (blk_cell BK156.out 1).trans rfl
                  have hcz22_2 : w8.cell? ⟨gb156, 2, none⟩ = some (.int .i64 0) := (blk_cell BK156.out 2).trans rfl
                  have hfz22_0 := blk_frozen BK156.out 0
                  have hfz22_1 := blk_frozen BK156.out 1
                  have hfz22_2 := blk_frozen BK156.out 2
                  go_wp2_with (first | ((with_reducible refine gate_callee (f := 106) rfl ?_); refine goesL_ (some 20) rfl rfl Try.func106 (by kernel_rfl) rfl #[.int .i64 ((rd_T47 l0 x13_1).f0), .int .i64 (-4), .int .i64 4] rfl (by (try simp only [List.map_toArray, List.map_cons, List.map_nil]); first | done | rfl | (simp only [List.length_drop, List.length_take]; rfl)) ?_; (with_reducible refine (spec_l1In.calls ((rd_T47 l0 x13_1).f0) (-4) 4 false _ A10.out).mono ?_); rintro e w' ⟨rfl, ⟨nd, rfl⟩⟩; refine ⟨_, rfl, ?_⟩))
                  go_meet
                  case rel => exact ⟨_, (true), (by first | rfl | (simp; done) | (simp [*]; done)), H', ⟨by have := HK1.out; first | omega | exact Nat.le_refl _⟩, ⟨by (with_reducible repeat (first | refine blk_drewN ?_ _ | refine blk_drew ?_ | refine blk_alloc ?_ _)); refine blk_put (cs := #[.int .i64 ((rd_T47 l0 x13_1).f0), .int .i64 ((rd_T47 l0 x13_1).f1), .int .i64 0]) ?_ 2 _ rfl; (with_reducible repeat (first | refine blk_drewN ?_ _ | refine blk_drew ?_ | refine blk_alloc ?_ _)); refine blk_put (cs := #[.int .i64 ((rd_T47 l0 x13_1).f0), .int .i64 0, .int .i64 0]) ?_ 1 _ rfl; (with_reducible repeat (first | refine blk_drewN ?_ _ | refine blk_drew ?_ | refine blk_alloc ?_ _)); refine blk_put (cs := #[.int .i64 0, .int .i64 0, .int .i64 0]) ?_ 0 _ rfl; (with_reducible repeat (first | refine blk_drewN ?_ _ | refine blk_drew ?_ | refine blk_alloc ?_ _)); exact BK156.out⟩, ⟨by repeat (first | (with_reducible first | exact HB.out | apply below_alloc | apply pw_below_drewN | apply below_drew1 | refine below_set ?_ GE156.out) | exact HB.out)⟩⟩
              case rest =>
                clear HC7
                try clear c1
                try clear p1
                try clear q1
                try clear hx1
                try clear p2
                try clear c3
                try clear c4
                try clear c4b0
                try clear c5
                try clear c5b0
                try clear c6
                try clear c6b0
                try clear c10
                try clear c11
                try clear c13
                try clear c14
                try clear c14b0
                try clear c14b1
                try clear c15
                try clear c15b0
                try clear p15
                try clear q15
                try clear hx15
                try clear hcz16_0
                try clear hcz16_1
                try clear hcz16_2
                try clear hcz18_0
                try clear hcz18_1
                try clear hcz18_2
                try clear hcz20_0
                try clear hcz20_1
                try clear hcz20_2
                try clear hcz21_0
                try clear hcz21_1
                try clear hcz21_2
                try clear hcz22_0
                try clear hcz22_1
                try clear hcz22_2
                try clear hcz9_0
                try clear hcz9_1
                try clear hcz9_2
                try clear hfz16_0
                try clear hfz16_1
                try clear hfz16_2
                try clear hfz18_0
                try clear hfz18_1
                try clear hfz18_2
                try clear hfz20_0
                try clear hfz20_1
                try clear hfz20_2
                try clear hfz21_0
                try clear hfz21_1
                try clear hfz21_2
                try clear hfz22_0
                try clear hfz22_1
                try clear hfz22_2
                try clear hfz9_0
                try clear hfz9_1
                try clear hfz9_2
                try clear hx155_0
                try clear hx155_1
                try clear hx155_2
                try clear p155
                try clear p2
                try clear q155
                obtain ⟨kq, x43_6, rfl, HA, HJ6, BK156, HB⟩ := hcut
                cases kq with
                | zero => exact absurd HA.out (by simp [spec_IsKernel.j1])
                | succ kj6 =>
                  have H := HA.out
                  clear HA
                  simp only [spec_IsKernel.j1] at H
                  by_cases c23 : x43_6 = true
                  · subst c23
                    have H1 : (some false) = some r := by rw [if_pos rfl] at H; exact H
                    clear H
                    have H := H1
                    clear H1
                    obtain rfl := Option.some.inj H
                    go_wp2
                    go_ret
                    exact ⟨by first | rfl | (simp [errW_none, errW_some] <;> rfl) | (simp [*, errW_none, errW_some] <;> rfl), by repeat (first | (with_reducible first | exact HB.out | apply below_alloc | apply pw_below_drewN | apply below_drew1 | refine below_set ?_ GE156.out) | exact HB.out)⟩
                  · replace c23 := Bool.eq_false_iff.mpr c23
                    subst c23
                    have H1 : (if 0 ≤ x13_1 then (if x13_1 ≤ (l0.length : Int) then ((some (l0.take (x13_1 : Int).toNat : List (S47))).bind fun y161 => (spec_IsKernel.l1 kj6 l0 l0 (l0.length : Int) x13_1 y161 (y161.length : Int) 0 ((rd_T47 l0 x13_1).f0) ((rd_T47 l0 x13_1).f1) ((rd_T47 l0 x13_1).f2))) else (none)) else (none)) = some r := by rw [if_neg (show ¬ (false = true) by decide)] at H; exact H
                    clear H
                    have H := H1
                    clear H1
                    by_cases c24 : 0 ≤ x13_1
                    · rw [if_pos c24] at H
                      have c24b0 := eq_true c24
                      have c24b1 : decide (0 ≤ x13_1) = true := decide_eq_true c24
                      clear c24
                      by_cases c25 : x13_1 ≤ (l0.length : Int)
                      · rw [if_pos c25] at H
                        have c25b0 := eq_true c25
                        have c25b1 : decide (x13_1 ≤ (l0.length : Int)) = true := decide_eq_true c25
                        clear c25
                        obtain ⟨y161, hy161⟩ : ∃ y_ : List (S47), y_ = (l0.take (x13_1 : Int).toNat) := ⟨_, rfl⟩
                        replace H : (spec_IsKernel.l1 kj6 l0 l0 (l0.length : Int) x13_1 y161 (y161.length : Int) 0 ((rd_T47 l0 x13_1).f0) ((rd_T47 l0 x13_1).f1) ((rd_T47 l0 x13_1).f2)) = some r := by first | (rw [hy161]; with_reducible exact H) | (have H2_ := (Option.bind_some _ _).symm.trans H; rw [hy161]; with_reducible exact H2_) | (have H2_ := (Option.bind_some _ _).symm.trans H; with_reducible exact H2_) | with_reducible exact H | (rw [hy161]; exact H) | exact H
                        have Ny161 := Aside0.mk hy161
                        clear hy161
                        have H' := Aside0.mk H
                        clear H
                        have q26 : (x13_1 : Int) ≤ ((l0.length : Int) : Int) := of_decide_eq_true (by first | (with_reducible assumption) | assumption)
                        obtain ⟨i026, hi026, _, hsz26, _⟩ := info_parts info47
                        have hroom26 : l0.length ≤ c0 := HC0.out
                        have hC26 : Kd.C k47 _ (some ad155) l0.length l0 := HR0.out
                        have hcut26 := cut_to (P := Try.prog) 22 47 .i64 Try.underlying22 hi026 (some ad155) l0.length c0 x13_1 (of_decide_eq_true (by first | (with_reducible assumption) | assumption)) q26 hroom26
                        have hr26 := Kd.C_take (m := (x13_1 : Int).toNat) hC26 (by omega)
                        have hy26 : y161.length = (x13_1 : Int).toNat := (by rw [Ny161.out, List.length_take]; omega)
                        rw [← Ny161.out] at hr26
                        rw [← hy26] at hcut26
                        have HR164 := Aside0.mk hr26
                        have HC164 := Aside0.mk (show y161.length ≤ c0 from by omega)
                        clear hr26 hC26 hroom26 hi026 hsz26
                        have KY26 := Aside0.mk hy26
                        clear hy26
                        replace q26 := eq_true q26
                        go_wp2
                        go_loopg [48] kj6 (fun kq v48 w' => ∃ (x48_3 : Int), v48 = .int .i64 x48_3 ∧ Aside0 (spec_IsKernel.l1 kq l0 l0 (l0.length : Int) x13_1 y161 (y161.length : Int) x48_3 ((rd_T47 l0 x13_1).f0) ((rd_T47 l0 x13_1).f1) ((rd_T47 l0 x13_1).f2) = some r) ∧ Aside0 (kq ≤ kj6) ∧ Aside0 (w'.heap[gb156]? = some (.cells #[.int .i64 ((rd_T47 l0 x13_1).f0), .int .i64 ((rd_T47 l0 x13_1).f1), .int .i64 ((rd_T47 l0 x13_1).f2)] 47 (0, 0))) ∧ Aside0 (Below w.heap.size w w'))
                        case atStart => exact ⟨(0), (by first | rfl | (simp; done) | (simp [*]; done)), H', ⟨Nat.le_refl _⟩, ⟨by (with_reducible repeat (first | refine blk_drewN ?_ _ | refine blk_drew ?_ | refine blk_alloc ?_ _)); exact BK156.out⟩, ⟨by repeat (first | (with_reducible first | exact HB.out | apply below_alloc | apply pw_below_drewN | apply below_drew1 | refine below_set ?_ GE156.out) | exact HB.out)⟩⟩
                        case round =>
                          clear H'
                          try clear c1
                          try clear p1
                          try clear q1
                          try clear hx1
                          try clear c2
                          try clear p2
                          try clear q2
                          try clear c3
                          try clear c4
                          try clear c4b0
                          try clear c5
                          try clear c5b0
                          try clear c6
                          try clear c6b0
                          try clear c10
                          try clear c11
                          try clear c13
                          try clear c14
                          try clear c14b0
                          try clear c14b1
                          try clear c15
                          try clear c15b0
                          try clear p15
                          try clear q15
                          try clear hx15
                          try clear c23
                          try clear c24
                          try clear c24b0
                          try clear c24b1
                          try clear c25
                          try clear c25b0
                          try clear c25b1
                          try clear q26
                          try clear hcz16_0
                          try clear hcz16_1
                          try clear hcz16_2
                          try clear hcz18_0
                          try clear hcz18_1
                          try clear hcz18_2
                          try clear hcz20_0
                          try clear hcz20_1
                          try clear hcz20_2
                          try clear hcz21_0
                          try clear hcz21_1
                          try clear hcz21_2
                          try clear hcz22_0
                          try clear hcz22_1
                          try clear hcz22_2
                          try clear hcz9_0
                          try clear hcz9_1
                          try clear hcz9_2
                          try clear hfz16_0
                          try clear hfz16_1
                          try clear hfz16_2
                          try clear hfz18_0
                          try clear hfz18_1
                          try clear hfz18_2
                          try clear hfz20_0
                          try clear hfz20_1
                          try clear hfz20_2
                          try clear hfz21_0
                          try clear hfz21_1
                          try clear hfz21_2
                          try clear hfz22_0
                          try clear hfz22_1
                          try clear hfz22_2
                          try clear hfz9_0
                          try clear hfz9_1
                          try clear hfz9_2
                          try clear hx155_0
                          try clear hx155_1
                          try clear hx155_2
                          try clear p1
                          try clear p15
                          try clear p155
                          try clear p2
                          try clear q1
                          try clear q15
                          try clear q155
                          try clear q26
                          obtain ⟨x48_3, rfl, HA, HK3, BK156, HB⟩ := hrel
                          cases gk with
                          | zero => exact absurd HA.out (by simp [spec_IsKernel.l1])
                          | succ k3 =>
                            have H := HA.out
                            clear HA
                            simp only [spec_IsKernel.l1] at H
                            by_cases c27 : x48_3 < (y161.length : Int)
                            · rw [if_pos c27] at H
                              have c27b0 : decide (x48_3 < (y161.length : Int)) = true := decide_eq_true c27
                              clear c27
                              by_cases c28 : 0 ≤ x48_3
                              · rw [if_pos c28] at H
                                have c28b0 : decide (0 ≤ x48_3) = true := decide_eq_true c28
                                clear c28
                                by_cases c29 : x48_3 < (y161.length : Int)
                                · rw [if_pos c29] at H
                                  have c29b0 : decide (x48_3 < (y161.length : Int)) = true := decide_eq_true c29
                                  clear c29
                                  by_cases c30 : ((rd_T47 l0 x13_1).f0) = ((rd_T47 y161 x48_3).f0)
                                  · rw [if_pos c30] at H
                                    have c30b0 : (((rd_T47 l0 x13_1).f0) == ((rd_T47 y161 x48_3).f0)) = true := beq_iff_eq.mpr c30
                                    have c30b1 : (((rd_T47 l0 x13_1).f0) != ((rd_T47 y161 x48_3).f0)) = false := bne_eq_false_iff_eq.mpr c30
                                    clear c30
                                    by_cases c31 : ((rd_T47 l0 x13_1).f1) = ((rd_T47 y161 x48_3).f1)
                                    · rw [if_pos c31] at H
                                      have c31b0 : (((rd_T47 l0 x13_1).f1) == ((rd_T47 y161 x48_3).f1)) = true := beq_iff_eq.mpr c31
                                      have c31b1 : (((rd_T47 l0 x13_1).f1) != ((rd_T47 y161 x48_3).f1)) = false := bne_eq_false_iff_eq.mpr c31
                                      clear c31
                                      obtain rfl := Option.some.inj H
                                      have p165 : 0 ≤ (x48_3 : Int) := of_decide_eq_true (by first | (with_reducible assumption) | assumption)
                                      have q165 : x48_3 < (y161.length : Int) := of_decide_eq_true (by first | (with_reducible assumption) | assumption)
                                      obtain ⟨ad165, e165, hx165_0, hx165_1, hx165_2⟩ := at_T47 HR164.out x48_3 p165 q165
                                      obtain rfl : ad155 = ad165 := (by injection e165)
                                      replace hx165_0 := (HB.out.cell (World.block_lt_of_cell? w _ hx165_0)).trans hx165_0
                                      replace hx165_1 := (HB.out.cell (World.block_lt_of_cell? w _ hx165_1)).trans hx165_1
                                      replace hx165_2 := (HB.out.cell (World.block_lt_of_cell? w _ hx165_2)).trans hx165_2
                                      replace p165 := eq_true p165
                                      replace q165 := eq_true q165
                                      go_wp2_with (first | ((with_reducible refine gate_dst (N := 6) rfl ?_); refine box_event ?hg (N := 6) ?hd (cs := #[.int .i64 0, .int .i64 0, .int .i64 0]) (t := 47) ?hr ?_; (case hd => rfl); (case hg => rfl); (case hr => first | (go_simp; done) | (go_simp; rfl)); intro gb166 hg w32 hbox hb; have n0_ := Aside0.mk (blk_below (g := gb156) (o := .cells #[.int .i64 ((rd_T47 l0 x13_1).f0), .int .i64 ((rd_T47 l0 x13_1).f1), .int .i64 ((rd_T47 l0 x13_1).f2)] 47 (0, 0)) (by (with_reducible repeat (first | refine blk_drewN ?_ _ | refine blk_drew ?_ | refine blk_alloc ?_ _)); exact BK156.out) hb); have n1_ := Aside0.mk (below_step (by repeat (first | (with_reducible first | exact HB.out | apply below_alloc | apply pw_below_drewN | apply below_drew1 | refine below_set ?_ GE156.out) | exact HB.out)) hb); have n2_ := Aside0.mk (hbox); have n3_ := Aside0.mk ((by rw [hg]; exact (below_size (by repeat (first | (with_reducible first | exact HB.out | apply below_alloc | apply pw_below_drewN | apply below_drew1 | refine below_set ?_ GE156.out) | exact HB.out))) : w.heap.size ≤ gb166)); have n4_ := Aside0.mk ((by rw [hg]; exact (below_size (by repeat (first | (with_reducible first | exact HB.out | apply below_alloc | apply pw_below_drewN | apply below_drew1 | refine below_set ?_ GE156.out) | exact HB.out))) : w.heap.size ≤ gb166)); have n5_ := Aside0.mk ((by rw [hg]; exact Nat.ne_of_lt (blk_lt (g := gb156) (o := .cells #[.int .i64 ((rd_T47 l0 x13_1).f0), .int .i64 ((rd_T47 l0 x13_1).f1), .int .i64 ((rd_T47 l0 x13_1).f2)] 47 (0, 0)) (by (with_reducible repeat (first | refine blk_drewN ?_ _ | refine blk_drew ?_ | refine blk_alloc ?_ _)); exact BK156.out)) : gb156 ≠ gb166)); have n6_ := Aside0.mk ((by rw [hg]; exact Nat.ne_of_gt (blk_lt (g := gb156) (o := .cells #[.int .i64 ((rd_T47 l0 x13_1).f0), .int .i64 ((rd_T47 l0 x13_1).f1), .int .i64 ((rd_T47 l0 x13_1).f2)] 47 (0, 0)) (by (with_reducible repeat (first | refine blk_drewN ?_ _ | refine blk_drew ?_ | refine blk_alloc ?_ _)); exact BK156.out)) : gb166 ≠ gb156)); clear BK156; clear HB; have BK156 := n0_; have HB := n1_; have BK166 := n2_; have GW166 := n3_; have GE166 := n4_; have NB156_166 := n5_; have NB166_156 := n6_; clear n0_ n1_ n2_ n3_ n4_ n5_ n6_; clear hb hbox hg; have hnb33 := NB166_156.out; have hnc33 := NB156_166.out; have hcz34_0 : w32.cell? ⟨gb166, 0, none⟩ = some (.int .i64 0) := (blk_cell BK166.out 0).trans rfl; have hcz34_1 : w32.cell? ⟨gb166, 1, none⟩ = some (.int .i64 0) := (blk_cell BK166.out 1).trans rfl; have hcz34_2 : w32.cell? ⟨gb166, 2, none⟩ = some (.int .i64 0) := (blk_cell BK166.out 2).trans rfl; have hfz34_0 := blk_frozen BK166.out 0; have hfz34_1 := blk_frozen BK166.out 1; have hfz34_2 := blk_frozen BK166.out 2; have hcz35_0 : w32.cell? ⟨gb156, 0, none⟩ = some (.int .i64 ((rd_T47 l0 x13_1).f0)) := (blk_cell BK156.out 0).trans rfl; have hcz35_1 : w32.cell? ⟨gb156, 1, none⟩ = some (.int .i64 ((rd_T47 l0 x13_1).f1)) := (blk_cell BK156.out 1).trans rfl; have hcz35_2 : w32.cell? ⟨gb156, 2, none⟩ = some (.int .i64 ((rd_T47 l0 x13_1).f2)) := (blk_cell BK156.out 2).trans rfl; have hfz35_0 := blk_frozen BK156.out 0; have hfz35_1 := blk_frozen BK156.out 1; have hfz35_2 := blk_frozen BK156.out 2))
                                      go_ret
                                      exact ⟨by first | rfl | (simp [errW_none, errW_some] <;> rfl) | (simp [*, errW_none, errW_some] <;> rfl), by repeat (first | (with_reducible first | exact HB.out | apply below_alloc | apply pw_below_drewN | apply below_drew1 | refine below_set ?_ GE156.out | refine below_set ?_ GE166.out) | exact HB.out)⟩
                                    · rw [if_neg c31] at H
                                      have c31b0 : (((rd_T47 l0 x13_1).f1) == ((rd_T47 y161 x48_3).f1)) = false := beq_eq_false_iff_ne.mpr c31
                                      have c31b1 : (((rd_T47 l0 x13_1).f1) != ((rd_T47 y161 x48_3).f1)) = true := bne_iff_ne.mpr c31
                                      have H' := Aside0.mk H
                                      clear H
                                      have p165 : 0 ≤ (x48_3 : Int) := of_decide_eq_true (by first | (with_reducible assumption) | assumption)
                                      have q165 : x48_3 < (y161.length : Int) := of_decide_eq_true (by first | (with_reducible assumption) | assumption)
                                      obtain ⟨ad165, e165, hx165_0, hx165_1, hx165_2⟩ := at_T47 HR164.out x48_3 p165 q165
                                      obtain rfl : ad155 = ad165 := (by injection e165)
                                      replace hx165_0 := (HB.out.cell (World.block_lt_of_cell? w _ hx165_0)).trans hx165_0
                                      replace hx165_1 := (HB.out.cell (World.block_lt_of_cell? w _ hx165_1)).trans hx165_1
                                      replace hx165_2 := (HB.out.cell (World.block_lt_of_cell? w _ hx165_2)).trans hx165_2
                                      replace p165 := eq_true p165
                                      replace q165 := eq_true q165
                                      go_wp2_with (first | ((with_reducible refine gate_dst (N := 6) rfl ?_); refine box_event ?hg (N := 6) ?hd (cs := #[.int .i64 0, .int .i64 0, .int .i64 0]) (t := 47) ?hr ?_; (case hd => rfl); (case hg => rfl); (case hr => first | (go_simp; done) | (go_simp; rfl)); intro gb166 hg w36 hbox hb; have n0_ := Aside0.mk (blk_below (g := gb156) (o := .cells #[.int .i64 ((rd_T47 l0 x13_1).f0), .int .i64 ((rd_T47 l0 x13_1).f1), .int .i64 ((rd_T47 l0 x13_1).f2)] 47 (0, 0)) (by (with_reducible repeat (first | refine blk_drewN ?_ _ | refine blk_drew ?_ | refine blk_alloc ?_ _)); exact BK156.out) hb); have n1_ := Aside0.mk (below_step (by repeat (first | (with_reducible first | exact HB.out | apply below_alloc | apply pw_below_drewN | apply below_drew1 | refine below_set ?_ GE156.out) | exact HB.out)) hb); have n2_ := Aside0.mk (hbox); have n3_ := Aside0.mk ((by rw [hg]; exact (below_size (by repeat (first | (with_reducible first | exact HB.out | apply below_alloc | apply pw_below_drewN | apply below_drew1 | refine below_set ?_ GE156.out) | exact HB.out))) : w.heap.size ≤ gb166)); have n4_ := Aside0.mk ((by rw [hg]; exact (below_size (by repeat (first | (with_reducible first | exact HB.out | apply below_alloc | apply pw_below_drewN | apply below_drew1 | refine below_set ?_ GE156.out) | exact HB.out))) : w.heap.size ≤ gb166)); have n5_ := Aside0.mk ((by rw [hg]; exact Nat.ne_of_lt (blk_lt (g := gb156) (o := .cells #[.int .i64 ((rd_T47 l0 x13_1).f0), .int .i64 ((rd_T47 l0 x13_1).f1), .int .i64 ((rd_T47 l0 x13_1).f2)] 47 (0, 0)) (by (with_reducible repeat (first | refine blk_drewN ?_ _ | refine blk_drew ?_ | refine blk_alloc ?_ _)); exact BK156.out)) : gb156 ≠ gb166)); have n6_ := Aside0.mk ((by rw [hg]; exact Nat.ne_of_gt (blk_lt (g := gb156) (o := .cells #[.int .i64 ((rd_T47 l0 x13_1).f0), .int .i64 ((rd_T47 l0 x13_1).f1), .int .i64 ((rd_T47 l0 x13_1).f2)] 47 (0, 0)) (by (with_reducible repeat (first | refine blk_drewN ?_ _ | refine blk_drew ?_ | refine blk_alloc ?_ _)); exact BK156.out)) : gb166 ≠ gb156)); clear BK156; clear HB; have BK156 := n0_; have HB := n1_; have BK166 := n2_; have GW166 := n3_; have GE166 := n4_; have NB156_166 := n5_; have NB166_156 := n6_; clear n0_ n1_ n2_ n3_ n4_ n5_ n6_; clear hb hbox hg; have hnb37 := NB166_156.out; have hnc37 := NB156_166.out; have hcz38_0 : w36.cell? ⟨gb166, 0, none⟩ = some (.int .i64 0) := (blk_cell BK166.out 0).trans rfl; have hcz38_1 : w36.cell? ⟨gb166, 1, none⟩ = some (.int .i64 0) := (blk_cell BK166.out 1).trans rfl; have hcz38_2 : w36.cell? ⟨gb166, 2, none⟩ = some (.int .i64 0) := (blk_cell BK166.out 2).trans rfl; have hfz38_0 := blk_frozen BK166.out 0; have hfz38_1 := blk_frozen BK166.out 1; have hfz38_2 := blk_frozen BK166.out 2; have hcz39_0 : w36.cell? ⟨gb156, 0, none⟩ = some (.int .i64 ((rd_T47 l0 x13_1).f0)) := (blk_cell BK156.out 0).trans rfl; have hcz39_1 : w36.cell? ⟨gb156, 1, none⟩ = some (.int .i64 ((rd_T47 l0 x13_1).f1)) := (blk_cell BK156.out 1).trans rfl; have hcz39_2 : w36.cell? ⟨gb156, 2, none⟩ = some (.int .i64 ((rd_T47 l0 x13_1).f2)) := (blk_cell BK156.out 2).trans rfl; have hfz39_0 := blk_frozen BK156.out 0; have hfz39_1 := blk_frozen BK156.out 1; have hfz39_2 := blk_frozen BK156.out 2))
                                      go_roundg k3
                                      case measure => have := HK1.out; have := HJ6.out; have := HK3.out; omega
                                      case rel => exact ⟨(wrap64 (x48_3 + 1)), (by first | rfl | (simp; done) | (simp [*]; done)), H', ⟨by have := HK1.out; have := HJ6.out; have := HK3.out; omega⟩, ⟨by (with_reducible repeat (first | refine blk_drewN ?_ _ | refine blk_drew ?_ | refine blk_alloc ?_ _)); refine blk_far ?_ NB156_166.out _; (with_reducible repeat (first | refine blk_drewN ?_ _ | refine blk_drew ?_ | refine blk_alloc ?_ _)); refine blk_far ?_ NB156_166.out _; (with_reducible repeat (first | refine blk_drewN ?_ _ | refine blk_drew ?_ | refine blk_alloc ?_ _)); refine blk_far ?_ NB156_166.out _; (with_reducible repeat (first | refine blk_drewN ?_ _ | refine blk_drew ?_ | refine blk_alloc ?_ _)); exact BK156.out⟩, ⟨by repeat (first | (with_reducible first | exact HB.out | apply below_alloc | apply pw_below_drewN | apply below_drew1 | refine below_set ?_ GE156.out | refine below_set ?_ GE166.out) | exact HB.out)⟩⟩
                                  · rw [if_neg c30] at H
                                    have c30b0 : (((rd_T47 l0 x13_1).f0) == ((rd_T47 y161 x48_3).f0)) = false := beq_eq_false_iff_ne.mpr c30
                                    have c30b1 : (((rd_T47 l0 x13_1).f0) != ((rd_T47 y161 x48_3).f0)) = true := bne_iff_ne.mpr c30
                                    have H' := Aside0.mk H
                                    clear H
                                    have p165 : 0 ≤ (x48_3 : Int) := of_decide_eq_true (by first | (with_reducible assumption) | assumption)
                                    have q165 : x48_3 < (y161.length : Int) := of_decide_eq_true (by first | (with_reducible assumption) | assumption)
                                    obtain ⟨ad165, e165, hx165_0, hx165_1, hx165_2⟩ := at_T47 HR164.out x48_3 p165 q165
                                    obtain rfl : ad155 = ad165 := (by injection e165)
                                    replace hx165_0 := (HB.out.cell (World.block_lt_of_cell? w _ hx165_0)).trans hx165_0
                                    replace hx165_1 := (HB.out.cell (World.block_lt_of_cell? w _ hx165_1)).trans hx165_1
                                    replace hx165_2 := (HB.out.cell (World.block_lt_of_cell? w _ hx165_2)).trans hx165_2
                                    replace p165 := eq_true p165
                                    replace q165 := eq_true q165
                                    go_wp2_with (first | ((with_reducible refine gate_dst (N := 6) rfl ?_); refine box_event ?hg (N := 6) ?hd (cs := #[.int .i64 0, .int .i64 0, .int .i64 0]) (t := 47) ?hr ?_; (case hd => rfl); (case hg => rfl); (case hr => first | (go_simp; done) | (go_simp; rfl)); intro gb166 hg w40 hbox hb; have n0_ := Aside0.mk (blk_below (g := gb156) (o := .cells #[.int .i64 ((rd_T47 l0 x13_1).f0), .int .i64 ((rd_T47 l0 x13_1).f1), .int .i64 ((rd_T47 l0 x13_1).f2)] 47 (0, 0)) (by (with_reducible repeat (first | refine blk_drewN ?_ _ | refine blk_drew ?_ | refine blk_alloc ?_ _)); exact BK156.out) hb); have n1_ := Aside0.mk (below_step (by repeat (first | (with_reducible first | exact HB.out | apply below_alloc | apply pw_below_drewN | apply below_drew1 | refine below_set ?_ GE156.out) | exact HB.out)) hb); have n2_ := Aside0.mk (hbox); have n3_ := Aside0.mk ((by rw [hg]; exact (below_size (by repeat (first | (with_reducible first | exact HB.out | apply below_alloc | apply pw_below_drewN | apply below_drew1 | refine below_set ?_ GE156.out) | exact HB.out))) : w.heap.size ≤ gb166)); have n4_ := Aside0.mk ((by rw [hg]; exact (below_size (by repeat (first | (with_reducible first | exact HB.out | apply below_alloc | apply pw_below_drewN | apply below_drew1 | refine below_set ?_ GE156.out) | exact HB.out))) : w.heap.size ≤ gb166)); have n5_ := Aside0.mk ((by rw [hg]; exact Nat.ne_of_lt (blk_lt (g := gb156) (o := .cells #[.int .i64 ((rd_T47 l0 x13_1).f0), .int .i64 ((rd_T47 l0 x13_1).f1), .int .i64 ((rd_T47 l0 x13_1).f2)] 47 (0, 0)) (by (with_reducible repeat (first | refine blk_drewN ?_ _ | refine blk_drew ?_ | refine blk_alloc ?_ _)); exact BK156.out)) : gb156 ≠ gb166)); have n6_ := Aside0.mk ((by rw [hg]; exact Nat.ne_of_gt (blk_lt (g := gb156) (o := .cells #[.int .i64 ((rd_T47 l0 x13_1).f0), .int .i64 ((rd_T47 l0 x13_1).f1), .int .i64 ((rd_T47 l0 x13_1).f2)] 47 (0, 0)) (by (with_reducible repeat (first | refine blk_drewN ?_ _ | refine blk_drew ?_ | refine blk_alloc ?_ _)); exact BK156.out)) : gb166 ≠ gb156)); clear BK156; clear HB; have BK156 := n0_; have HB := n1_; have BK166 := n2_; have GW166 := n3_; have GE166 := n4_; have NB156_166 := n5_; have NB166_156 := n6_; clear n0_ n1_ n2_ n3_ n4_ n5_ n6_; clear hb hbox hg; have hnb41 := NB166_156.out; have hnc41 := NB156_166.out; have hcz42_0 : w40.cell? ⟨gb166, 0, none⟩ = some (.int .i64 0) := (blk_cell BK166.out 0).trans rfl; have hcz42_1 : w40.cell? ⟨gb166, 1, none⟩ = some (.int .i64 0) := (blk_cell BK166.out 1).trans rfl; have hcz42_2 : w40.cell? ⟨gb166, 2, none⟩ = some (.int .i64 0) := (blk_cell BK166.out 2).trans rfl; have hfz42_0 := blk_frozen BK166.out 0; have hfz42_1 := blk_frozen BK166.out 1; have hfz42_2 := blk_frozen BK166.out 2; have hcz43_0 : w40.cell? ⟨gb156, 0, none⟩ = some (.int .i64 ((rd_T47 l0 x13_1).f0)) := (blk_cell BK156.out 0).trans rfl; have hcz43_1 : w40.cell? ⟨gb156, 1, none⟩ = some (.int .i64 ((rd_T47 l0 x13_1).f1)) := (blk_cell BK156.out 1).trans rfl; have hcz43_2 : w40.cell? ⟨gb156, 2, none⟩ = some (.int .i64 ((rd_T47 l0 x13_1).f2)) := (blk_cell BK156.out 2).trans rfl; have hfz43_0 := blk_frozen BK156.out 0; have hfz43_1 := blk_frozen BK156.out 1; have hfz43_2 := blk_frozen BK156.out 2))
                                    go_roundg k3
                                    case measure => have := HK1.out; have := HJ6.out; have := HK3.out; omega
                                    case rel => exact ⟨(wrap64 (x48_3 + 1)), (by first | rfl | (simp; done) | (simp [*]; done)), H', ⟨by have := HK1.out; have := HJ6.out; have := HK3.out; omega⟩, ⟨by (with_reducible repeat (first | refine blk_drewN ?_ _ | refine blk_drew ?_ | refine blk_alloc ?_ _)); refine blk_far ?_ NB156_166.out _; (with_reducible repeat (first | refine blk_drewN ?_ _ | refine blk_drew ?_ | refine blk_alloc ?_ _)); refine blk_far ?_ NB156_166.out _; (with_reducible repeat (first | refine blk_drewN ?_ _ | refine blk_drew ?_ | refine blk_alloc ?_ _)); refine blk_far ?_ NB156_166.out _; (with_reducible repeat (first | refine blk_drewN ?_ _ | refine blk_drew ?_ | refine blk_alloc ?_ _)); exact BK156.out⟩, ⟨by repeat (first | (with_reducible first | exact HB.out | apply below_alloc | apply pw_below_drewN | apply below_drew1 | refine below_set ?_ GE156.out | refine below_set ?_ GE166.out) | exact HB.out)⟩⟩
                                · rw [if_neg c29] at H
                                  exact absurd H (by simp)
                              · rw [if_neg c28] at H
                                exact absurd H (by simp)
                            · rw [if_neg c27] at H
                              have c27b0 : decide (x48_3 < (y161.length : Int)) = false := decide_eq_false c27
                              clear c27
                              have H' := Aside0.mk H
                              clear H
                              go_wp2
                              go_roundg k3
                              case measure => have := HK1.out; have := HJ6.out; have := HK3.out; omega
                              case rel => exact ⟨(wrap64 (x13_1 + 1)), (by first | rfl | (simp; done) | (simp [*]; done)), H', ⟨by have := HK1.out; have := HJ6.out; have := HK3.out; omega⟩, ⟨by repeat (first | (with_reducible first | exact HB.out | apply below_alloc | apply pw_below_drewN | apply below_drew1 | refine below_set ?_ GE156.out) | exact HB.out)⟩⟩
                      · rw [if_neg c25] at H
                        exact absurd H (by simp)
                    · rw [if_neg c24] at H
                      exact absurd H (by simp)
            · rw [if_neg c6] at H
              exact absurd H (by simp)
          · rw [if_neg c5] at H
            exact absurd H (by simp)
        · rw [if_neg c4] at H
          have c4b0 : decide (x13_1 < (l0.length : Int)) = false := decide_eq_false c4
          clear c4
          obtain rfl := Option.some.inj H
          go_wp2
          go_ret
          exact ⟨by first | rfl | (simp [errW_none, errW_some] <;> rfl) | (simp [*, errW_none, errW_some] <;> rfl), by repeat (first | (with_reducible first | exact HB.out | apply below_alloc | apply pw_below_drewN | apply below_drew1) | exact HB.out)⟩
  · replace c3 := Bool.eq_false_iff.mpr c3
    subst c3
    have H1 : (some false) = some r := by rw [if_neg (show ¬ (false = true) by decide)] at H; exact H
    clear H
    have H := H1
    clear H1
    obtain rfl := Option.some.inj H
    go_enter Try.func43, Try.ntmps43
    go_wp2_with (first | ((with_reducible refine gate_callee (f := 106) rfl ?_); refine goesL_ (some 9) rfl rfl Try.func106 (by kernel_rfl) rfl #[.int .i64 (l0.length : Int), .int .i64 1, .int .i64 12] rfl (by (try simp only [List.map_toArray, List.map_cons, List.map_nil]); first | done | rfl | (simp only [List.length_drop, List.length_take]; rfl)) ?_; (with_reducible refine (spec_l1In.calls (l0.length : Int) 1 12 false _ A2.out).mono ?_); rintro e w' ⟨rfl, ⟨nd, rfl⟩⟩; refine ⟨_, rfl, ?_⟩))
    go_ret
    exact ⟨by first | rfl | (simp [errW_none, errW_some] <;> rfl) | (simp [*, errW_none, errW_some] <;> rfl), by repeat (first | (with_reducible first | exact HB.out | apply below_alloc | apply pw_below_drewN | apply below_drew1) | exact HB.out)⟩

end Go.Proofs.Ytbgbbfdmgpcgmaa.P
