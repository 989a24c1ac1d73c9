-- Written by tools/seatprint.py (over the kit's print, changed in memory). Not trusted: Lean checks it.
import Derived.Test.YtndnklicfibkeaaP0
import Derived.Test.YtndnklicfibkeaaFslicesCloneintint
namespace Go.Proofs.Ytndnklicfibkeaa.P
open Go.RowKit Go.Proofs.YtndnklicfibkeaaW.PrintWords Go.Proofs.YtndnklicfibkeaaW.PrintLast Go.Proofs.YtndnklicfibkeaaW.PrintMore
attribute [local go_sem] max2_int min2_int max_two min_two max_three min_three max_four min_four   -- for this text's walks alone
set_option linter.unusedVariables false
set_option linter.unusedSimpArgs false

/-! ### impl_copied: function 55 -/
def impl_copied.f (a0_0 a0_1 : Int) (l0_2 : List Int) : Option (Int × Int × List Int) := if l0_2.length ≤ 1048576 then some (a0_0, a0_1, l0_2) else none
set_option maxHeartbeats 8000000 in
set_option maxRecDepth 100000 in
theorem impl_copied.calls (a0_0 : Int) (a0_1 : Int) (A0_2 : Option Addr) (c0_2 : Nat) (l0_2 : List Int) (r1 : Int) (r2 : Int) (r3 : List Int) (w : World) (hr0_2 : Kd.C (Kd.int .i64) w A0_2 l0_2.length l0_2) (hc0_2 : l0_2.length ≤ c0_2) (h : impl_copied.f a0_0 a0_1 l0_2 = some (r1, r2, r3)) :
    Calls Try.prog 55 #[.agg #[.int .i64 a0_0, .int .i64 a0_1, .slice A0_2 l0_2.length c0_2]] w fun e w' => ∃ v2_ : Value, e = .returned (.agg #[.int .i64 r1, .int .i64 r2, v2_]) ∧ Kd.R (Kd.int .i64) 3 w' w.heap.size (fun _ => True) v2_ r3 ∧ Below w.heap.size w w' := by
  have huP := Try.underlying27
  unfold impl_copied.f at h
  by_cases hl : l0_2.length ≤ 1048576
  · rw [if_pos hl] at h
    simp only [Option.some.injEq, Prod.mk.injEq] at h
    obtain ⟨rfl, rfl, rfl⟩ := h
    have HC0 := Aside0.mk hr0_2
    clear hr0_2 hc0_2
    have HB := Aside0.mk (Below.refl w.heap.size w)
    go_enter Try.func55, Try.ntmps55
    go_wp2_with (first | ((with_reducible refine gate_dst (N := 1) rfl ?_); refine box_event ?hg (N := 1) ?hd (cs := #[Value.int .i64 a0_0, Value.int .i64 a0_1, Value.slice A0_2 l0_2.length c0_2]) (t := 27) ?hr ?_; (case hd => rfl); (case hg => rfl); (case hr => first | (go_simp; done) | (go_simp; rfl)); intro gA hg_ wA hbox_ hb_; have n0_ := Aside0.mk (below_step (by first | exact HB.out | exact pw_below_drewN HB.out _ | exact pw_below_drewN (pw_below_drewN HB.out _) _) hb_); have GEA := Aside0.mk (show w.heap.size ≤ gA by rw [hg_]; exact below_size (by first | exact HB.out | exact pw_below_drewN HB.out _ | exact pw_below_drewN (pw_below_drewN HB.out _) _)); clear HB; have HB := n0_; clear n0_; have BKA := Aside0.mk hbox_; clear hbox_ hb_ hg_; have hcA0 := (blk_cell BKA.out 0).trans rfl; have hcA1 := (blk_cell BKA.out 1).trans rfl; have hcA2 := (blk_cell BKA.out 2).trans rfl; have hfA0 := blk_frozen BKA.out 0; have hfA1 := blk_frozen BKA.out 1; have hfA2 := blk_frozen BKA.out 2) | ((with_reducible refine gate_dst (N := 2) rfl ?_); refine box_event ?hg (N := 2) ?hd (cs := #[Value.int .i64 0, Value.int .i64 0, Value.slice none 0 0]) (t := 27) ?hr ?_; (case hd => rfl); (case hg => rfl); (case hr => first | (go_simp; done) | (go_simp; rfl)); intro gR hg_ wR hbox_ hb_; have BKA0 := BKA; have hgR := hg_; have n0_ := Aside0.mk (below_step (by first | exact HB.out | exact pw_below_drewN HB.out _ | exact pw_below_drewN (pw_below_drewN HB.out _) _) hb_); have GER := Aside0.mk (show w.heap.size ≤ gR by rw [hg_]; exact below_size (by first | exact HB.out | exact pw_below_drewN HB.out _ | exact pw_below_drewN (pw_below_drewN HB.out _) _)); have n_ := Aside0.mk (by first | exact blk_below BKA.out hb_ | exact blk_below (blk_drewN BKA.out _) hb_ | exact blk_below (blk_drewN (blk_drewN BKA.out _) _) hb_); clear BKA; have BKA := n_; clear n_; clear HB; have HB := n0_; clear n0_; have BKR := Aside0.mk hbox_; clear hbox_ hb_ hg_; have hcA0 := (blk_cell BKA.out 0).trans rfl; have hcA1 := (blk_cell BKA.out 1).trans rfl; have hcA2 := (blk_cell BKA.out 2).trans rfl; have hfA0 := blk_frozen BKA.out 0; have hfA1 := blk_frozen BKA.out 1; have hfA2 := blk_frozen BKA.out 2; have hcR0 := (blk_cell BKR.out 0).trans rfl; have hcR1 := (blk_cell BKR.out 1).trans rfl; have hcR2 := (blk_cell BKR.out 2).trans rfl; have hfR0 := blk_frozen BKR.out 0; have hfR1 := blk_frozen BKR.out 1; have hfR2 := blk_frozen BKR.out 2; have nAR0 := Aside0.mk (show gA ≠ gR from fun e_ => by have := blk_lt BKA0.out; omega); clear BKA0 hgR) | (go_at_call 65; with_reducible refine (clone_calls A0_2 c0_2 l0_2 _ (Kd.C_below HC0.out HB.out) hl).mono ?_; (rintro e w1 ⟨v5, rfl, hR, hb_⟩; have HBO := HB; have n0_ := Aside0.mk (below_step HB.out hb_); have n_ := Aside0.mk (by first | exact blk_below BKA.out hb_ | exact blk_below (blk_drewN BKA.out _) hb_ | exact blk_below (blk_drewN (blk_drewN BKA.out _) _) hb_); clear BKA; have BKA := n_; clear n_; have n_ := Aside0.mk (by first | exact blk_below BKR.out hb_ | exact blk_below (blk_drewN BKR.out _) hb_ | exact blk_below (blk_drewN (blk_drewN BKR.out _) _) hb_); clear BKR; have BKR := n_; clear n_; have HR := Aside0.mk hR; clear hR HB; have HB := n0_; clear n0_ hb_; obtain ⟨Ao, co, eo⟩ := Kd.R_slice HR.out; subst eo; have nAR : gA ≠ gR := nAR0.out; have nRA := nAR.symm; have hcA0 := (blk_cell BKA.out 0).trans rfl; have hcA1 := (blk_cell BKA.out 1).trans rfl; have hcA2 := (blk_cell BKA.out 2).trans rfl; have hfA0 := blk_frozen BKA.out 0; have hfA1 := blk_frozen BKA.out 1; have hfA2 := blk_frozen BKA.out 2; have hcR0 := (blk_cell BKR.out 0).trans rfl; have hcR1 := (blk_cell BKR.out 1).trans rfl; have hcR2 := (blk_cell BKR.out 2).trans rfl; have hfR0 := blk_frozen BKR.out 0; have hfR1 := blk_frozen BKR.out 1; have hfR2 := blk_frozen BKR.out 2)))
    have HB2 := Aside0.mk (below_set (j := 2) (v := .slice Ao l0_2.length co) HB.out GEA.out)
    have BKR2 := Aside0.mk (blk_far (p := ⟨gA, 2, none⟩) BKR.out nAR.symm (.slice Ao l0_2.length co))
    refine bodyPost_ret (results_cell_row rfl _ _ gR 27 #[.int .i64 a0_0, .int .i64 a0_1, .slice Ao l0_2.length co] (0, 0) _ rfl (by refine blk_put (cs := #[.int .i64 a0_0, .int .i64 a0_1, .slice none 0 0]) ?_ 2 _ rfl; refine blk_put (cs := #[.int .i64 a0_0, .int .i64 0, .slice none 0 0]) ?_ 1 _ rfl; refine blk_put (cs := #[.int .i64 0, .int .i64 0, .slice none 0 0]) ?_ 0 _ rfl; exact BKR2.out) Try.underlying27 rfl (by kernel_rfl)) rfl ?_
    exact ⟨_, rfl, Kd.R_mono (Kd.R_far (p := ⟨gR, 2, none⟩) (Kd.R_far (p := ⟨gR, 1, none⟩) (Kd.R_far (p := ⟨gR, 0, none⟩) (Kd.R_types (Kd.R_mono (Kd.R_far (p := ⟨gA, 2, none⟩) (Kd.R_types (Kd.R_lower HR.out (below_size HBO.out)) BKA.out (by decide)) (fun _ hk => hk.2) (.slice Ao l0_2.length co)) (fun _ hk => hk.1)) BKR2.out (by decide)) (fun _ hk => hk.2) _) (fun _ hk => hk.2) _) (fun _ hk => hk.2) _) (fun _ hk => trivial), below_set (below_set (below_set HB2.out GER.out) GER.out) GER.out⟩
  · rw [if_neg hl] at h
    exact absurd h (by simp)


end Go.Proofs.Ytndnklicfibkeaa.P
