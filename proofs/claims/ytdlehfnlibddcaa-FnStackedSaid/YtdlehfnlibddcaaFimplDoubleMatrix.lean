-- Written by tools/seatprint.py (over the kit's print, changed in memory). Not trusted: Lean checks it.
import Derived.Test.YtdlehfnlibddcaaP0
import Derived.Test.YtdlehfnlibddcaaFpre
import Derived.Test.YtdlehfnlibddcaaFimplranked
import Derived.Test.YtdlehfnlibddcaaFimplcelled
import Derived.Test.YtdlehfnlibddcaaFimplIsMatrix
import Derived.Test.YtdlehfnlibddcaaFimplrank
namespace Go.Proofs.Ytdlehfnlibddcaa.P
open Go.RowKit Go.Proofs.YtdlehfnlibddcaaW.PrintWords Go.Proofs.YtdlehfnlibddcaaW.PrintLast Go.Proofs.YtdlehfnlibddcaaW.PrintMore
attribute [local go_sem] max2_int min2_int max_two min_two max_three min_three max_four min_four   -- for this text's walks alone
set_option linter.unusedVariables false
set_option linter.unusedSimpArgs false

/-! ### impl_DoubleMatrix: function 31 -/
def impl_DoubleMatrix.quarter (w h x y : Int) : Int := if y < h then (if x < w then 0 else 2) else (if x < w then 3 else 1)
theorem impl_DoubleMatrix.tdiv2 (x w : Int) (hw : 1 ≤ w) (hx0 : 0 ≤ x) (hx : x < 2 * w) : Int.tdiv x w = if x < w then 0 else 1 := by
  rw [Int.tdiv_eq_ediv_of_nonneg hx0]
  by_cases c : x < w
  · rw [if_pos c, Int.ediv_eq_zero_of_lt hx0 c]
  · rw [if_neg c]
    have : x = (x - w) + 1 * w := by omega
    rw [this, Int.add_mul_ediv_right _ _ (by omega), Int.ediv_eq_zero_of_lt (by omega) (by omega)]
    rfl
set_option maxHeartbeats 8000000 in
set_option maxRecDepth 100000 in
theorem impl_DoubleMatrix.clo (W : World) (g : Nat) (w h : Int) (A : Option Addr) (l : List Int) (c : Nat) (x y : Int) (q0 : 1 ≤ w) (q1 : w ≤ 256) (q2 : 1 ≤ h) (q3 : h ≤ 256) (hl : (l.length : Int) = w * h) (hx0 : 0 ≤ x) (hx : x < 2 * w) (hy0 : 0 ≤ y) (hy : y < 2 * h) (BK : W.heap[g]? = some (.cells #[.int .i64 w, .int .i64 h, .slice A l.length c] 26 (0, 0))) (HC : Kd.C (Kd.int .i64) W A l.length l) (hc : l.length ≤ c) :
    Calls Try.prog 90 #[.int .i64 x, .int .i64 y, .pointer (some ⟨g, 0, none⟩)] W fun e w' => e = .returned (.int .i64 (wrap64 (wrap64 (4 * rd l (y % h * w + x % w)) + impl_DoubleMatrix.quarter w h x y))) ∧ Below W.heap.size W w' := by
  have huM := Try.underlying26
  have hu1 := Try.underlying81
  have hu2 := Try.underlying82
  have tx := impl_DoubleMatrix.tdiv2 x w q0 hx0 hx
  have ty := impl_DoubleMatrix.tdiv2 y h q2 hy0 hy
  have hc0 : W.cell? ⟨g, 0, none⟩ = some (.int .i64 w) := (blk_cell BK 0).trans rfl
  have hc1 : W.cell? ⟨g, 1, none⟩ = some (.int .i64 h) := (blk_cell BK 1).trans rfl
  have hc2 : W.cell? ⟨g, 2, none⟩ = some (.slice A l.length c) := (blk_cell BK 2).trans rfl
  have d1 : (w == 0) = false := beq_eq_false_iff_ne.mpr (by omega)
  have d2 : (h == 0) = false := beq_eq_false_iff_ne.mpr (by omega)
  have d3 : ¬ (w = 0) := by omega
  have d4 : ¬ (h = 0) := by omega
  have HC := Aside0.mk HC
  have HL := Aside0.mk hc
  have HE := Aside0.mk hl
  clear BK hc hl hx0 hx hy0 hy
  obtain ⟨R, hR⟩ : ∃ R : Int, rd l (y % h * w + x % w) = R := ⟨_, rfl⟩
  have HR := Aside0.mk hR
  rw [hR]
  clear hR
  have w0 : IntKind.i64.wrap 0 = 0 := by decide
  have w1 : IntKind.i64.wrap 1 = 1 := by decide
  have i20 : ∀ w, (Instr.index 82 (.agg #[.int .i64 0, .int .i64 2, .int .i64 3, .int .i64 1]) (.int .i64 0)).run Try.prog w = .ok (.agg #[.int .i64 0, .int .i64 2]) w := fun _ => by kernel_rfl
  have i21 : ∀ w, (Instr.index 82 (.agg #[.int .i64 0, .int .i64 2, .int .i64 3, .int .i64 1]) (.int .i64 1)).run Try.prog w = .ok (.agg #[.int .i64 3, .int .i64 1]) w := fun _ => by kernel_rfl
  have i00 : ∀ w, (Instr.index 81 (.agg #[.int .i64 0, .int .i64 2]) (.int .i64 0)).run Try.prog w = .ok (.int .i64 0) w := fun _ => by kernel_rfl
  have i01 : ∀ w, (Instr.index 81 (.agg #[.int .i64 0, .int .i64 2]) (.int .i64 1)).run Try.prog w = .ok (.int .i64 2) w := fun _ => by kernel_rfl
  have i10 : ∀ w, (Instr.index 81 (.agg #[.int .i64 3, .int .i64 1]) (.int .i64 0)).run Try.prog w = .ok (.int .i64 3) w := fun _ => by kernel_rfl
  have i11 : ∀ w, (Instr.index 81 (.agg #[.int .i64 3, .int .i64 1]) (.int .i64 1)).run Try.prog w = .ok (.int .i64 1) w := fun _ => by kernel_rfl
  unfold impl_DoubleMatrix.quarter
  by_cases cy : y < h
  · skip
    rw [if_pos cy] at ty ⊢
    clear cy
    by_cases cx : x < w
    · rw [if_pos cx] at tx ⊢
      clear cx
      go_enter Try.func90, Try.ntmps90
      go_wp2
      go_quiet (fail)
      go_wp2_with (go_at_call 88; with_reducible refine (rank_calls w h A c l x y _ (Kd.C_drewN HC.out _) HL.out q0 q1 q2 q3 HE.out).mono ?_; rintro e w3 ⟨rfl, hb3⟩; rw [HR.out]; have HB3 := Aside0.mk hb3; clear hb3)
      go_ret
      exact ⟨by first | rfl | (rw [Int.add_zero]; rfl), below_step (pw_below_drewN (Below.refl _ _) _) HB3.out⟩
    · rw [if_neg cx] at tx ⊢
      clear cx
      go_enter Try.func90, Try.ntmps90
      go_wp2
      go_quiet (fail)
      go_wp2_with (go_at_call 88; with_reducible refine (rank_calls w h A c l x y _ (Kd.C_drewN HC.out _) HL.out q0 q1 q2 q3 HE.out).mono ?_; rintro e w3 ⟨rfl, hb3⟩; rw [HR.out]; have HB3 := Aside0.mk hb3; clear hb3)
      go_ret
      exact ⟨by first | rfl | (rw [Int.add_zero]; rfl), below_step (pw_below_drewN (Below.refl _ _) _) HB3.out⟩
  · skip
    rw [if_neg cy] at ty ⊢
    clear cy
    by_cases cx : x < w
    · rw [if_pos cx] at tx ⊢
      clear cx
      go_enter Try.func90, Try.ntmps90
      go_wp2
      go_quiet (fail)
      go_wp2_with (go_at_call 88; with_reducible refine (rank_calls w h A c l x y _ (Kd.C_drewN HC.out _) HL.out q0 q1 q2 q3 HE.out).mono ?_; rintro e w3 ⟨rfl, hb3⟩; rw [HR.out]; have HB3 := Aside0.mk hb3; clear hb3)
      go_ret
      exact ⟨by first | rfl | (rw [Int.add_zero]; rfl), below_step (pw_below_drewN (Below.refl _ _) _) HB3.out⟩
    · rw [if_neg cx] at tx ⊢
      clear cx
      go_enter Try.func90, Try.ntmps90
      go_wp2
      go_quiet (fail)
      go_wp2_with (go_at_call 88; with_reducible refine (rank_calls w h A c l x y _ (Kd.C_drewN HC.out _) HL.out q0 q1 q2 q3 HE.out).mono ?_; rintro e w3 ⟨rfl, hb3⟩; rw [HR.out]; have HB3 := Aside0.mk hb3; clear hb3)
      go_ret
      exact ⟨by first | rfl | (rw [Int.add_zero]; rfl), below_step (pw_below_drewN (Below.refl _ _) _) HB3.out⟩

def impl_DoubleMatrix.f (a0_0 : Int) (a0_1 : Int) (l0_2 : List Int) : Option (Int × Int × List Int × Bool) :=
  if matB a0_0 a0_1 l0_2 = true ∧ celledB (2 * a0_0) (2 * a0_1) = true then some ((2 * a0_0), (2 * a0_1), gridL (2 * a0_0) (fun x y => wrap64 (wrap64 (4 * rd l0_2 (y % a0_1 * a0_0 + x % a0_0)) + impl_DoubleMatrix.quarter a0_0 a0_1 x y)) (Int.toNat (2 * a0_1) * Int.toNat (2 * a0_0)), true) else some (0, 0, [], false)
set_option maxHeartbeats 8000000 in
set_option maxRecDepth 100000 in
theorem impl_DoubleMatrix.calls (a0_0 : Int) (a0_1 : Int) (A0_2 : Option Addr) (c0_2 : Nat) (l0_2 : List Int) (r1 : Int) (r2 : Int) (r3 : List Int) (r4 : Bool) (w : World) (hr0_2 : Kd.C (Kd.int .i64) w A0_2 l0_2.length l0_2) (hc0_2 : l0_2.length ≤ c0_2) (h : impl_DoubleMatrix.f a0_0 a0_1 l0_2 = some (r1, r2, r3, r4)) :
  Calls Try.prog 31 #[.agg #[.int .i64 a0_0, .int .i64 a0_1, .slice A0_2 l0_2.length c0_2]] w fun e w' => ∃ v2_ : Value, e = .returned (.tuple #[.agg #[.int .i64 r1, .int .i64 r2, v2_], .bool r4]) ∧ Kd.R (Kd.int .i64) 3 w' w.heap.size (fun _ => True) v2_ r3 ∧ Below w.heap.size w w' := by
 have huP := Try.underlying26
 have hmf : ∀ (fn : Fn) (first cap : Array Value) (w : World), (Instr.makeFunc fn first cap).run Try.prog w = .ok (.func fn first cap) w := fun _ _ _ _ => rfl
 have HC0 := Aside0.mk hr0_2
 have HL0 := Aside0.mk hc0_2
 clear hr0_2 hc0_2
 have HB := Aside0.mk (Below.refl w.heap.size w)
 unfold impl_DoubleMatrix.f at h
 by_cases hg : matB a0_0 a0_1 l0_2 = true ∧ celledB (2 * a0_0) (2 * a0_1) = true
 ·rw [if_pos hg] at h
  simp only [Option.some.injEq, Prod.mk.injEq] at h
  obtain ⟨rfl, rfl, rfl, rfl⟩ := h
  obtain ⟨t0, t1⟩ := hg
  have q_ := mat_spec t0; obtain ⟨qa, qb, qc, qd, _⟩ := q_; have wa : IntKind.i64.wrap (2 * a0_0) = 2 * a0_0 := IntWalk.i64_in _ (by omega); have wb : IntKind.i64.wrap (2 * a0_1) = 2 * a0_1 := IntWalk.i64_in _ (by omega)
  go_enter Try.func31, Try.ntmps31
  go_wp2_with (first | ((with_reducible refine gate_dst (N := 1) rfl ?_); refine box_event ?hg (N := 1) ?hd (cs := #[Value.int .i64 a0_0, Value.int .i64 a0_1, Value.slice A0_2 l0_2.length c0_2]) (t := 26) ?hr ?_; (case hd => rfl); (case hg => rfl); (case hr => first | (go_simp; done) | (go_simp; rfl)); intro gA hg_ wA hbox_ hb_; have n0_ := Aside0.mk (below_step (by first | exact HB.out | exact pw_below_drewN HB.out _ | exact pw_below_drewN (pw_below_drewN HB.out _) _) hb_); have GEA := Aside0.mk (show w.heap.size ≤ gA by rw [hg_]; exact below_size (by first | exact HB.out | exact pw_below_drewN HB.out _ | exact pw_below_drewN (pw_below_drewN HB.out _) _)); clear HB; have HB := n0_; clear n0_; have BKA := Aside0.mk hbox_; clear hbox_ hb_ hg_; have hcA0 := (blk_cell BKA.out 0).trans rfl; have hcA1 := (blk_cell BKA.out 1).trans rfl; have hcA2 := (blk_cell BKA.out 2).trans rfl; have hfA0 := blk_frozen BKA.out 0; have hfA1 := blk_frozen BKA.out 1; have hfA2 := blk_frozen BKA.out 2) | ((with_reducible refine gate_dst (N := 2) rfl ?_); refine box_event ?hg (N := 2) ?hd (cs := #[Value.int .i64 0, Value.int .i64 0, Value.slice none 0 0]) (t := 26) ?hr ?_; (case hd => rfl); (case hg => rfl); (case hr => first | (go_simp; done) | (go_simp; rfl)); intro gR hg_ wR hbox_ hb_; have n0_ := Aside0.mk (below_step (by first | exact HB.out | exact pw_below_drewN HB.out _ | exact pw_below_drewN (pw_below_drewN HB.out _) _) hb_); have GER := Aside0.mk (show w.heap.size ≤ gR by rw [hg_]; exact below_size (by first | exact HB.out | exact pw_below_drewN HB.out _ | exact pw_below_drewN (pw_below_drewN HB.out _) _)); have n_ := Aside0.mk (by first | exact blk_below BKA.out hb_ | exact blk_below (blk_drewN BKA.out _) hb_ | exact blk_below (blk_drewN (blk_drewN BKA.out _) _) hb_); clear BKA; have BKA := n_; clear n_ HB; have HB := n0_; clear n0_; have BKR := Aside0.mk hbox_; clear hbox_ hb_ hg_; have hcA0 := (blk_cell BKA.out 0).trans rfl; have hcA1 := (blk_cell BKA.out 1).trans rfl; have hcA2 := (blk_cell BKA.out 2).trans rfl; have hfA0 := blk_frozen BKA.out 0; have hfA1 := blk_frozen BKA.out 1; have hfA2 := blk_frozen BKA.out 2; have hcR0 := (blk_cell BKR.out 0).trans rfl; have hcR1 := (blk_cell BKR.out 1).trans rfl; have hcR2 := (blk_cell BKR.out 2).trans rfl; have hfR0 := blk_frozen BKR.out 0; have hfR1 := blk_frozen BKR.out 1; have hfR2 := blk_frozen BKR.out 2) | (go_at_call 28; with_reducible refine (isMatrix_calls a0_0 a0_1 A0_2 c0_2 l0_2 _ (by first | exact Kd.C_below HC0.out HB.out | exact Kd.C_below HC0.out (pw_below_drewN HB.out _)) HL0.out).mono ?_; (rotate_right; rintro e w1 ⟨rfl, hb_⟩; have n0_ := Aside0.mk (below_step (by first | exact HB.out | exact pw_below_drewN HB.out _ | exact pw_below_drewN (pw_below_drewN HB.out _) _) hb_); have n_ := Aside0.mk (by first | exact blk_below BKA.out hb_ | exact blk_below (blk_drewN BKA.out _) hb_ | exact blk_below (blk_drewN (blk_drewN BKA.out _) _) hb_); clear BKA; have BKA := n_; clear n_; have n_ := Aside0.mk (by first | exact blk_below BKR.out hb_ | exact blk_below (blk_drewN BKR.out _) hb_ | exact blk_below (blk_drewN (blk_drewN BKR.out _) _) hb_); clear BKR; have BKR := n_; clear n_ HB; have HB := n0_; clear n0_ hb_; have hcA0 := (blk_cell BKA.out 0).trans rfl; have hcA1 := (blk_cell BKA.out 1).trans rfl; have hcA2 := (blk_cell BKA.out 2).trans rfl; have hfA0 := blk_frozen BKA.out 0; have hfA1 := blk_frozen BKA.out 1; have hfA2 := blk_frozen BKA.out 2; have hcR0 := (blk_cell BKR.out 0).trans rfl; have hcR1 := (blk_cell BKR.out 1).trans rfl; have hcR2 := (blk_cell BKR.out 2).trans rfl; have hfR0 := blk_frozen BKR.out 0; have hfR1 := blk_frozen BKR.out 1; have hfR2 := blk_frozen BKR.out 2)) | (go_at_call 87; with_reducible refine (celled_calls (2 * a0_0) (2 * a0_1) _).mono ?_; rintro e w' ⟨rfl, ⟨nd, rfl⟩⟩) | (go_at_call 82; refine (ranked_calls (2 * a0_0) (2 * a0_1) 90 #[.pointer (some ⟨gA, 0, none⟩)] (fun x y => wrap64 (wrap64 (4 * rd l0_2 (y % a0_1 * a0_0 + x % a0_0)) + impl_DoubleMatrix.quarter a0_0 a0_1 x y)) _ ?d0 ?d1 ?d2 ?d3 ?deg ?df).mono ?_; (rotate_right; rintro e w5 ⟨v5, rfl, hR, hb_⟩; have HBO := HB; have n0_ := Aside0.mk (below_step (by first | exact HB.out | exact pw_below_drewN HB.out _ | exact pw_below_drewN (pw_below_drewN HB.out _) _) hb_); have n_ := Aside0.mk (by first | exact blk_below BKA.out hb_ | exact blk_below (blk_drewN BKA.out _) hb_ | exact blk_below (blk_drewN (blk_drewN BKA.out _) _) hb_); clear BKA; have BKA := n_; clear n_; have n_ := Aside0.mk (by first | exact blk_below BKR.out hb_ | exact blk_below (blk_drewN BKR.out _) hb_ | exact blk_below (blk_drewN (blk_drewN BKR.out _) _) hb_); clear BKR; have BKR := n_; clear n_; have HR := Aside0.mk hR; clear hR HB; have HB := n0_; clear n0_ hb_; obtain ⟨Ao, co, eo⟩ := Kd.R_slice HR.out; subst eo; have hcA0 := (blk_cell BKA.out 0).trans rfl; have hcA1 := (blk_cell BKA.out 1).trans rfl; have hcA2 := (blk_cell BKA.out 2).trans rfl; have hfA0 := blk_frozen BKA.out 0; have hfA1 := blk_frozen BKA.out 1; have hfA2 := blk_frozen BKA.out 2; have hcR0 := (blk_cell BKR.out 0).trans rfl; have hcR1 := (blk_cell BKR.out 1).trans rfl; have hcR2 := (blk_cell BKR.out 2).trans rfl; have hfR0 := blk_frozen BKR.out 0; have hfR1 := blk_frozen BKR.out 1; have hfR2 := blk_frozen BKR.out 2)))
  case d0 => have := celled_spec t1; omega
  case d1 => have := celled_spec t1; omega
  case d2 => have := celled_spec t1; omega
  case d3 => have := celled_spec t1; omega
  case deg => exact fun args W => enters_ Try.func90 (by kernel_rfl) rfl args W
  case df =>
   intro W x y hb hx0 hx hy0 hy
   have q := mat_spec t0; exact impl_DoubleMatrix.clo W gA a0_0 a0_1 A0_2 l0_2 c0_2 x y q.1 q.2.1 q.2.2.1 q.2.2.2.1 q.2.2.2.2.2.1 hx0 hx hy0 hy (by first | exact blk_below BKA.out hb | exact blk_below (blk_drewN BKA.out _) hb) (Kd.C_below HC0.out (below_step (by first | exact HB.out | exact pw_below_drewN HB.out _ | exact pw_below_drewN (pw_below_drewN HB.out _) _) hb)) HL0.out
  refine bodyPost_ret (results_ct rfl _ _ gR 26 #[.int .i64 (2 * a0_0), .int .i64 (2 * a0_1), .slice Ao (gridL (2 * a0_0) (fun x y => wrap64 (wrap64 (4 * rd l0_2 (y % a0_1 * a0_0 + x % a0_0)) + impl_DoubleMatrix.quarter a0_0 a0_1 x y)) (Int.toNat (2 * a0_1) * Int.toNat (2 * a0_0))).length co] (0, 0) _ rfl (by refine blk_put (cs := #[.int .i64 (2 * a0_0), .int .i64 (2 * a0_1), .slice none 0 0]) ?_ 2 _ rfl; refine blk_put (cs := #[.int .i64 (2 * a0_0), .int .i64 0, .slice none 0 0]) ?_ 1 _ rfl; refine blk_put (cs := #[.int .i64 0, .int .i64 0, .slice none 0 0]) ?_ 0 _ rfl; first | exact BKR.out | exact blk_drewN BKR.out _ | exact blk_drewN (blk_drewN BKR.out _) _) Try.underlying26 rfl (by kernel_rfl)) rfl ?_
  exact ⟨_, rfl, Kd.R_mono (Kd.R_far (p := ⟨gR, 2, none⟩) (Kd.R_far (p := ⟨gR, 1, none⟩) (Kd.R_far (p := ⟨gR, 0, none⟩) (Kd.R_types (Kd.R_lower HR.out (by first | exact below_size HBO.out | exact below_size (pw_below_drewN HBO.out _))) BKR.out (by decide)) (fun _ hk => hk.2) _) (fun _ hk => hk.2) _) (fun _ hk => hk.2) _) (fun _ hk => trivial), below_set (below_set (below_set HB.out GER.out) GER.out) GER.out⟩
 rw [if_neg hg] at h
 simp only [Option.some.injEq, Prod.mk.injEq] at h
 obtain ⟨rfl, rfl, rfl, rfl⟩ := h
 by_cases t0 : matB a0_0 a0_1 l0_2 = true
 ·have q_ := t0
  clear q_
  by_cases t1 : celledB (2 * a0_0) (2 * a0_1) = true
  ·have q_ := t1
   clear q_
   exact absurd ⟨t0, t1⟩ hg
  replace t1 := Bool.eq_false_iff.mpr t1
  have q_ := mat_spec t0; obtain ⟨qa, qb, qc, qd, _⟩ := q_; have wa : IntKind.i64.wrap (2 * a0_0) = 2 * a0_0 := IntWalk.i64_in _ (by omega); have wb : IntKind.i64.wrap (2 * a0_1) = 2 * a0_1 := IntWalk.i64_in _ (by omega)
  clear hg
  go_enter Try.func31, Try.ntmps31
  go_wp2_with (first | ((with_reducible refine gate_dst (N := 1) rfl ?_); refine box_event ?hg (N := 1) ?hd (cs := #[Value.int .i64 a0_0, Value.int .i64 a0_1, Value.slice A0_2 l0_2.length c0_2]) (t := 26) ?hr ?_; (case hd => rfl); (case hg => rfl); (case hr => first | (go_simp; done) | (go_simp; rfl)); intro gA hg_ wA hbox_ hb_; have n0_ := Aside0.mk (below_step (by first | exact HB.out | exact pw_below_drewN HB.out _ | exact pw_below_drewN (pw_below_drewN HB.out _) _) hb_); have GEA := Aside0.mk (show w.heap.size ≤ gA by rw [hg_]; exact below_size (by first | exact HB.out | exact pw_below_drewN HB.out _ | exact pw_below_drewN (pw_below_drewN HB.out _) _)); clear HB; have HB := n0_; clear n0_; have BKA := Aside0.mk hbox_; clear hbox_ hb_ hg_; have hcA0 := (blk_cell BKA.out 0).trans rfl; have hcA1 := (blk_cell BKA.out 1).trans rfl; have hcA2 := (blk_cell BKA.out 2).trans rfl; have hfA0 := blk_frozen BKA.out 0; have hfA1 := blk_frozen BKA.out 1; have hfA2 := blk_frozen BKA.out 2) | ((with_reducible refine gate_dst (N := 2) rfl ?_); refine box_event ?hg (N := 2) ?hd (cs := #[Value.int .i64 0, Value.int .i64 0, Value.slice none 0 0]) (t := 26) ?hr ?_; (case hd => rfl); (case hg => rfl); (case hr => first | (go_simp; done) | (go_simp; rfl)); intro gR hg_ wR hbox_ hb_; have n0_ := Aside0.mk (below_step (by first | exact HB.out | exact pw_below_drewN HB.out _ | exact pw_below_drewN (pw_below_drewN HB.out _) _) hb_); have GER := Aside0.mk (show w.heap.size ≤ gR by rw [hg_]; exact below_size (by first | exact HB.out | exact pw_below_drewN HB.out _ | exact pw_below_drewN (pw_below_drewN HB.out _) _)); have n_ := Aside0.mk (by first | exact blk_below BKA.out hb_ | exact blk_below (blk_drewN BKA.out _) hb_ | exact blk_below (blk_drewN (blk_drewN BKA.out _) _) hb_); clear BKA; have BKA := n_; clear n_ HB; have HB := n0_; clear n0_; have BKR := Aside0.mk hbox_; clear hbox_ hb_ hg_; have hcA0 := (blk_cell BKA.out 0).trans rfl; have hcA1 := (blk_cell BKA.out 1).trans rfl; have hcA2 := (blk_cell BKA.out 2).trans rfl; have hfA0 := blk_frozen BKA.out 0; have hfA1 := blk_frozen BKA.out 1; have hfA2 := blk_frozen BKA.out 2; have hcR0 := (blk_cell BKR.out 0).trans rfl; have hcR1 := (blk_cell BKR.out 1).trans rfl; have hcR2 := (blk_cell BKR.out 2).trans rfl; have hfR0 := blk_frozen BKR.out 0; have hfR1 := blk_frozen BKR.out 1; have hfR2 := blk_frozen BKR.out 2) | (go_at_call 28; with_reducible refine (isMatrix_calls a0_0 a0_1 A0_2 c0_2 l0_2 _ (by first | exact Kd.C_below HC0.out HB.out | exact Kd.C_below HC0.out (pw_below_drewN HB.out _)) HL0.out).mono ?_; (rotate_right; rintro e w1 ⟨rfl, hb_⟩; have n0_ := Aside0.mk (below_step (by first | exact HB.out | exact pw_below_drewN HB.out _ | exact pw_below_drewN (pw_below_drewN HB.out _) _) hb_); have n_ := Aside0.mk (by first | exact blk_below BKA.out hb_ | exact blk_below (blk_drewN BKA.out _) hb_ | exact blk_below (blk_drewN (blk_drewN BKA.out _) _) hb_); clear BKA; have BKA := n_; clear n_; have n_ := Aside0.mk (by first | exact blk_below BKR.out hb_ | exact blk_below (blk_drewN BKR.out _) hb_ | exact blk_below (blk_drewN (blk_drewN BKR.out _) _) hb_); clear BKR; have BKR := n_; clear n_ HB; have HB := n0_; clear n0_ hb_; have hcA0 := (blk_cell BKA.out 0).trans rfl; have hcA1 := (blk_cell BKA.out 1).trans rfl; have hcA2 := (blk_cell BKA.out 2).trans rfl; have hfA0 := blk_frozen BKA.out 0; have hfA1 := blk_frozen BKA.out 1; have hfA2 := blk_frozen BKA.out 2; have hcR0 := (blk_cell BKR.out 0).trans rfl; have hcR1 := (blk_cell BKR.out 1).trans rfl; have hcR2 := (blk_cell BKR.out 2).trans rfl; have hfR0 := blk_frozen BKR.out 0; have hfR1 := blk_frozen BKR.out 1; have hfR2 := blk_frozen BKR.out 2)) | (go_at_call 87; with_reducible refine (celled_calls (2 * a0_0) (2 * a0_1) _).mono ?_; rintro e w' ⟨rfl, ⟨nd, rfl⟩⟩))
  refine bodyPost_ret (results_ct rfl _ _ gR 26 #[.int .i64 0, .int .i64 0, .slice none 0 0] (0, 0) _ rfl (by refine blk_put (cs := #[.int .i64 0, .int .i64 0, .slice none 0 0]) ?_ 2 _ rfl; refine blk_put (cs := #[.int .i64 0, .int .i64 0, .slice none 0 0]) ?_ 1 _ rfl; refine blk_put (cs := #[.int .i64 0, .int .i64 0, .slice none 0 0]) ?_ 0 _ rfl; first | exact BKR.out | exact blk_drewN BKR.out _ | exact blk_drewN (blk_drewN BKR.out _) _) Try.underlying26 rfl (by kernel_rfl)) rfl ?_
  exact ⟨_, rfl, Kd.R_nil _ _ _ _ _, below_set (below_set (below_set (by first | exact HB.out | exact pw_below_drewN HB.out _ | exact pw_below_drewN (pw_below_drewN HB.out _) _) GER.out) GER.out) GER.out⟩
 replace t0 := Bool.eq_false_iff.mpr t0
 clear hg
 go_enter Try.func31, Try.ntmps31
 go_wp2_with (first | ((with_reducible refine gate_dst (N := 1) rfl ?_); refine box_event ?hg (N := 1) ?hd (cs := #[Value.int .i64 a0_0, Value.int .i64 a0_1, Value.slice A0_2 l0_2.length c0_2]) (t := 26) ?hr ?_; (case hd => rfl); (case hg => rfl); (case hr => first | (go_simp; done) | (go_simp; rfl)); intro gA hg_ wA hbox_ hb_; have n0_ := Aside0.mk (below_step (by first | exact HB.out | exact pw_below_drewN HB.out _ | exact pw_below_drewN (pw_below_drewN HB.out _) _) hb_); have GEA := Aside0.mk (show w.heap.size ≤ gA by rw [hg_]; exact below_size (by first | exact HB.out | exact pw_below_drewN HB.out _ | exact pw_below_drewN (pw_below_drewN HB.out _) _)); clear HB; have HB := n0_; clear n0_; have BKA := Aside0.mk hbox_; clear hbox_ hb_ hg_; have hcA0 := (blk_cell BKA.out 0).trans rfl; have hcA1 := (blk_cell BKA.out 1).trans rfl; have hcA2 := (blk_cell BKA.out 2).trans rfl; have hfA0 := blk_frozen BKA.out 0; have hfA1 := blk_frozen BKA.out 1; have hfA2 := blk_frozen BKA.out 2) | ((with_reducible refine gate_dst (N := 2) rfl ?_); refine box_event ?hg (N := 2) ?hd (cs := #[Value.int .i64 0, Value.int .i64 0, Value.slice none 0 0]) (t := 26) ?hr ?_; (case hd => rfl); (case hg => rfl); (case hr => first | (go_simp; done) | (go_simp; rfl)); intro gR hg_ wR hbox_ hb_; have n0_ := Aside0.mk (below_step (by first | exact HB.out | exact pw_below_drewN HB.out _ | exact pw_below_drewN (pw_below_drewN HB.out _) _) hb_); have GER := Aside0.mk (show w.heap.size ≤ gR by rw [hg_]; exact below_size (by first | exact HB.out | exact pw_below_drewN HB.out _ | exact pw_below_drewN (pw_below_drewN HB.out _) _)); have n_ := Aside0.mk (by first | exact blk_below BKA.out hb_ | exact blk_below (blk_drewN BKA.out _) hb_ | exact blk_below (blk_drewN (blk_drewN BKA.out _) _) hb_); clear BKA; have BKA := n_; clear n_ HB; have HB := n0_; clear n0_; have BKR := Aside0.mk hbox_; clear hbox_ hb_ hg_; have hcA0 := (blk_cell BKA.out 0).trans rfl; have hcA1 := (blk_cell BKA.out 1).trans rfl; have hcA2 := (blk_cell BKA.out 2).trans rfl; have hfA0 := blk_frozen BKA.out 0; have hfA1 := blk_frozen BKA.out 1; have hfA2 := blk_frozen BKA.out 2; have hcR0 := (blk_cell BKR.out 0).trans rfl; have hcR1 := (blk_cell BKR.out 1).trans rfl; have hcR2 := (blk_cell BKR.out 2).trans rfl; have hfR0 := blk_frozen BKR.out 0; have hfR1 := blk_frozen BKR.out 1; have hfR2 := blk_frozen BKR.out 2) | (go_at_call 28; with_reducible refine (isMatrix_calls a0_0 a0_1 A0_2 c0_2 l0_2 _ (by first | exact Kd.C_below HC0.out HB.out | exact Kd.C_below HC0.out (pw_below_drewN HB.out _)) HL0.out).mono ?_; (rotate_right; rintro e w1 ⟨rfl, hb_⟩; have n0_ := Aside0.mk (below_step (by first | exact HB.out | exact pw_below_drewN HB.out _ | exact pw_below_drewN (pw_below_drewN HB.out _) _) hb_); have n_ := Aside0.mk (by first | exact blk_below BKA.out hb_ | exact blk_below (blk_drewN BKA.out _) hb_ | exact blk_below (blk_drewN (blk_drewN BKA.out _) _) hb_); clear BKA; have BKA := n_; clear n_; have n_ := Aside0.mk (by first | exact blk_below BKR.out hb_ | exact blk_below (blk_drewN BKR.out _) hb_ | exact blk_below (blk_drewN (blk_drewN BKR.out _) _) hb_); clear BKR; have BKR := n_; clear n_ HB; have HB := n0_; clear n0_ hb_; have hcA0 := (blk_cell BKA.out 0).trans rfl; have hcA1 := (blk_cell BKA.out 1).trans rfl; have hcA2 := (blk_cell BKA.out 2).trans rfl; have hfA0 := blk_frozen BKA.out 0; have hfA1 := blk_frozen BKA.out 1; have hfA2 := blk_frozen BKA.out 2; have hcR0 := (blk_cell BKR.out 0).trans rfl; have hcR1 := (blk_cell BKR.out 1).trans rfl; have hcR2 := (blk_cell BKR.out 2).trans rfl; have hfR0 := blk_frozen BKR.out 0; have hfR1 := blk_frozen BKR.out 1; have hfR2 := blk_frozen BKR.out 2)) | (go_at_call 87; with_reducible refine (celled_calls (2 * a0_0) (2 * a0_1) _).mono ?_; rintro e w' ⟨rfl, ⟨nd, rfl⟩⟩))
 refine bodyPost_ret (results_ct rfl _ _ gR 26 #[.int .i64 0, .int .i64 0, .slice none 0 0] (0, 0) _ rfl (by refine blk_put (cs := #[.int .i64 0, .int .i64 0, .slice none 0 0]) ?_ 2 _ rfl; refine blk_put (cs := #[.int .i64 0, .int .i64 0, .slice none 0 0]) ?_ 1 _ rfl; refine blk_put (cs := #[.int .i64 0, .int .i64 0, .slice none 0 0]) ?_ 0 _ rfl; first | exact BKR.out | exact blk_drewN BKR.out _ | exact blk_drewN (blk_drewN BKR.out _) _) Try.underlying26 rfl (by kernel_rfl)) rfl ?_
 exact ⟨_, rfl, Kd.R_nil _ _ _ _ _, below_set (below_set (below_set (by first | exact HB.out | exact pw_below_drewN HB.out _ | exact pw_below_drewN (pw_below_drewN HB.out _) _) GER.out) GER.out) GER.out⟩


end Go.Proofs.Ytdlehfnlibddcaa.P
