-- Written by tools/seatprint.py (over the kit's print, changed in memory). Not trusted: Lean checks it.
import Derived.Test.YtbgbbfdmgpcgmaaP0
import Derived.Test.YtbgbbfdmgpcgmaaFpre
import Derived.Test.YtbgbbfdmgpcgmaaFimplsized
import Derived.Test.YtbgbbfdmgpcgmaaFimpldrawn
import Derived.Test.YtbgbbfdmgpcgmaaFimplIsPicture
namespace Go.Proofs.Ytbgbbfdmgpcgmaa.P
open Go.RowKit Go.Proofs.YtbgbbfdmgpcgmaaW.PrintWords Go.Proofs.YtbgbbfdmgpcgmaaW.PrintLast Go.Proofs.YtbgbbfdmgpcgmaaW.PrintMore
attribute [local go_sem] max2_int min2_int max_two min_two max_three min_three max_four min_four   -- for this text's walks alone
set_option linter.unusedVariables false
set_option linter.unusedSimpArgs false

/-! ### impl_TilePicture: function 83 -/
set_option maxHeartbeats 8000000 in
set_option maxRecDepth 100000 in
theorem impl_TilePicture.clo (W : World) (g : Nat) (w h : Int) (A : Option Addr) (l : List Int) (cg : Nat) (x y : Int) (hx0 : 0 ≤ x) (hy0 : 0 ≤ y) (hw1 : 1 ≤ w) (hh1 : 1 ≤ h) (hw : w ≤ 64) (hh : h ≤ 64) (hl : (l.length : Int) = w * h) (BK : W.heap[g]? = some (.cells #[.int .i64 w, .int .i64 h, .slice A l.length cg] 37 (0, 0))) (HC : Kd.C (Kd.int .i64) W A l.length l) :
    Calls Try.prog 129 #[.int .i64 x, .int .i64 y, .pointer (some ⟨g, 0, none⟩)] W fun e w' => e = .returned (.int .i64 (rd l (y % h * w + x % w))) ∧ Below W.heap.size W w' := by
  obtain ⟨X, hX⟩ : ∃ X, x % w = X := ⟨_, rfl⟩
  obtain ⟨Y, hY⟩ : ∃ Y, y % h = Y := ⟨_, rfl⟩
  have bx := Int.emod_nonneg x (show w ≠ 0 by omega)
  have bx' := Int.emod_lt_of_pos x (show 0 < w by omega)
  have by_ := Int.emod_nonneg y (show h ≠ 0 by omega)
  have by' := Int.emod_lt_of_pos y (show 0 < h by omega)
  have tx : Int.tmod x w = X := by rw [Int.tmod_eq_emod_of_nonneg hx0]; exact hX
  have ty : Int.tmod y h = Y := by rw [Int.tmod_eq_emod_of_nonneg hy0]; exact hY
  rw [hX] at bx bx'
  rw [hY] at by_ by'
  rw [hX, hY]
  clear hX hY
  have hb := idx_lt (w := w) (h := h) (x := X) (y := Y) (by omega) (by omega) (by omega) (by omega)
  have hm0 : 0 ≤ Y * w := Int.mul_nonneg (by omega) (by omega)
  have hm1 : Y * w ≤ 64 * 64 := Int.le_trans (Int.mul_le_mul_of_nonneg_right (show Y ≤ 64 by omega) (by omega)) (Int.mul_le_mul_of_nonneg_left hw (by omega))
  obtain ⟨adg, e, hx1⟩ := Kd.at_int HC (Y * w + X) (by omega) (by omega)
  cases e
  have hg0 : W.cell? ⟨g, 0, none⟩ = some (.int .i64 w) := (blk_cell BK 0).trans rfl
  have hg1 : W.cell? ⟨g, 1, none⟩ = some (.int .i64 h) := (blk_cell BK 1).trans rfl
  have hg2 : W.cell? ⟨g, 2, none⟩ = some (.slice (some adg) l.length cg) := (blk_cell BK 2).trans rfl
  have p1 : 0 ≤ Y * w + X := by omega
  have p2 : Y * w + X < (l.length : Int) := by omega
  have d1 : (w == 0) = false := beq_eq_false_iff_ne.mpr (by omega)
  have d2 : (h == 0) = false := beq_eq_false_iff_ne.mpr (by omega)
  have d3 : ¬ (w = 0) := by omega
  have d4 : ¬ (h = 0) := by omega
  have w1 : IntKind.i64.wrap (Y * w) = Y * w := IntWalk.i64_in _ (by omega)
  have w2 : IntKind.i64.wrap (Y * w + X) = Y * w + X := IntWalk.i64_in _ (by omega)
  clear hb BK HC hl
  go_enter Try.func129, Try.ntmps129
  go_wp2
  go_quiet (fail)
  go_wp2
  go_ret
  exact ⟨rfl, pw_below_drewN (Below.refl _ _) _⟩

def impl_TilePicture.f (a0_0 : Int) (a0_1 : Int) (l0_2 : List Int) (a1 : Int) (a2 : Int) : Option (Int × Int × List Int × Bool) :=
  if picB a0_0 a0_1 l0_2 255 = true ∧ sizedB a1 a2 = true then some (a1, a2, gridL a1 (fun x y => rd l0_2 (y % a0_1 * a0_0 + x % a0_0)) (Int.toNat a2 * Int.toNat a1), true) else some (0, 0, [], false)
set_option maxHeartbeats 8000000 in
set_option maxRecDepth 100000 in
theorem impl_TilePicture.calls (a0_0 : Int) (a0_1 : Int) (A0_2 : Option Addr) (c0_2 : Nat) (l0_2 : List Int) (a1 : Int) (a2 : Int) (r1 : Int) (r2 : Int) (r3 : List Int) (r4 : Bool) (w : World) (hr0_2 : Kd.C (Kd.int .i64) w A0_2 l0_2.length l0_2) (hc0_2 : l0_2.length ≤ c0_2) (h : impl_TilePicture.f a0_0 a0_1 l0_2 a1 a2 = some (r1, r2, r3, r4)) :
    Calls Try.prog 83 #[.agg #[.int .i64 a0_0, .int .i64 a0_1, .slice A0_2 l0_2.length c0_2], .int .i64 a1, .int .i64 a2] w fun e w' => ∃ v2_ : Value, e = .returned (.tuple #[.agg #[.int .i64 r1, .int .i64 r2, v2_], .bool r4]) ∧ Kd.R (Kd.int .i64) 3 w' w.heap.size (fun _ => True) v2_ r3 ∧ Below w.heap.size w w' := by
  have huP := Try.underlying37
  have hmf : ∀ (fn : Fn) (first cap : Array Value) (w : World), (Instr.makeFunc fn first cap).run Try.prog w = .ok (.func fn first cap) w := fun _ _ _ _ => rfl
  have HC0 := Aside0.mk hr0_2
  have HL0 := Aside0.mk hc0_2
  clear hr0_2 hc0_2
  have HB := Aside0.mk (Below.refl w.heap.size w)
  unfold impl_TilePicture.f at h
  by_cases hg : picB a0_0 a0_1 l0_2 255 = true ∧ sizedB a1 a2 = true
  · rw [if_pos hg] at h
    simp only [Option.some.injEq, Prod.mk.injEq] at h
    obtain ⟨rfl, rfl, rfl, rfl⟩ := h
    obtain ⟨t0, t1⟩ := hg
    go_enter Try.func83, Try.ntmps83
    go_wp2_with (first | ((with_reducible refine gate_dst (N := 3) rfl ?_); refine box_event ?hg (N := 3) ?hd (cs := #[Value.int .i64 a0_0, Value.int .i64 a0_1, Value.slice A0_2 l0_2.length c0_2]) (t := 37) ?hr ?_; (case hd => rfl); (case hg => rfl); (case hr => first | (go_simp; done) | (go_simp; rfl)); intro gA hg_ wA hbox_ hb_; have n0_ := Aside0.mk (below_step (by first | exact HB.out | exact pw_below_drewN HB.out _ | exact pw_below_drewN (pw_below_drewN HB.out _) _) hb_); have GEA := Aside0.mk (show w.heap.size ≤ gA by rw [hg_]; exact below_size (by first | exact HB.out | exact pw_below_drewN HB.out _ | exact pw_below_drewN (pw_below_drewN HB.out _) _)); clear HB; have HB := n0_; clear n0_; have BKA := Aside0.mk hbox_; clear hbox_ hb_ hg_; have hcA0 := (blk_cell BKA.out 0).trans rfl; have hcA1 := (blk_cell BKA.out 1).trans rfl; have hcA2 := (blk_cell BKA.out 2).trans rfl; have hfA0 := blk_frozen BKA.out 0; have hfA1 := blk_frozen BKA.out 1; have hfA2 := blk_frozen BKA.out 2) | ((with_reducible refine gate_dst (N := 6) rfl ?_); refine box_event ?hg (N := 6) ?hd (cs := #[Value.int .i64 0, Value.int .i64 0, Value.slice none 0 0]) (t := 37) ?hr ?_; (case hd => rfl); (case hg => rfl); (case hr => first | (go_simp; done) | (go_simp; rfl)); intro gR hg_ wR hbox_ hb_; have n0_ := Aside0.mk (below_step (by first | exact HB.out | exact pw_below_drewN HB.out _ | exact pw_below_drewN (pw_below_drewN HB.out _) _) hb_); have GER := Aside0.mk (show w.heap.size ≤ gR by rw [hg_]; exact below_size (by first | exact HB.out | exact pw_below_drewN HB.out _ | exact pw_below_drewN (pw_below_drewN HB.out _) _)); have n_ := Aside0.mk (by first | exact blk_below BKA.out hb_ | exact blk_below (blk_drewN BKA.out _) hb_ | exact blk_below (blk_drewN (blk_drewN BKA.out _) _) hb_); clear BKA; have BKA := n_; clear n_; clear HB; have HB := n0_; clear n0_; have BKR := Aside0.mk hbox_; clear hbox_ hb_ hg_; have hcA0 := (blk_cell BKA.out 0).trans rfl; have hcA1 := (blk_cell BKA.out 1).trans rfl; have hcA2 := (blk_cell BKA.out 2).trans rfl; have hfA0 := blk_frozen BKA.out 0; have hfA1 := blk_frozen BKA.out 1; have hfA2 := blk_frozen BKA.out 2; have hcR0 := (blk_cell BKR.out 0).trans rfl; have hcR1 := (blk_cell BKR.out 1).trans rfl; have hcR2 := (blk_cell BKR.out 2).trans rfl; have hfR0 := blk_frozen BKR.out 0; have hfR1 := blk_frozen BKR.out 1; have hfR2 := blk_frozen BKR.out 2) | (go_at_call 61; with_reducible refine (isPicture_calls a0_0 a0_1 A0_2 c0_2 l0_2 _ (by first | exact Kd.C_below HC0.out HB.out | exact Kd.C_below HC0.out (pw_below_drewN HB.out _)) HL0.out).mono ?_; (rotate_right; rintro e w1 ⟨rfl, hb_⟩; have n0_ := Aside0.mk (below_step (by first | exact HB.out | exact pw_below_drewN HB.out _ | exact pw_below_drewN (pw_below_drewN HB.out _) _) hb_); have n_ := Aside0.mk (by first | exact blk_below BKA.out hb_ | exact blk_below (blk_drewN BKA.out _) hb_ | exact blk_below (blk_drewN (blk_drewN BKA.out _) _) hb_); clear BKA; have BKA := n_; clear n_; have n_ := Aside0.mk (by first | exact blk_below BKR.out hb_ | exact blk_below (blk_drewN BKR.out _) hb_ | exact blk_below (blk_drewN (blk_drewN BKR.out _) _) hb_); clear BKR; have BKR := n_; clear n_; clear HB; have HB := n0_; clear n0_ hb_; have hcA0 := (blk_cell BKA.out 0).trans rfl; have hcA1 := (blk_cell BKA.out 1).trans rfl; have hcA2 := (blk_cell BKA.out 2).trans rfl; have hfA0 := blk_frozen BKA.out 0; have hfA1 := blk_frozen BKA.out 1; have hfA2 := blk_frozen BKA.out 2; have hcR0 := (blk_cell BKR.out 0).trans rfl; have hcR1 := (blk_cell BKR.out 1).trans rfl; have hcR2 := (blk_cell BKR.out 2).trans rfl; have hfR0 := blk_frozen BKR.out 0; have hfR1 := blk_frozen BKR.out 1; have hfR2 := blk_frozen BKR.out 2)) | (go_at_call 117; with_reducible refine (sized_calls a1 a2 _).mono ?_; rintro e w' ⟨rfl, ⟨nd, rfl⟩⟩) | (go_at_call 118; refine (drawn_calls a1 a2 129 #[.pointer (some ⟨gA, 0, none⟩)] (fun x y => rd l0_2 (y % a0_1 * a0_0 + x % a0_0)) _ ?d0 ?d1 ?d2 ?d3 ?deg ?df).mono ?_; (rotate_right; rintro e w5 ⟨v5, rfl, hR, hb_⟩; have HBO := HB; have n0_ := Aside0.mk (below_step (by first | exact HB.out | exact pw_below_drewN HB.out _ | exact pw_below_drewN (pw_below_drewN HB.out _) _) hb_); have n_ := Aside0.mk (by first | exact blk_below BKA.out hb_ | exact blk_below (blk_drewN BKA.out _) hb_ | exact blk_below (blk_drewN (blk_drewN BKA.out _) _) hb_); clear BKA; have BKA := n_; clear n_; have n_ := Aside0.mk (by first | exact blk_below BKR.out hb_ | exact blk_below (blk_drewN BKR.out _) hb_ | exact blk_below (blk_drewN (blk_drewN BKR.out _) _) hb_); clear BKR; have BKR := n_; clear n_; have HR := Aside0.mk hR; clear hR HB; have HB := n0_; clear n0_ hb_; obtain ⟨Ao, co, eo⟩ := Kd.R_slice HR.out; subst eo; have hcA0 := (blk_cell BKA.out 0).trans rfl; have hcA1 := (blk_cell BKA.out 1).trans rfl; have hcA2 := (blk_cell BKA.out 2).trans rfl; have hfA0 := blk_frozen BKA.out 0; have hfA1 := blk_frozen BKA.out 1; have hfA2 := blk_frozen BKA.out 2; have hcR0 := (blk_cell BKR.out 0).trans rfl; have hcR1 := (blk_cell BKR.out 1).trans rfl; have hcR2 := (blk_cell BKR.out 2).trans rfl; have hfR0 := blk_frozen BKR.out 0; have hfR1 := blk_frozen BKR.out 1; have hfR2 := blk_frozen BKR.out 2)))
    case d0 => have := sized_spec t1; omega
    case d1 => have := sized_spec t1; omega
    case d2 => have := sized_spec t1; omega
    case d3 => have := sized_spec t1; omega
    case deg => exact fun args W => enters_ Try.func129 (by kernel_rfl) rfl args W
    case df =>
      intro W x y hb hx0 hx hy0 hy
      have q := pic_spec t0; exact impl_TilePicture.clo W gA a0_0 a0_1 A0_2 l0_2 c0_2 x y hx0 hy0 q.1 q.2.2.1 q.2.1 q.2.2.2.1 q.2.2.2.2.2.1 (by first | exact blk_below BKA.out hb | exact blk_below (blk_drewN BKA.out _) hb) (Kd.C_below HC0.out (below_step (by first | exact HB.out | exact pw_below_drewN HB.out _ | exact pw_below_drewN (pw_below_drewN HB.out _) _) hb))
    refine bodyPost_ret (results_ct rfl _ _ gR 37 #[.int .i64 a1, .int .i64 a2, .slice Ao (gridL a1 (fun x y => rd l0_2 (y % a0_1 * a0_0 + x % a0_0)) (Int.toNat a2 * Int.toNat a1)).length co] (0, 0) _ rfl (by refine blk_put (cs := #[.int .i64 a1, .int .i64 a2, .slice none 0 0]) ?_ 2 _ rfl; refine blk_put (cs := #[.int .i64 a1, .int .i64 0, .slice none 0 0]) ?_ 1 _ rfl; refine blk_put (cs := #[.int .i64 0, .int .i64 0, .slice none 0 0]) ?_ 0 _ rfl; first | exact BKR.out | exact blk_drewN BKR.out _ | exact blk_drewN (blk_drewN BKR.out _) _) Try.underlying37 rfl (by kernel_rfl)) rfl ?_
    exact ⟨_, rfl, Kd.R_mono (Kd.R_far (p := ⟨gR, 2, none⟩) (Kd.R_far (p := ⟨gR, 1, none⟩) (Kd.R_far (p := ⟨gR, 0, none⟩) (Kd.R_types (Kd.R_lower HR.out (by first | exact below_size HBO.out | exact below_size (pw_below_drewN HBO.out _))) BKR.out (by decide)) (fun _ hk => hk.2) _) (fun _ hk => hk.2) _) (fun _ hk => hk.2) _) (fun _ hk => trivial), below_set (below_set (below_set HB.out GER.out) GER.out) GER.out⟩
  · rw [if_neg hg] at h
    simp only [Option.some.injEq, Prod.mk.injEq] at h
    obtain ⟨rfl, rfl, rfl, rfl⟩ := h
    by_cases t0 : picB a0_0 a0_1 l0_2 255 = true
    · have q_ := t0
      clear q_
      by_cases t1 : sizedB a1 a2 = true
      · have q_ := t1
        clear q_
        exact absurd ⟨t0, t1⟩ hg
      · replace t1 := Bool.eq_false_iff.mpr t1
        clear hg
        go_enter Try.func83, Try.ntmps83
        go_wp2_with (first | ((with_reducible refine gate_dst (N := 3) rfl ?_); refine box_event ?hg (N := 3) ?hd (cs := #[Value.int .i64 a0_0, Value.int .i64 a0_1, Value.slice A0_2 l0_2.length c0_2]) (t := 37) ?hr ?_; (case hd => rfl); (case hg => rfl); (case hr => first | (go_simp; done) | (go_simp; rfl)); intro gA hg_ wA hbox_ hb_; have n0_ := Aside0.mk (below_step (by first | exact HB.out | exact pw_below_drewN HB.out _ | exact pw_below_drewN (pw_below_drewN HB.out _) _) hb_); have GEA := Aside0.mk (show w.heap.size ≤ gA by rw [hg_]; exact below_size (by first | exact HB.out | exact pw_below_drewN HB.out _ | exact pw_below_drewN (pw_below_drewN HB.out _) _)); clear HB; have HB := n0_; clear n0_; have BKA := Aside0.mk hbox_; clear hbox_ hb_ hg_; have hcA0 := (blk_cell BKA.out 0).trans rfl; have hcA1 := (blk_cell BKA.out 1).trans rfl; have hcA2 := (blk_cell BKA.out 2).trans rfl; have hfA0 := blk_frozen BKA.out 0; have hfA1 := blk_frozen BKA.out 1; have hfA2 := blk_frozen BKA.out 2) | ((with_reducible refine gate_dst (N := 6) rfl ?_); refine box_event ?hg (N := 6) ?hd (cs := #[Value.int .i64 0, Value.int .i64 0, Value.slice none 0 0]) (t := 37) ?hr ?_; (case hd => rfl); (case hg => rfl); (case hr => first | (go_simp; done) | (go_simp; rfl)); intro gR hg_ wR hbox_ hb_; have n0_ := Aside0.mk (below_step (by first | exact HB.out | exact pw_below_drewN HB.out _ | exact pw_below_drewN (pw_below_drewN HB.out _) _) hb_); have GER := Aside0.mk (show w.heap.size ≤ gR by rw [hg_]; exact below_size (by first | exact HB.out | exact pw_below_drewN HB.out _ | exact pw_below_drewN (pw_below_drewN HB.out _) _)); have n_ := Aside0.mk (by first | exact blk_below BKA.out hb_ | exact blk_below (blk_drewN BKA.out _) hb_ | exact blk_below (blk_drewN (blk_drewN BKA.out _) _) hb_); clear BKA; have BKA := n_; clear n_; clear HB; have HB := n0_; clear n0_; have BKR := Aside0.mk hbox_; clear hbox_ hb_ hg_; have hcA0 := (blk_cell BKA.out 0).trans rfl; have hcA1 := (blk_cell BKA.out 1).trans rfl; have hcA2 := (blk_cell BKA.out 2).trans rfl; have hfA0 := blk_frozen BKA.out 0; have hfA1 := blk_frozen BKA.out 1; have hfA2 := blk_frozen BKA.out 2; have hcR0 := (blk_cell BKR.out 0).trans rfl; have hcR1 := (blk_cell BKR.out 1).trans rfl; have hcR2 := (blk_cell BKR.out 2).trans rfl; have hfR0 := blk_frozen BKR.out 0; have hfR1 := blk_frozen BKR.out 1; have hfR2 := blk_frozen BKR.out 2) | (go_at_call 61; with_reducible refine (isPicture_calls a0_0 a0_1 A0_2 c0_2 l0_2 _ (by first | exact Kd.C_below HC0.out HB.out | exact Kd.C_below HC0.out (pw_below_drewN HB.out _)) HL0.out).mono ?_; (rotate_right; rintro e w1 ⟨rfl, hb_⟩; have n0_ := Aside0.mk (below_step (by first | exact HB.out | exact pw_below_drewN HB.out _ | exact pw_below_drewN (pw_below_drewN HB.out _) _) hb_); have n_ := Aside0.mk (by first | exact blk_below BKA.out hb_ | exact blk_below (blk_drewN BKA.out _) hb_ | exact blk_below (blk_drewN (blk_drewN BKA.out _) _) hb_); clear BKA; have BKA := n_; clear n_; have n_ := Aside0.mk (by first | exact blk_below BKR.out hb_ | exact blk_below (blk_drewN BKR.out _) hb_ | exact blk_below (blk_drewN (blk_drewN BKR.out _) _) hb_); clear BKR; have BKR := n_; clear n_; clear HB; have HB := n0_; clear n0_ hb_; have hcA0 := (blk_cell BKA.out 0).trans rfl; have hcA1 := (blk_cell BKA.out 1).trans rfl; have hcA2 := (blk_cell BKA.out 2).trans rfl; have hfA0 := blk_frozen BKA.out 0; have hfA1 := blk_frozen BKA.out 1; have hfA2 := blk_frozen BKA.out 2; have hcR0 := (blk_cell BKR.out 0).trans rfl; have hcR1 := (blk_cell BKR.out 1).trans rfl; have hcR2 := (blk_cell BKR.out 2).trans rfl; have hfR0 := blk_frozen BKR.out 0; have hfR1 := blk_frozen BKR.out 1; have hfR2 := blk_frozen BKR.out 2)) | (go_at_call 117; with_reducible refine (sized_calls a1 a2 _).mono ?_; rintro e w' ⟨rfl, ⟨nd, rfl⟩⟩))
        refine bodyPost_ret (results_ct rfl _ _ gR 37 #[.int .i64 0, .int .i64 0, .slice none 0 0] (0, 0) _ rfl (by refine blk_put (cs := #[.int .i64 0, .int .i64 0, .slice none 0 0]) ?_ 2 _ rfl; refine blk_put (cs := #[.int .i64 0, .int .i64 0, .slice none 0 0]) ?_ 1 _ rfl; refine blk_put (cs := #[.int .i64 0, .int .i64 0, .slice none 0 0]) ?_ 0 _ rfl; first | exact BKR.out | exact blk_drewN BKR.out _ | exact blk_drewN (blk_drewN BKR.out _) _) Try.underlying37 rfl (by kernel_rfl)) rfl ?_
        exact ⟨_, rfl, Kd.R_nil _ _ _ _ _, below_set (below_set (below_set (by first | exact HB.out | exact pw_below_drewN HB.out _ | exact pw_below_drewN (pw_below_drewN HB.out _) _) GER.out) GER.out) GER.out⟩
    · replace t0 := Bool.eq_false_iff.mpr t0
      clear hg
      go_enter Try.func83, Try.ntmps83
      go_wp2_with (first | ((with_reducible refine gate_dst (N := 3) rfl ?_); refine box_event ?hg (N := 3) ?hd (cs := #[Value.int .i64 a0_0, Value.int .i64 a0_1, Value.slice A0_2 l0_2.length c0_2]) (t := 37) ?hr ?_; (case hd => rfl); (case hg => rfl); (case hr => first | (go_simp; done) | (go_simp; rfl)); intro gA hg_ wA hbox_ hb_; have n0_ := Aside0.mk (below_step (by first | exact HB.out | exact pw_below_drewN HB.out _ | exact pw_below_drewN (pw_below_drewN HB.out _) _) hb_); have GEA := Aside0.mk (show w.heap.size ≤ gA by rw [hg_]; exact below_size (by first | exact HB.out | exact pw_below_drewN HB.out _ | exact pw_below_drewN (pw_below_drewN HB.out _) _)); clear HB; have HB := n0_; clear n0_; have BKA := Aside0.mk hbox_; clear hbox_ hb_ hg_; have hcA0 := (blk_cell BKA.out 0).trans rfl; have hcA1 := (blk_cell BKA.out 1).trans rfl; have hcA2 := (blk_cell BKA.out 2).trans rfl; have hfA0 := blk_frozen BKA.out 0; have hfA1 := blk_frozen BKA.out 1; have hfA2 := blk_frozen BKA.out 2) | ((with_reducible refine gate_dst (N := 6) rfl ?_); refine box_event ?hg (N := 6) ?hd (cs := #[Value.int .i64 0, Value.int .i64 0, Value.slice none 0 0]) (t := 37) ?hr ?_; (case hd => rfl); (case hg => rfl); (case hr => first | (go_simp; done) | (go_simp; rfl)); intro gR hg_ wR hbox_ hb_; have n0_ := Aside0.mk (below_step (by first | exact HB.out | exact pw_below_drewN HB.out _ | exact pw_below_drewN (pw_below_drewN HB.out _) _) hb_); have GER := Aside0.mk (show w.heap.size ≤ gR by rw [hg_]; exact below_size (by first | exact HB.out | exact pw_below_drewN HB.out _ | exact pw_below_drewN (pw_below_drewN HB.out _) _)); have n_ := Aside0.mk (by first | exact blk_below BKA.out hb_ | exact blk_below (blk_drewN BKA.out _) hb_ | exact blk_below (blk_drewN (blk_drewN BKA.out _) _) hb_); clear BKA; have BKA := n_; clear n_; clear HB; have HB := n0_; clear n0_; have BKR := Aside0.mk hbox_; clear hbox_ hb_ hg_; have hcA0 := (blk_cell BKA.out 0).trans rfl; have hcA1 := (blk_cell BKA.out 1).trans rfl; have hcA2 := (blk_cell BKA.out 2).trans rfl; have hfA0 := blk_frozen BKA.out 0; have hfA1 := blk_frozen BKA.out 1; have hfA2 := blk_frozen BKA.out 2; have hcR0 := (blk_cell BKR.out 0).trans rfl; have hcR1 := (blk_cell BKR.out 1).trans rfl; have hcR2 := (blk_cell BKR.out 2).trans rfl; have hfR0 := blk_frozen BKR.out 0; have hfR1 := blk_frozen BKR.out 1; have hfR2 := blk_frozen BKR.out 2) | (go_at_call 61; with_reducible refine (isPicture_calls a0_0 a0_1 A0_2 c0_2 l0_2 _ (by first | exact Kd.C_below HC0.out HB.out | exact Kd.C_below HC0.out (pw_below_drewN HB.out _)) HL0.out).mono ?_; (rotate_right; rintro e w1 ⟨rfl, hb_⟩; have n0_ := Aside0.mk (below_step (by first | exact HB.out | exact pw_below_drewN HB.out _ | exact pw_below_drewN (pw_below_drewN HB.out _) _) hb_); have n_ := Aside0.mk (by first | exact blk_below BKA.out hb_ | exact blk_below (blk_drewN BKA.out _) hb_ | exact blk_below (blk_drewN (blk_drewN BKA.out _) _) hb_); clear BKA; have BKA := n_; clear n_; have n_ := Aside0.mk (by first | exact blk_below BKR.out hb_ | exact blk_below (blk_drewN BKR.out _) hb_ | exact blk_below (blk_drewN (blk_drewN BKR.out _) _) hb_); clear BKR; have BKR := n_; clear n_; clear HB; have HB := n0_; clear n0_ hb_; have hcA0 := (blk_cell BKA.out 0).trans rfl; have hcA1 := (blk_cell BKA.out 1).trans rfl; have hcA2 := (blk_cell BKA.out 2).trans rfl; have hfA0 := blk_frozen BKA.out 0; have hfA1 := blk_frozen BKA.out 1; have hfA2 := blk_frozen BKA.out 2; have hcR0 := (blk_cell BKR.out 0).trans rfl; have hcR1 := (blk_cell BKR.out 1).trans rfl; have hcR2 := (blk_cell BKR.out 2).trans rfl; have hfR0 := blk_frozen BKR.out 0; have hfR1 := blk_frozen BKR.out 1; have hfR2 := blk_frozen BKR.out 2)) | (go_at_call 117; with_reducible refine (sized_calls a1 a2 _).mono ?_; rintro e w' ⟨rfl, ⟨nd, rfl⟩⟩))
      refine bodyPost_ret (results_ct rfl _ _ gR 37 #[.int .i64 0, .int .i64 0, .slice none 0 0] (0, 0) _ rfl (by refine blk_put (cs := #[.int .i64 0, .int .i64 0, .slice none 0 0]) ?_ 2 _ rfl; refine blk_put (cs := #[.int .i64 0, .int .i64 0, .slice none 0 0]) ?_ 1 _ rfl; refine blk_put (cs := #[.int .i64 0, .int .i64 0, .slice none 0 0]) ?_ 0 _ rfl; first | exact BKR.out | exact blk_drewN BKR.out _ | exact blk_drewN (blk_drewN BKR.out _) _) Try.underlying37 rfl (by kernel_rfl)) rfl ?_
      exact ⟨_, rfl, Kd.R_nil _ _ _ _ _, below_set (below_set (below_set (by first | exact HB.out | exact pw_below_drewN HB.out _ | exact pw_below_drewN (pw_below_drewN HB.out _) _) GER.out) GER.out) GER.out⟩


end Go.Proofs.Ytbgbbfdmgpcgmaa.P
