-- Written by tools/seatprint.py (over the kit's print, changed in memory). Not trusted: Lean checks it.
import Derived.Test.YtdlehfnlibddcaaP0
import Derived.Test.YtdlehfnlibddcaaFpre
import Derived.Test.YtdlehfnlibddcaaFimplranked
namespace Go.Proofs.Ytdlehfnlibddcaa.P
open Go.RowKit Go.Proofs.YtdlehfnlibddcaaW.PrintWords Go.Proofs.YtdlehfnlibddcaaW.PrintLast Go.Proofs.YtdlehfnlibddcaaW.PrintMore
attribute [local go_sem] max2_int min2_int max_two min_two max_three min_three max_four min_four   -- for this text's walks alone
set_option linter.unusedVariables false
set_option linter.unusedSimpArgs false

/-! ### impl_SpiralMatrix: function 24 -/
def spirB (s x y dx dy : Int) : Bool := decide (0 ≤ x ∧ x < s ∧ 0 ≤ y ∧ y < s ∧ -1 ≤ dx ∧ dx ≤ 1 ∧ -1 ≤ dy ∧ dy ≤ 1)
def spirFree (s u v : Int) (l : List Int) : Bool := decide (0 ≤ u ∧ u < s ∧ 0 ≤ v ∧ v < s) && decide (rd l (v * s + u) < 0)
def spirL (s : Int) : Nat → Int → Int → Int → Int → Int → List Int → Option (List Int)
  | 0, _, _, _, _, _, l => some l
  | k + 1, n, x, y, dx, dy, l => if spirB s x y dx dy = true then (if spirFree s (x + dx) (y + dy) (l.set (y * s + x).toNat n) = true then spirL s k (n + 1) (x + dx) (y + dy) dx dy (l.set (y * s + x).toNat n) else spirL s k (n + 1) (x + -dy) (y + dx) (-dy) dx (l.set (y * s + x).toNat n)) else none
def impl_SpiralMatrix.f (a0 : Int) : Option (Int × Int × List Int × Bool) :=
  if 1 ≤ a0 ∧ a0 ≤ 16 then (spirL a0 (a0.toNat * a0.toNat) 0 0 0 1 0 (gridL a0 (fun _ _ => (-1 : Int)) (a0.toNat * a0.toNat))).bind fun l => some (a0, a0, l, true) else some (0, 0, [], false)
set_option maxHeartbeats 8000000 in
set_option maxRecDepth 100000 in
theorem impl_SpiralMatrix.clo (W : World) (x y : Int) : Calls Try.prog 83 #[.int .i64 x, .int .i64 y] W fun e w' => e = .returned (.int .i64 (-1)) ∧ Below W.heap.size W w' := by
  go_enter Try.func83, Try.ntmps83
  go_wp2
  go_ret
  exact ⟨rfl, Below.refl _ _⟩
set_option maxHeartbeats 8000000 in
set_option maxRecDepth 100000 in
theorem impl_SpiralMatrix.free (W : World) (gs gm : Nat) (s : Int) (A : Option Addr) (l : List Int) (n c : Nat) (u v : Int) (s0 : 1 ≤ s) (s1 : s ≤ 16) (u0 : -100 ≤ u) (u1 : u ≤ 100) (v0 : -100 ≤ v) (v1 : v ≤ 100) (hl : (n : Int) = s * s) (hn : l.length = n)
    (BS : W.heap[gs]? = some (.cells #[.int .i64 s] 3 (0, 0))) (BM : W.heap[gm]? = some (.cells #[.int .i64 s, .int .i64 s, .slice A n c] 26 (0, 0))) (HC : Kd.C (Kd.int .i64) W A n l) :
    Calls Try.prog 84 #[.int .i64 u, .int .i64 v, .pointer (some ⟨gs, 0, none⟩), .pointer (some ⟨gm, 0, none⟩)] W fun e w' => e = .returned (.bool (spirFree s u v l)) ∧ Below W.heap.size W w' := by
  have huM := Try.underlying26
  have hcs : W.cell? ⟨gs, 0, none⟩ = some (.int .i64 s) := (blk_cell BS 0).trans rfl
  unfold spirFree
  by_cases c0 : 0 ≤ u
  · by_cases c1 : u < s
    · by_cases c2 : 0 ≤ v
      · by_cases c3 : v < s
        · have hb := idx_lt (w := s) (h := s) (x := u) (y := v) c0 c1 c2 c3
          have hm0 : 0 ≤ v * s := Int.mul_nonneg (by omega) (by omega)
          have hm1 : v * s ≤ 16 * 16 := Int.le_trans (Int.mul_le_mul_of_nonneg_right (show v ≤ 16 by omega) (by omega)) (Int.mul_le_mul_of_nonneg_left s1 (by omega))
          obtain ⟨ad, e, hx1⟩ := Kd.at_int HC (v * s + u) hb.1 (by omega)
          cases e
          have p1 : 0 ≤ v * s + u := hb.1
          have p2 : v * s + u < (n : Int) := by omega
          obtain ⟨I, hI⟩ : ∃ I, rd l (v * s + u) = I := ⟨_, rfl⟩
          rw [hI] at hx1
          rw [hI, decide_eq_true ⟨c0, c1, c2, c3⟩, Bool.true_and]
          have hc2 : W.cell? ⟨gm, 2, none⟩ = some (.slice (some ad) n c) := (blk_cell BM 2).trans rfl
          have w1 : IntKind.i64.wrap (v * s) = v * s := IntWalk.i64_in _ (by omega)
          have w2 : IntKind.i64.wrap (v * s + u) = v * s + u := IntWalk.i64_in _ (by omega)
          clear hb hI HC BM BS hl hn
          by_cases c4 : I < 0
          · rw [decide_eq_true c4]
            go_enter Try.func84, Try.ntmps84
            go_wp2
            go_ret
            exact ⟨rfl, Below.refl _ _⟩
          · rw [decide_eq_false c4]
            go_enter Try.func84, Try.ntmps84
            go_wp2
            go_ret
            exact ⟨rfl, Below.refl _ _⟩
        · rw [decide_eq_false (fun q => c3 q.2.2.2), Bool.false_and]
          go_enter Try.func84, Try.ntmps84
          go_wp2
          go_ret
          exact ⟨rfl, Below.refl _ _⟩
      · rw [decide_eq_false (fun q => c2 q.2.2.1), Bool.false_and]
        go_enter Try.func84, Try.ntmps84
        go_wp2
        go_ret
        exact ⟨rfl, Below.refl _ _⟩
    · rw [decide_eq_false (fun q => c1 q.2.1), Bool.false_and]
      go_enter Try.func84, Try.ntmps84
      go_wp2
      go_ret
      exact ⟨rfl, Below.refl _ _⟩
  · rw [decide_eq_false (fun q => c0 q.1), Bool.false_and]
    go_enter Try.func84, Try.ntmps84
    go_wp2
    go_ret
    exact ⟨rfl, Below.refl _ _⟩
set_option maxHeartbeats 8000000 in
set_option maxRecDepth 100000 in
theorem impl_SpiralMatrix.calls (a0 : Int) (r1 : Int) (r2 : Int) (r3 : List Int) (r4 : Bool) (w : World) (h : impl_SpiralMatrix.f a0 = some (r1, r2, r3, r4)) :
    Calls Try.prog 24 #[.int .i64 a0] w fun e w' => ∃ v2_ : Value, e = .returned (.tuple #[.agg #[.int .i64 r1, .int .i64 r2, v2_], .bool r4]) ∧ Kd.R (Kd.int .i64) 3 w' w.heap.size (fun _ => True) v2_ r3 ∧ Below w.heap.size w w' := by
  have huP := Try.underlying26
  have hmf : ∀ (fn : Fn) (first cap : Array Value) (w : World), (Instr.makeFunc fn first cap).run Try.prog w = .ok (.func fn first cap) w := fun _ _ _ _ => rfl
  have HB := Aside0.mk (Below.refl w.heap.size w)
  have EG := Aside0.mk (fun args W => enters_ (P := Try.prog) Try.func84 (by kernel_rfl) rfl args W)
  unfold impl_SpiralMatrix.f at h
  by_cases g0 : 1 ≤ a0
  · by_cases g1 : a0 ≤ 16
    · rw [if_pos ⟨g0, g1⟩] at h
      obtain ⟨L, hL, h⟩ := Option.bind_eq_some_iff.mp h
      simp only [Option.some.injEq, Prod.mk.injEq] at h
      obtain ⟨rfl, rfl, rfl, rfl⟩ := h
      have HQ0 := Aside0.mk hL
      clear hL
      have hss : ((a0.toNat * a0.toNat : Nat) : Int) = a0 * a0 := by rw [Int.natCast_mul, Int.toNat_of_nonneg (by omega)]
      have hs0 : 0 ≤ a0 * a0 := Int.mul_nonneg (by omega) (by omega)
      have hs1 : a0 * a0 ≤ 16 * 16 := Int.le_trans (Int.mul_le_mul_of_nonneg_right g1 (by omega)) (Int.mul_le_mul_of_nonneg_left g1 (by omega))
      have HSS := Aside0.mk hss
      clear hss
      have ws : IntKind.i64.wrap (a0 * a0) = a0 * a0 := IntWalk.i64_in _ (by omega)
      go_enter Try.func24, Try.ntmps24
      go_wp2_with (first | ((with_reducible refine gate_dst (N := 1) rfl ?_); refine box_event ?hg (N := 1) ?hd (cs := #[Value.int .i64 a0]) (t := 3) ?hr ?_; (case hd => rfl); (case hg => rfl); (case hr => first | (go_simp; done) | (go_simp; rfl)); intro gA hg_ wA hbox_ hb_; have n0_ := Aside0.mk (below_step (by first | exact HB.out | exact pw_below_drewN HB.out _ | exact pw_below_drewN (pw_below_drewN HB.out _) _) hb_); have GEA := Aside0.mk (show w.heap.size ≤ gA by rw [hg_]; exact below_size (by first | exact HB.out | exact pw_below_drewN HB.out _ | exact pw_below_drewN (pw_below_drewN HB.out _) _)); clear HB; have HB := n0_; clear n0_; have BKA := Aside0.mk hbox_; clear hbox_ hb_ hg_; have hcA0 := (blk_cell BKA.out 0).trans rfl; have hfA0 := blk_frozen BKA.out 0) | ((with_reducible refine gate_dst (N := 2) rfl ?_); refine box_event ?hg (N := 2) ?hd (cs := #[Value.int .i64 0, Value.int .i64 0, Value.slice none 0 0]) (t := 26) ?hr ?_; (case hd => rfl); (case hg => rfl); (case hr => first | (go_simp; done) | (go_simp; rfl)); intro gR hg_ wR hbox_ hb_; have n0_ := Aside0.mk (below_step (by first | exact HB.out | exact pw_below_drewN HB.out _ | exact pw_below_drewN (pw_below_drewN HB.out _) _) hb_); have GER := Aside0.mk (show w.heap.size ≤ gR by rw [hg_]; exact below_size (by first | exact HB.out | exact pw_below_drewN HB.out _ | exact pw_below_drewN (pw_below_drewN HB.out _) _)); have n_ := Aside0.mk (by first | exact blk_below BKA.out hb_ | exact blk_below (blk_drewN BKA.out _) hb_ | exact blk_below (blk_drewN (blk_drewN BKA.out _) _) hb_); clear BKA; have BKA := n_; clear n_; clear HB; have HB := n0_; clear n0_; have BKR := Aside0.mk hbox_; clear hbox_ hb_ hg_; have hcA0 := (blk_cell BKA.out 0).trans rfl; have hfA0 := blk_frozen BKA.out 0; have hcR0 := (blk_cell BKR.out 0).trans rfl; have hcR1 := (blk_cell BKR.out 1).trans rfl; have hcR2 := (blk_cell BKR.out 2).trans rfl; have hfR0 := blk_frozen BKR.out 0; have hfR1 := blk_frozen BKR.out 1; have hfR2 := blk_frozen BKR.out 2) | (go_at_call 82; refine (ranked_calls a0 a0 83 #[] (fun _ _ => (-1 : Int)) _ ?d0 ?d1 ?d2 ?d3 ?deg ?df).mono ?_; (rotate_right; rintro e w5 ⟨v5, rfl, hR, hb_⟩; have HBO := HB; have NA0 := Aside0.mk (blk_lt (by first | exact BKA.out | exact blk_drewN BKA.out _ | exact blk_drewN (blk_drewN BKA.out _) _)); have n0_ := Aside0.mk (below_step (by first | exact HB.out | exact pw_below_drewN HB.out _ | exact pw_below_drewN (pw_below_drewN HB.out _) _) hb_); have n_ := Aside0.mk (by first | exact blk_below BKA.out hb_ | exact blk_below (blk_drewN BKA.out _) hb_ | exact blk_below (blk_drewN (blk_drewN BKA.out _) _) hb_); clear BKA; have BKA := n_; clear n_; have n_ := Aside0.mk (by first | exact blk_below BKR.out hb_ | exact blk_below (blk_drewN BKR.out _) hb_ | exact blk_below (blk_drewN (blk_drewN BKR.out _) _) hb_); clear BKR; have BKR := n_; clear n_; have HR := Aside0.mk hR; clear hR HB; have HB := n0_; clear n0_ hb_; obtain ⟨Ao, co, eo⟩ := Kd.R_slice HR.out; subst eo; have hcA0 := (blk_cell BKA.out 0).trans rfl; have hfA0 := blk_frozen BKA.out 0; have hcR0 := (blk_cell BKR.out 0).trans rfl; have hcR1 := (blk_cell BKR.out 1).trans rfl; have hcR2 := (blk_cell BKR.out 2).trans rfl; have hfR0 := blk_frozen BKR.out 0; have hfR1 := blk_frozen BKR.out 1; have hfR2 := blk_frozen BKR.out 2)) | ((with_reducible refine gate_dst (N := 4) rfl ?_); refine box_event ?hg (N := 4) ?hd (cs := #[Value.int .i64 0, Value.int .i64 0, Value.slice none 0 0]) (t := 26) ?hr ?_; (case hd => rfl); (case hg => rfl); (case hr => first | (go_simp; done) | (go_simp; rfl)); intro gM hg_ wM hbox_ hb_; have NRM := Aside0.mk (show gR ≠ gM from fun e_ => by have := blk_lt BKR.out; omega); have nR_ := Aside0.mk (Kd.R_below HR.out hb_); clear HR; have HR := nR_; clear nR_; have n0_ := Aside0.mk (below_step (by first | exact HB.out | exact pw_below_drewN HB.out _ | exact pw_below_drewN (pw_below_drewN HB.out _) _) hb_); have GEM := Aside0.mk (show w.heap.size ≤ gM by rw [hg_]; exact below_size (by first | exact HB.out | exact pw_below_drewN HB.out _ | exact pw_below_drewN (pw_below_drewN HB.out _) _)); have n_ := Aside0.mk (by first | exact blk_below BKA.out hb_ | exact blk_below (blk_drewN BKA.out _) hb_ | exact blk_below (blk_drewN (blk_drewN BKA.out _) _) hb_); clear BKA; have BKA := n_; clear n_; have n_ := Aside0.mk (by first | exact blk_below BKR.out hb_ | exact blk_below (blk_drewN BKR.out _) hb_ | exact blk_below (blk_drewN (blk_drewN BKR.out _) _) hb_); clear BKR; have BKR := n_; clear n_; clear HB; have HB := n0_; clear n0_; have BKM := Aside0.mk hbox_; clear hbox_ hb_ hg_; have hcA0 := (blk_cell BKA.out 0).trans rfl; have hfA0 := blk_frozen BKA.out 0; have hcR0 := (blk_cell BKR.out 0).trans rfl; have hcR1 := (blk_cell BKR.out 1).trans rfl; have hcR2 := (blk_cell BKR.out 2).trans rfl; have hfR0 := blk_frozen BKR.out 0; have hfR1 := blk_frozen BKR.out 1; have hfR2 := blk_frozen BKR.out 2; have hcM0 := (blk_cell BKM.out 0).trans rfl; have hcM1 := (blk_cell BKM.out 1).trans rfl; have hcM2 := (blk_cell BKM.out 2).trans rfl; have hfM0 := blk_frozen BKM.out 0; have hfM1 := blk_frozen BKM.out 1; have hfM2 := blk_frozen BKM.out 2; have nAM : gA ≠ gM := blk_ne BKA.out BKM.out (by decide); have nMA := nAM.symm; have nRM := NRM.out; have nMR := nRM.symm))
      case d0 => omega
      case d1 => omega
      case d2 => omega
      case d3 => omega
      case deg => exact fun args W => enters_ Try.func83 (by kernel_rfl) rfl args W
      case df =>
        intro W x y _ _ _ _ _
        exact impl_SpiralMatrix.clo W x y
      have SZ := Aside0.mk (below_size HBO.out)
      have m0_ : Aside0 (Kd.R (Kd.int .i64) 3 (((wM.setCell ⟨gM, 0, none⟩ (.int .i64 a0)).setCell ⟨gM, 1, none⟩ (.int .i64 a0)).setCell ⟨gM, 2, none⟩ (.slice Ao (gridL a0 (fun _ _ => (-1 : Int)) (a0.toNat * a0.toNat)).length co)) wR.heap.size (fun _ => True) (.slice Ao (gridL a0 (fun _ _ => (-1 : Int)) (a0.toNat * a0.toNat)).length co) (gridL a0 (fun _ _ => (-1 : Int)) (a0.toNat * a0.toNat))) := ⟨Kd.R_mono (Kd.R_far (p := ⟨gM, 2, none⟩) (Kd.R_far (p := ⟨gM, 1, none⟩) (Kd.R_far (p := ⟨gM, 0, none⟩) (Kd.R_types HR.out BKM.out (by decide)) (fun _ hk => hk.2) _) (fun _ hk => hk.2) _) (fun _ hk => hk.2) _) (fun _ _ => trivial)⟩
      have m1_ : Aside0 ((((wM.setCell ⟨gM, 0, none⟩ (.int .i64 a0)).setCell ⟨gM, 1, none⟩ (.int .i64 a0)).setCell ⟨gM, 2, none⟩ (.slice Ao (gridL a0 (fun _ _ => (-1 : Int)) (a0.toNat * a0.toNat)).length co)).heap[gA]? = some (.cells #[.int .i64 a0] 3 (0, 0))) := ⟨blk_far (blk_far (blk_far BKA.out nAM _) nAM _) nAM _⟩
      have m2_ : Aside0 ((((wM.setCell ⟨gM, 0, none⟩ (.int .i64 a0)).setCell ⟨gM, 1, none⟩ (.int .i64 a0)).setCell ⟨gM, 2, none⟩ (.slice Ao (gridL a0 (fun _ _ => (-1 : Int)) (a0.toNat * a0.toNat)).length co)).heap[gR]? = some (.cells #[.int .i64 0, .int .i64 0, .slice none 0 0] 26 (0, 0))) := ⟨blk_far (blk_far (blk_far BKR.out nRM _) nRM _) nRM _⟩
      have m3_ : Aside0 ((((wM.setCell ⟨gM, 0, none⟩ (.int .i64 a0)).setCell ⟨gM, 1, none⟩ (.int .i64 a0)).setCell ⟨gM, 2, none⟩ (.slice Ao (gridL a0 (fun _ _ => (-1 : Int)) (a0.toNat * a0.toNat)).length co)).heap[gM]? = some (.cells #[.int .i64 a0, .int .i64 a0, .slice Ao (gridL a0 (fun _ _ => (-1 : Int)) (a0.toNat * a0.toNat)).length co] 26 (0, 0))) := ⟨by refine blk_put (cs := #[.int .i64 a0, .int .i64 a0, .slice none 0 0]) ?_ 2 _ rfl; refine blk_put (cs := #[.int .i64 a0, .int .i64 0, .slice none 0 0]) ?_ 1 _ rfl; refine blk_put (cs := #[.int .i64 0, .int .i64 0, .slice none 0 0]) ?_ 0 _ rfl; exact BKM.out⟩
      have m4_ : Aside0 (Below w.heap.size w (((wM.setCell ⟨gM, 0, none⟩ (.int .i64 a0)).setCell ⟨gM, 1, none⟩ (.int .i64 a0)).setCell ⟨gM, 2, none⟩ (.slice Ao (gridL a0 (fun _ _ => (-1 : Int)) (a0.toNat * a0.toNat)).length co))) := ⟨below_set (below_set (below_set HB.out GEM.out) GEM.out) GEM.out⟩
      generalize wR.heap.size = B0 at m0_ NA0 SZ
      clear HR BKA BKR BKM HB HBO
      go_loopw [6, 7, 8, 9, 25] (fun s6 s7 s8 s9 s25 wr => ∃ (n : Nat) (x y dx dy : Int) (l : List Int) (u : Value), (n : Int) ≤ a0 * a0 ∧ s6 = .int .i64 x ∧ s7 = .int .i64 y ∧ s8 = .int .i64 dx ∧ s9 = .int .i64 dy ∧ s25 = .int .i64 n ∧ Aside0 (spirL a0 (a0.toNat * a0.toNat - n) n x y dx dy l = some L) ∧ Aside0 (l.length = a0.toNat * a0.toNat) ∧ Aside0 (Kd.R (Kd.int .i64) 3 wr B0 (fun _ => True) u l) ∧ Aside0 (wr.heap[gA]? = some (.cells #[.int .i64 a0] 3 (0, 0))) ∧ Aside0 (wr.heap[gR]? = some (.cells #[.int .i64 0, .int .i64 0, .slice none 0 0] 26 (0, 0))) ∧ Aside0 (wr.heap[gM]? = some (.cells #[.int .i64 a0, .int .i64 a0, u] 26 (0, 0))) ∧ Aside0 (Below w.heap.size w wr)) (fun s6 s7 s8 s9 s25 _ => (a0 * a0 - intOf s25).toNat)
      case atStart => exact ⟨0, 0, 0, 1, 0, _, _, by omega, rfl, rfl, rfl, rfl, rfl, ⟨by rw [Nat.sub_zero]; exact HQ0.out⟩, ⟨gridL_len _ _ _⟩, m0_, m1_, m2_, m3_, m4_⟩
      case round =>
        obtain ⟨n, x, y, dx, dy, l, u, hn, rfl, rfl, rfl, rfl, rfl, HQ, HLEN, HR, HA, HRR, HM, HB⟩ := hrel
        clear m0_ m1_ m2_ m3_ m4_ HQ0
        by_cases hlt : (n : Int) < a0 * a0
        · have hk : a0.toNat * a0.toNat - n = (a0.toNat * a0.toNat - (n + 1)) + 1 := by have := HSS.out; omega
          have hq := HQ.out
          rw [hk] at hq
          clear hk HQ
          unfold spirL at hq
          by_cases hb : spirB a0 x y dx dy = true
          · rw [if_pos hb] at hq
            obtain ⟨b0, b1, b2, b3, b4, b5, b6, b7⟩ := of_decide_eq_true hb
            clear hb
            have hi := idx_lt (w := a0) (h := a0) (x := x) (y := y) b0 b1 b2 b3
            have hm0 : 0 ≤ y * a0 := Int.mul_nonneg (by omega) (by omega)
            have hm1 : y * a0 ≤ 16 * 16 := Int.le_trans (Int.mul_le_mul_of_nonneg_right (show y ≤ 16 by omega) (by omega)) (Int.mul_le_mul_of_nonneg_left g1 (by omega))
            have hlen : (l.length : Int) = a0 * a0 := by rw [HLEN.out]; exact HSS.out
            have HLN := Aside0.mk hlen
            obtain ⟨go, co, eo, gb, gl, cl⟩ := Kd.R_form HR.out (by omega)
            subst eo
            have p1 : 0 ≤ y * a0 + x := hi.1
            have p2 : y * a0 + x < (l.length : Int) := by omega
            obtain ⟨hx0, hf0⟩ := Kd.R_celln 0 HR.out (y * a0 + x) p1 p2
            have HP := Aside0.mk (Kd.R_putg HR.out (y * a0 + x) (n : Int))
            have NAG := Aside0.mk (show some gA ≠ some go from fun e => by injection e; have := NA0.out; omega)
            have GB := Aside0.mk (Nat.le_trans SZ.out gb)
            obtain ⟨l2, hl2⟩ : ∃ l2, l.set (y * a0 + x).toNat (n : Int) = l2 := ⟨_, rfl⟩
            rw [hl2] at hq
            have HL2 := Aside0.mk hl2
            have HL3 := Aside0.mk (show l2.length = l.length by rw [← hl2, List.length_set])
            have HL4 := Aside0.mk (show l2.length = a0.toNat * a0.toNat from HL3.out.trans HLEN.out)
            clear hl2 gb gl cl hi hlen
            have hcA : wr.cell? ⟨gA, 0, none⟩ = some (.int .i64 a0) := (blk_cell HA.out 0).trans rfl
            have hcM0 : wr.cell? ⟨gM, 0, none⟩ = some (.int .i64 a0) := (blk_cell HM.out 0).trans rfl
            have hcM1 : wr.cell? ⟨gM, 1, none⟩ = some (.int .i64 a0) := (blk_cell HM.out 1).trans rfl
            have hcM2 : wr.cell? ⟨gM, 2, none⟩ = some (.slice (some ⟨go, 0, none⟩) l.length co) := (blk_cell HM.out 2).trans rfl
            have w1 : IntKind.i64.wrap (y * a0) = y * a0 := IntWalk.i64_in _ (by omega)
            have w2 : IntKind.i64.wrap (y * a0 + x) = y * a0 + x := IntWalk.i64_in _ (by omega)
            have w3_ : IntKind.i64.wrap (x + dx) = x + dx := IntWalk.i64_in _ (by omega)
            have w4_ : IntKind.i64.wrap (y + dy) = y + dy := IntWalk.i64_in _ (by omega)
            have w5_ : IntKind.i64.wrap (-dy) = -dy := IntWalk.i64_in _ (by omega)
            have w6_ : IntKind.i64.wrap (x + -dy) = x + -dy := IntWalk.i64_in _ (by omega)
            have w7_ : IntKind.i64.wrap (y + dx) = y + dx := IntWalk.i64_in _ (by omega)
            cases hF : spirFree a0 (x + dx) (y + dy) l2
            · rw [hF, if_neg (by decide)] at hq
              have HQ := Aside0.mk (show spirL a0 (a0.toNat * a0.toNat - (n + 1)) ((n + 1 : Nat) : Int) (x + -dy) (y + dx) (-dy) dx l2 = some L by rw [show ((n + 1 : Nat) : Int) = (n : Int) + 1 by omega]; exact hq)
              clear hq
              have HF := Aside0.mk hF
              clear hF
              go_wp2_with (first | ((with_reducible refine gate_store (t := 3) (p := 36) rfl ?_); refine store_event (t := 3) (p := 36) (v := ?vo_) (w1 := (wr.setCell ⟨go, (y * a0 + x).toNat, none⟩ (.int .i64 (n : Int)))) ?hg ?ho ?hn ?hr ?_; (case ho => rfl); (case hg => rfl); (case hn => rfl); (case hr => first | (go_simp; done) | (go_simp; rfl)); intro w3 hw; have hg : wr.grownBy w3 (some go) := (by rw [hw]; exact HP.out.2); have n0_ := Aside0.mk (show Kd.R (Kd.int .i64) 3 w3 B0 (fun _ => True) (.slice (some ⟨go, 0, none⟩) l.length co) l2 by rw [hw, ← HL2.out]; exact HP.out.1); have n1_ := Aside0.mk (blk_grown HA.out hg NAG.out); have n2_ := Aside0.mk (blk_grown HRR.out hg (Kd.R_ne HR.out HRR.out (by decide))); have n3_ := Aside0.mk (blk_grown HM.out hg (Kd.R_ne HR.out HM.out (by decide))); have n4_ := Aside0.mk (show Below w.heap.size w w3 by rw [hw]; exact below_set HB.out GB.out); clear HR HA HRR HM HB HP hg hw; have HR := n0_; have HA := n1_; have HRR := n2_; have HM := n3_; have HB := n4_; clear n0_ n1_ n2_ n3_ n4_) | (go_at_call 84; with_reducible refine (impl_SpiralMatrix.free w3 gA gM a0 (some ⟨go, 0, none⟩) l2 l.length co (x + dx) (y + dy) g0 g1 ?f0 ?f1 ?f2 ?f3 HLN.out HL3.out HA.out HM.out ?f4).mono ?_; (case f4 => exact (by have q_ := (Kd.R_reads' HR.out).2.2; rw [HL3.out] at q_; exact q_)); (case f0 => omega); (case f1 => omega); (case f2 => omega); (case f3 => omega); rintro e w4 ⟨rfl, hb4⟩; rw [HF.out]; have n0_ := Aside0.mk (Kd.R_below HR.out hb4); have n1_ := Aside0.mk (blk_below HA.out hb4); have n2_ := Aside0.mk (blk_below HRR.out hb4); have n3_ := Aside0.mk (blk_below HM.out hb4); have n4_ := Aside0.mk (below_step HB.out hb4); clear HR HA HRR HM HB hb4; have HR := n0_; have HA := n1_; have HRR := n2_; have HM := n3_; have HB := n4_; clear n0_ n1_ n2_ n3_ n4_))
              go_roundw
              case rel => exact ⟨n + 1, x + -dy, y + dx, -dy, dx, _, _, by omega, rfl, rfl, rfl, rfl, by go_num, HQ, HL4, HR, HA, HRR, HM, HB⟩
              case measure => simp [intOf]; omega
            · rw [hF, if_pos rfl] at hq
              have HQ := Aside0.mk (show spirL a0 (a0.toNat * a0.toNat - (n + 1)) ((n + 1 : Nat) : Int) (x + dx) (y + dy) dx dy l2 = some L by rw [show ((n + 1 : Nat) : Int) = (n : Int) + 1 by omega]; exact hq)
              clear hq
              have HF := Aside0.mk hF
              clear hF
              go_wp2_with (first | ((with_reducible refine gate_store (t := 3) (p := 36) rfl ?_); refine store_event (t := 3) (p := 36) (v := ?vo_) (w1 := (wr.setCell ⟨go, (y * a0 + x).toNat, none⟩ (.int .i64 (n : Int)))) ?hg ?ho ?hn ?hr ?_; (case ho => rfl); (case hg => rfl); (case hn => rfl); (case hr => first | (go_simp; done) | (go_simp; rfl)); intro w3 hw; have hg : wr.grownBy w3 (some go) := (by rw [hw]; exact HP.out.2); have n0_ := Aside0.mk (show Kd.R (Kd.int .i64) 3 w3 B0 (fun _ => True) (.slice (some ⟨go, 0, none⟩) l.length co) l2 by rw [hw, ← HL2.out]; exact HP.out.1); have n1_ := Aside0.mk (blk_grown HA.out hg NAG.out); have n2_ := Aside0.mk (blk_grown HRR.out hg (Kd.R_ne HR.out HRR.out (by decide))); have n3_ := Aside0.mk (blk_grown HM.out hg (Kd.R_ne HR.out HM.out (by decide))); have n4_ := Aside0.mk (show Below w.heap.size w w3 by rw [hw]; exact below_set HB.out GB.out); clear HR HA HRR HM HB HP hg hw; have HR := n0_; have HA := n1_; have HRR := n2_; have HM := n3_; have HB := n4_; clear n0_ n1_ n2_ n3_ n4_) | (go_at_call 84; with_reducible refine (impl_SpiralMatrix.free w3 gA gM a0 (some ⟨go, 0, none⟩) l2 l.length co (x + dx) (y + dy) g0 g1 ?f0 ?f1 ?f2 ?f3 HLN.out HL3.out HA.out HM.out ?f4).mono ?_; (case f4 => exact (by have q_ := (Kd.R_reads' HR.out).2.2; rw [HL3.out] at q_; exact q_)); (case f0 => omega); (case f1 => omega); (case f2 => omega); (case f3 => omega); rintro e w4 ⟨rfl, hb4⟩; rw [HF.out]; have n0_ := Aside0.mk (Kd.R_below HR.out hb4); have n1_ := Aside0.mk (blk_below HA.out hb4); have n2_ := Aside0.mk (blk_below HRR.out hb4); have n3_ := Aside0.mk (blk_below HM.out hb4); have n4_ := Aside0.mk (below_step HB.out hb4); clear HR HA HRR HM HB hb4; have HR := n0_; have HA := n1_; have HRR := n2_; have HM := n3_; have HB := n4_; clear n0_ n1_ n2_ n3_ n4_))
              go_roundw
              case rel => exact ⟨n + 1, x + dx, y + dy, dx, dy, _, _, by omega, rfl, rfl, rfl, rfl, by go_num, HQ, HL4, HR, HA, HRR, HM, HB⟩
              case measure => simp [intOf]; omega
          · rw [if_neg hb] at hq
            exact absurd hq (by simp)
        · have hk : a0.toNat * a0.toNat - n = 0 := by have := HSS.out; omega
          have hq := HQ.out
          rw [hk] at hq
          obtain rfl : l = L := Option.some.inj hq
          clear hq hk HQ
          obtain ⟨Au, cu, eu⟩ := Kd.R_slice HR.out
          subst eu
          have hcM0 : wr.cell? ⟨gM, 0, none⟩ = some (.int .i64 a0) := (blk_cell HM.out 0).trans rfl
          have hcM1 : wr.cell? ⟨gM, 1, none⟩ = some (.int .i64 a0) := (blk_cell HM.out 1).trans rfl
          have hcM2 : wr.cell? ⟨gM, 2, none⟩ = some (.slice Au l.length cu) := (blk_cell HM.out 2).trans rfl
          have hcR0 : wr.cell? ⟨gR, 0, none⟩ = some (.int .i64 0) := (blk_cell HRR.out 0).trans rfl
          have hcR1 : wr.cell? ⟨gR, 1, none⟩ = some (.int .i64 0) := (blk_cell HRR.out 1).trans rfl
          have hcR2 : wr.cell? ⟨gR, 2, none⟩ = some (.slice none 0 0) := (blk_cell HRR.out 2).trans rfl
          have hfR0 := blk_frozen HRR.out 0
          have hfR1 := blk_frozen HRR.out 1
          have hfR2 := blk_frozen HRR.out 2
          go_wp2
          refine bodyPost_ret (results_ct rfl _ _ gR 26 #[.int .i64 a0, .int .i64 a0, .slice Au l.length cu] (0, 0) _ rfl (by refine blk_put (cs := #[.int .i64 a0, .int .i64 a0, .slice none 0 0]) ?_ 2 _ rfl; refine blk_put (cs := #[.int .i64 a0, .int .i64 0, .slice none 0 0]) ?_ 1 _ rfl; refine blk_put (cs := #[.int .i64 0, .int .i64 0, .slice none 0 0]) ?_ 0 _ rfl; exact HRR.out) Try.underlying26 rfl (by kernel_rfl)) rfl ?_
          exact ⟨_, rfl, Kd.R_mono (Kd.R_far (p := ⟨gR, 2, none⟩) (Kd.R_far (p := ⟨gR, 1, none⟩) (Kd.R_far (p := ⟨gR, 0, none⟩) (Kd.R_types (Kd.R_lower HR.out SZ.out) HRR.out (by decide)) (fun _ hk => hk.2) _) (fun _ hk => hk.2) _) (fun _ hk => hk.2) _) (fun _ hk => trivial), below_set (below_set (below_set HB.out GER.out) GER.out) GER.out⟩
    · rw [if_neg (fun q => g1 q.2)] at h
      simp only [Option.some.injEq, Prod.mk.injEq] at h
      obtain ⟨rfl, rfl, rfl, rfl⟩ := h
      go_enter Try.func24, Try.ntmps24
      go_wp2_with (first | ((with_reducible refine gate_dst (N := 1) rfl ?_); refine box_event ?hg (N := 1) ?hd (cs := #[Value.int .i64 a0]) (t := 3) ?hr ?_; (case hd => rfl); (case hg => rfl); (case hr => first | (go_simp; done) | (go_simp; rfl)); intro gA hg_ wA hbox_ hb_; have n0_ := Aside0.mk (below_step (by first | exact HB.out | exact pw_below_drewN HB.out _ | exact pw_below_drewN (pw_below_drewN HB.out _) _) hb_); have GEA := Aside0.mk (show w.heap.size ≤ gA by rw [hg_]; exact below_size (by first | exact HB.out | exact pw_below_drewN HB.out _ | exact pw_below_drewN (pw_below_drewN HB.out _) _)); clear HB; have HB := n0_; clear n0_; have BKA := Aside0.mk hbox_; clear hbox_ hb_ hg_; have hcA0 := (blk_cell BKA.out 0).trans rfl; have hfA0 := blk_frozen BKA.out 0) | ((with_reducible refine gate_dst (N := 2) rfl ?_); refine box_event ?hg (N := 2) ?hd (cs := #[Value.int .i64 0, Value.int .i64 0, Value.slice none 0 0]) (t := 26) ?hr ?_; (case hd => rfl); (case hg => rfl); (case hr => first | (go_simp; done) | (go_simp; rfl)); intro gR hg_ wR hbox_ hb_; have n0_ := Aside0.mk (below_step (by first | exact HB.out | exact pw_below_drewN HB.out _ | exact pw_below_drewN (pw_below_drewN HB.out _) _) hb_); have GER := Aside0.mk (show w.heap.size ≤ gR by rw [hg_]; exact below_size (by first | exact HB.out | exact pw_below_drewN HB.out _ | exact pw_below_drewN (pw_below_drewN HB.out _) _)); have n_ := Aside0.mk (by first | exact blk_below BKA.out hb_ | exact blk_below (blk_drewN BKA.out _) hb_ | exact blk_below (blk_drewN (blk_drewN BKA.out _) _) hb_); clear BKA; have BKA := n_; clear n_; clear HB; have HB := n0_; clear n0_; have BKR := Aside0.mk hbox_; clear hbox_ hb_ hg_; have hcA0 := (blk_cell BKA.out 0).trans rfl; have hfA0 := blk_frozen BKA.out 0; have hcR0 := (blk_cell BKR.out 0).trans rfl; have hcR1 := (blk_cell BKR.out 1).trans rfl; have hcR2 := (blk_cell BKR.out 2).trans rfl; have hfR0 := blk_frozen BKR.out 0; have hfR1 := blk_frozen BKR.out 1; have hfR2 := blk_frozen BKR.out 2))
      refine bodyPost_ret (results_ct rfl _ _ gR 26 #[.int .i64 0, .int .i64 0, .slice none 0 0] (0, 0) _ rfl (by refine blk_put (cs := #[.int .i64 0, .int .i64 0, .slice none 0 0]) ?_ 2 _ rfl; refine blk_put (cs := #[.int .i64 0, .int .i64 0, .slice none 0 0]) ?_ 1 _ rfl; refine blk_put (cs := #[.int .i64 0, .int .i64 0, .slice none 0 0]) ?_ 0 _ rfl; first | exact BKR.out | exact blk_drewN BKR.out _ | exact blk_drewN (blk_drewN BKR.out _) _) Try.underlying26 rfl (by kernel_rfl)) rfl ?_
      exact ⟨_, rfl, Kd.R_nil _ _ _ _ _, below_set (below_set (below_set (by first | exact HB.out | exact pw_below_drewN HB.out _ | exact pw_below_drewN (pw_below_drewN HB.out _) _) GER.out) GER.out) GER.out⟩
  · rw [if_neg (fun q => g0 q.1)] at h
    simp only [Option.some.injEq, Prod.mk.injEq] at h
    obtain ⟨rfl, rfl, rfl, rfl⟩ := h
    go_enter Try.func24, Try.ntmps24
    go_wp2_with (first | ((with_reducible refine gate_dst (N := 1) rfl ?_); refine box_event ?hg (N := 1) ?hd (cs := #[Value.int .i64 a0]) (t := 3) ?hr ?_; (case hd => rfl); (case hg => rfl); (case hr => first | (go_simp; done) | (go_simp; rfl)); intro gA hg_ wA hbox_ hb_; have n0_ := Aside0.mk (below_step (by first | exact HB.out | exact pw_below_drewN HB.out _ | exact pw_below_drewN (pw_below_drewN HB.out _) _) hb_); have GEA := Aside0.mk (show w.heap.size ≤ gA by rw [hg_]; exact below_size (by first | exact HB.out | exact pw_below_drewN HB.out _ | exact pw_below_drewN (pw_below_drewN HB.out _) _)); clear HB; have HB := n0_; clear n0_; have BKA := Aside0.mk hbox_; clear hbox_ hb_ hg_; have hcA0 := (blk_cell BKA.out 0).trans rfl; have hfA0 := blk_frozen BKA.out 0) | ((with_reducible refine gate_dst (N := 2) rfl ?_); refine box_event ?hg (N := 2) ?hd (cs := #[Value.int .i64 0, Value.int .i64 0, Value.slice none 0 0]) (t := 26) ?hr ?_; (case hd => rfl); (case hg => rfl); (case hr => first | (go_simp; done) | (go_simp; rfl)); intro gR hg_ wR hbox_ hb_; have n0_ := Aside0.mk (below_step (by first | exact HB.out | exact pw_below_drewN HB.out _ | exact pw_below_drewN (pw_below_drewN HB.out _) _) hb_); have GER := Aside0.mk (show w.heap.size ≤ gR by rw [hg_]; exact below_size (by first | exact HB.out | exact pw_below_drewN HB.out _ | exact pw_below_drewN (pw_below_drewN HB.out _) _)); have n_ := Aside0.mk (by first | exact blk_below BKA.out hb_ | exact blk_below (blk_drewN BKA.out _) hb_ | exact blk_below (blk_drewN (blk_drewN BKA.out _) _) hb_); clear BKA; have BKA := n_; clear n_; clear HB; have HB := n0_; clear n0_; have BKR := Aside0.mk hbox_; clear hbox_ hb_ hg_; have hcA0 := (blk_cell BKA.out 0).trans rfl; have hfA0 := blk_frozen BKA.out 0; have hcR0 := (blk_cell BKR.out 0).trans rfl; have hcR1 := (blk_cell BKR.out 1).trans rfl; have hcR2 := (blk_cell BKR.out 2).trans rfl; have hfR0 := blk_frozen BKR.out 0; have hfR1 := blk_frozen BKR.out 1; have hfR2 := blk_frozen BKR.out 2))
    refine bodyPost_ret (results_ct rfl _ _ gR 26 #[.int .i64 0, .int .i64 0, .slice none 0 0] (0, 0) _ rfl (by refine blk_put (cs := #[.int .i64 0, .int .i64 0, .slice none 0 0]) ?_ 2 _ rfl; refine blk_put (cs := #[.int .i64 0, .int .i64 0, .slice none 0 0]) ?_ 1 _ rfl; refine blk_put (cs := #[.int .i64 0, .int .i64 0, .slice none 0 0]) ?_ 0 _ rfl; first | exact BKR.out | exact blk_drewN BKR.out _ | exact blk_drewN (blk_drewN BKR.out _) _) Try.underlying26 rfl (by kernel_rfl)) rfl ?_
    exact ⟨_, rfl, Kd.R_nil _ _ _ _ _, below_set (below_set (below_set (by first | exact HB.out | exact pw_below_drewN HB.out _ | exact pw_below_drewN (pw_below_drewN HB.out _) _) GER.out) GER.out) GER.out⟩



end Go.Proofs.Ytdlehfnlibddcaa.P
