-- Written by tools/seatprint.py (over the kit's print, changed in memory). Not trusted: Lean checks it.
import Derived.Test.YtdlehfnlibddcaaP0
import Derived.Test.YtdlehfnlibddcaaFpre
import Derived.Test.YtdlehfnlibddcaaFimplIsMatrix
import Derived.Test.YtdlehfnlibddcaaFimplrank
import Derived.Test.YtdlehfnlibddcaaFimpldrawn
import Derived.Test.YtdlehfnlibddcaaFimplone
import Derived.Test.YtdlehfnlibddcaaFimplIsPicture
import Derived.Test.YtdlehfnlibddcaaFimpllevel
namespace Go.Proofs.Ytdlehfnlibddcaa.P
open Go.RowKit Go.Proofs.YtdlehfnlibddcaaW.PrintWords Go.Proofs.YtdlehfnlibddcaaW.PrintLast Go.Proofs.YtdlehfnlibddcaaW.PrintMore
attribute [local go_sem] max2_int min2_int max_two min_two max_three min_three max_four min_four   -- for this text's walks alone
set_option linter.unusedVariables false
set_option linter.unusedSimpArgs false

/-! ### impl_ScreenPicture: function 72 -/
theorem cell_dw {w : World} {a : Addr} {v : Value} (h : w.cell? a = some v) : w.drew.cell? a = some v := h
theorem cell_dwN {w : World} {a : Addr} {v : Value} (h : w.cell? a = some v) (n : Nat) : (w.drewN n).cell? a = some v := h
theorem cell_bel {w w1 : World} {a : Addr} {v : Value} (h : w.cell? a = some v) (hb : Below w.heap.size w w1) : w1.cell? a = some v := (hb.cell (World.block_lt_of_cell? w _ h)).trans h
def lvlW (n v : Int) : Int := wrap64 (Int.tdiv (wrap64 ((wrap64 ((wrap64 (v * n)) * 2)) + 255)) 510)
set_option maxHeartbeats 8000000 in
set_option maxRecDepth 100000 in
theorem impl_ScreenPicture.clo (W : World) (g k : Nat) (w h : Int) (A : Option Addr) (l : List Int) (c : Nat) (u v : Int) (B : Option Addr) (m : List Int) (d : Nat) (x y : Int) (q0 : 1 ≤ w) (q1 : w ≤ 256) (q2 : 1 ≤ h) (q3 : h ≤ 256) (hl : (l.length : Int) = w * h) (hx0 : 0 ≤ x) (hx : x < u) (hy0 : 0 ≤ y) (hy : y < v) (hu : u ≤ 64) (hv : v ≤ 64) (hm : (m.length : Int) = u * v) (BK : W.heap[g]? = some (.cells #[.int .i64 w, .int .i64 h, .slice A l.length c] 26 (0, 0))) (BL : W.heap[k]? = some (.cells #[.int .i64 u, .int .i64 v, .slice B m.length d] 41 (0, 0))) (HC : Kd.C (Kd.int .i64) W A l.length l) (hc : l.length ≤ c) (HD : Kd.C (Kd.int .i64) W B m.length m) :
    Calls Try.prog 119 #[.int .i64 x, .int .i64 y, .pointer (some ⟨g, 0, none⟩), .pointer (some ⟨k, 0, none⟩)] W fun e w' => e = .returned (.int .i64 (if rd l (y % h * w + x % w) < lvlW (l.length : Int) (rd m (y * u + x)) then 1 else 0)) ∧ Below W.heap.size W w' := by
  have huM := Try.underlying26
  have huP := Try.underlying41
  have hb := idx_lt (w := u) (h := v) (x := x) (y := y) (by omega) (by omega) (by omega) (by omega)
  have hm0 : 0 ≤ y * u := Int.mul_nonneg (by omega) (by omega)
  have hm1 : y * u ≤ 64 * 64 := Int.le_trans (Int.mul_le_mul_of_nonneg_right (show y ≤ 64 by omega) (by omega)) (Int.mul_le_mul_of_nonneg_left hu (by omega))
  obtain ⟨ad, e, hx1⟩ := Kd.at_int HD (y * u + x) (by omega) (by omega)
  cases e
  have p1 : 0 ≤ y * u + x := by omega
  have p2 : y * u + x < (m.length : Int) := by omega
  have w1 : IntKind.i64.wrap (y * u) = y * u := IntWalk.i64_in _ (by omega)
  have w2 : IntKind.i64.wrap (y * u + x) = y * u + x := IntWalk.i64_in _ (by omega)
  have BK := Aside0.mk BK
  have BL := Aside0.mk BL
  have HC := Aside0.mk HC
  have HL := Aside0.mk hc
  have HE := Aside0.mk hl
  obtain ⟨I, hI⟩ : ∃ I : Int, rd m (y * u + x) = I := ⟨_, rfl⟩
  rw [hI] at hx1
  rw [hI]
  have HX := Aside0.mk hx1
  clear hl hc hb hm0 hm1 HD hI hx1 hm hx hy
  obtain ⟨R, hR⟩ : ∃ R : Int, rd l (y % h * w + x % w) = R := ⟨_, rfl⟩
  have HR := Aside0.mk hR
  rw [hR]
  clear hR
  obtain ⟨V, hV⟩ : ∃ V : Int, lvlW (l.length : Int) I = V := ⟨_, rfl⟩
  have HV := Aside0.mk (show impl_level.f (l.length : Int) I = some V from congrArg some hV)
  rw [hV]
  clear hV
  obtain ⟨b, hb⟩ : ∃ b : Bool, decide (R < V) = b := ⟨_, rfl⟩
  have HBB := Aside0.mk hb
  have hone : impl_one.f b = some (if R < V then 1 else 0) := by
    unfold impl_one.f
    rw [← hb]
    by_cases q : R < V
    · rw [if_pos q, if_pos (decide_eq_true q)]
    · rw [if_neg q, if_neg (by rw [decide_eq_false q]; simp)]
  have HO := Aside0.mk hone
  clear hone
  generalize (if R < V then (1 : Int) else 0) = z at HO ⊢
  go_enter Try.func119, Try.ntmps119
  go_wp2
  refine start_ (n := 21) (S := fun w' => w'.cell? ⟨g, 0, none⟩ = some (.int .i64 w) ∧ w'.cell? ⟨g, 1, none⟩ = some (.int .i64 h) ∧ w'.cell? ⟨g, 2, none⟩ = some (.slice A l.length c) ∧ w'.cell? ⟨k, 0, none⟩ = some (.int .i64 u) ∧ w'.cell? ⟨k, 1, none⟩ = some (.int .i64 v) ∧ w'.cell? ⟨k, 2, none⟩ = some (.slice (some ad) m.length d) ∧ w'.cell? (ad.add (y * u + x).toNat) = some (.int .i64 I)) (ds := []) #[false, false, false, false, false, false, false, false, false, false, false, false, false, false, false, false, false, false, false, false, false] (by kernel_rfl) rfl rfl ⟨(blk_cell (blk_drew BK.out) 0).trans rfl, (blk_cell (blk_drew BK.out) 1).trans rfl, (blk_cell (blk_drew BK.out) 2).trans rfl, (blk_cell (blk_drew BL.out) 0).trans rfl, (blk_cell (blk_drew BL.out) 1).trans rfl, (blk_cell (blk_drew BL.out) 2).trans rfl, (cell_dw HX.out)⟩ (fun hHeld => ?_)
  refine take_ (i := 0) (N := some 7) (v := ?_) (a' := ?_) #[true, false, false, false, false, false, false, false, false, false, false, false, false, false, false, false, false, false, false, false, false] rfl rfl (by kernel_rfl) (fun _ _ _ h => h) (Or.inl ⟨by rfl, ?_⟩) hHeld ?_ ?_
  rotate_left
  · intro w' s0
    obtain ⟨s0, s1, s2, s3, s4, s5, s6⟩ := s0
    go_simp
    with_reducible rfl
  rotate_left
  · simp only [Act.put, List.setIfInBounds_toArray, List.set_cons_zero, List.set_cons_succ, i64_w, i32_w]
    rfl
  refine pure_ (i := 1) (N := some 8) (v := ?_) (a' := ?_) #[true, true, false, false, false, false, false, false, false, false, false, false, false, false, false, false, false, false, false, false, false] rfl rfl (by kernel_rfl) (fun _ _ _ h => h) (Or.inl ⟨by rfl, ?_⟩) ?_ ?_
  rotate_left
  · intro w'
    go_simp
    with_reducible rfl
  rotate_left
  · simp only [Act.put, List.setIfInBounds_toArray, List.set_cons_zero, List.set_cons_succ, i64_w, i32_w]
    rfl
  refine pure_ (i := 2) (N := some 9) (v := ?_) (a' := ?_) #[true, true, true, false, false, false, false, false, false, false, false, false, false, false, false, false, false, false, false, false, false] rfl rfl (by kernel_rfl) (fun _ _ _ h => h) (Or.inl ⟨by rfl, ?_⟩) ?_ ?_
  rotate_left
  · intro w'
    go_simp
    with_reducible rfl
  rotate_left
  · simp only [Act.put, List.setIfInBounds_toArray, List.set_cons_zero, List.set_cons_succ, i64_w, i32_w]
    rfl
  refine pure_ (i := 4) (N := some 11) (v := ?_) (a' := ?_) #[true, true, true, false, true, false, false, false, false, false, false, false, false, false, false, false, false, false, false, false, false] rfl rfl (by kernel_rfl) (fun _ _ _ h => h) (Or.inl ⟨by rfl, ?_⟩) ?_ ?_
  rotate_left
  · intro w'
    go_simp
    with_reducible rfl
  rotate_left
  · simp only [Act.put, List.setIfInBounds_toArray, List.set_cons_zero, List.set_cons_succ, i64_w, i32_w]
    rfl
  refine take_ (i := 5) (N := some 12) (v := ?_) (a' := ?_) #[true, true, true, false, true, true, false, false, false, false, false, false, false, false, false, false, false, false, false, false, false] rfl rfl (by kernel_rfl) (fun _ _ _ h => h) (Or.inl ⟨by rfl, ?_⟩) hHeld ?_ ?_
  rotate_left
  · intro w' s0
    obtain ⟨s0, s1, s2, s3, s4, s5, s6⟩ := s0
    go_simp
    with_reducible rfl
  rotate_left
  · simp only [Act.put, List.setIfInBounds_toArray, List.set_cons_zero, List.set_cons_succ, i64_w, i32_w]
    rfl
  refine pure_ (i := 6) (N := some 13) (v := ?_) (a' := ?_) #[true, true, true, false, true, true, true, false, false, false, false, false, false, false, false, false, false, false, false, false, false] rfl rfl (by kernel_rfl) (fun _ _ _ h => h) (Or.inl ⟨by rfl, ?_⟩) ?_ ?_
  rotate_left
  · intro w'
    go_simp
    with_reducible rfl
  rotate_left
  · simp only [Act.put, List.setIfInBounds_toArray, List.set_cons_zero, List.set_cons_succ, i64_w, i32_w]
    rfl
  refine pure_ (i := 7) (N := some 14) (v := ?_) (a' := ?_) #[true, true, true, false, true, true, true, true, false, false, false, false, false, false, false, false, false, false, false, false, false] rfl rfl (by kernel_rfl) (fun _ _ _ h => h) (Or.inl ⟨by rfl, ?_⟩) ?_ ?_
  rotate_left
  · intro w'
    go_simp
    with_reducible rfl
  rotate_left
  · simp only [Act.put, List.setIfInBounds_toArray, List.set_cons_zero, List.set_cons_succ, i64_w, i32_w]
    rfl
  refine take_ (i := 8) (N := some 15) (v := ?_) (a' := ?_) #[true, true, true, false, true, true, true, true, true, false, false, false, false, false, false, false, false, false, false, false, false] rfl rfl (by kernel_rfl) (fun _ _ _ h => h) (Or.inl ⟨by rfl, ?_⟩) hHeld ?_ ?_
  rotate_left
  · intro w' s0
    obtain ⟨s0, s1, s2, s3, s4, s5, s6⟩ := s0
    go_simp
    with_reducible rfl
  rotate_left
  · simp only [Act.put, List.setIfInBounds_toArray, List.set_cons_zero, List.set_cons_succ, i64_w, i32_w]
    rfl
  refine pure_ (i := 9) (N := some 16) (v := ?_) (a' := ?_) #[true, true, true, false, true, true, true, true, true, true, false, false, false, false, false, false, false, false, false, false, false] rfl rfl (by kernel_rfl) (fun _ _ _ h => h) (Or.inl ⟨by rfl, ?_⟩) ?_ ?_
  rotate_left
  · intro w'
    go_simp
    with_reducible rfl
  rotate_left
  · simp only [Act.put, List.setIfInBounds_toArray, List.set_cons_zero, List.set_cons_succ, i64_w, i32_w]
    rfl
  refine pure_ (i := 10) (N := some 17) (v := ?_) (a' := ?_) #[true, true, true, false, true, true, true, true, true, true, true, false, false, false, false, false, false, false, false, false, false] rfl rfl (by kernel_rfl) (fun _ _ _ h => h) (Or.inl ⟨by rfl, ?_⟩) ?_ ?_
  rotate_left
  · intro w'
    go_simp
    with_reducible rfl
  rotate_left
  · simp only [Act.put, List.setIfInBounds_toArray, List.set_cons_zero, List.set_cons_succ, i64_w, i32_w]
    rfl
  refine take_ (i := 11) (N := some 18) (v := ?_) (a' := ?_) #[true, true, true, false, true, true, true, true, true, true, true, true, false, false, false, false, false, false, false, false, false] rfl rfl (by kernel_rfl) (fun _ _ _ h => h) (Or.inl ⟨by rfl, ?_⟩) hHeld ?_ ?_
  rotate_left
  · intro w' s0
    obtain ⟨s0, s1, s2, s3, s4, s5, s6⟩ := s0
    go_simp
    with_reducible rfl
  rotate_left
  · simp only [Act.put, List.setIfInBounds_toArray, List.set_cons_zero, List.set_cons_succ, i64_w, i32_w]
    rfl
  refine pure_ (i := 12) (N := some 19) (v := ?_) (a' := ?_) #[true, true, true, false, true, true, true, true, true, true, true, true, true, false, false, false, false, false, false, false, false] rfl rfl (by kernel_rfl) (fun _ _ _ h => h) (Or.inl ⟨by rfl, ?_⟩) ?_ ?_
  rotate_left
  · intro w'
    go_simp
    with_reducible rfl
  rotate_left
  · simp only [Act.put, List.setIfInBounds_toArray, List.set_cons_zero, List.set_cons_succ, i64_w, i32_w]
    rfl
  refine pure_ (i := 13) (N := some 20) (v := ?_) (a' := ?_) #[true, true, true, false, true, true, true, true, true, true, true, true, true, true, false, false, false, false, false, false, false] rfl rfl (by kernel_rfl) (fun _ _ _ h => h) (Or.inl ⟨by rfl, ?_⟩) ?_ ?_
  rotate_left
  · intro w'
    go_simp
    with_reducible rfl
  rotate_left
  · simp only [Act.put, List.setIfInBounds_toArray, List.set_cons_zero, List.set_cons_succ, i64_w, i32_w]
    rfl
  refine pure_ (i := 14) (N := some 21) (v := ?_) (a' := ?_) #[true, true, true, false, true, true, true, true, true, true, true, true, true, true, true, false, false, false, false, false, false] rfl rfl (by kernel_rfl) (fun _ _ _ h => h) (Or.inl ⟨by rfl, ?_⟩) ?_ ?_
  rotate_left
  · intro w'
    go_simp
    with_reducible rfl
  rotate_left
  · simp only [Act.put, List.setIfInBounds_toArray, List.set_cons_zero, List.set_cons_succ, i64_w, i32_w]
    rfl
  refine pure_ (i := 15) (N := some 22) (v := ?_) (a' := ?_) #[true, true, true, false, true, true, true, true, true, true, true, true, true, true, true, true, false, false, false, false, false] rfl rfl (by kernel_rfl) (fun _ _ _ h => h) (Or.inl ⟨by rfl, ?_⟩) ?_ ?_
  rotate_left
  · intro w'
    go_simp
    with_reducible rfl
  rotate_left
  · simp only [Act.put, List.setIfInBounds_toArray, List.set_cons_zero, List.set_cons_succ, i64_w, i32_w]
    rfl
  refine take_ (i := 16) (N := some 23) (v := ?_) (a' := ?_) #[true, true, true, false, true, true, true, true, true, true, true, true, true, true, true, true, true, false, false, false, false] rfl rfl (by kernel_rfl) (fun _ _ _ h => h) (Or.inl ⟨by rfl, ?_⟩) hHeld ?_ ?_
  rotate_left
  · intro w' s0
    obtain ⟨s0, s1, s2, s3, s4, s5, s6⟩ := s0
    go_simp
    with_reducible rfl
  rotate_left
  · simp only [Act.put, List.setIfInBounds_toArray, List.set_cons_zero, List.set_cons_succ, i64_w, i32_w]
    rfl
  refine one_ (i := 3) (N := some 10) #[true, true, true, true, true, true, true, true, true, true, true, true, true, true, true, true, true, false, false, false, false] rfl rfl (by kernel_rfl) (by decide) (fun K hK => ?_)
  refine goes_ Try.func88 (by kernel_rfl) rfl #[.agg #[.int .i64 w, .int .i64 h, .slice A l.length c], .int .i64 x, .int .i64 y] (by rfl) rfl rfl (by simp only [List.map_toArray, List.map_cons, List.map_nil]; rfl) ?_
  with_reducible refine (rank_calls w h A c l x y _ (Kd.C_drew HC.out) HL.out q0 q1 q2 q3 HE.out).mono ?_
  rintro e w3 ⟨rfl, hb3⟩
  rw [HR.out]
  have HB3 := Aside0.mk (below_step (below_drew1 (Below.refl _ _)) hb3)
  have HG3 := Aside0.mk (blk_below (blk_drew BK.out) hb3)
  have HK3 := Aside0.mk (blk_below (blk_drew BL.out) hb3)
  have HX3 := Aside0.mk (cell_bel (cell_dw HX.out) hb3)
  clear hb3
  refine ⟨_, rfl, ?_⟩
  refine hK.out _ _ ⟨(blk_cell HG3.out 0).trans rfl, (blk_cell HG3.out 1).trans rfl, (blk_cell HG3.out 2).trans rfl, (blk_cell HK3.out 0).trans rfl, (blk_cell HK3.out 1).trans rfl, (blk_cell HK3.out 2).trans rfl, HX3.out⟩ (fun hHeld => ?_)
  clear hK K
  refine norm_ (a' := ?_) ?_ ?_
  rotate_left
  · show Act.put _ (some 10) _ = _
    simp only [Act.put, List.setIfInBounds_toArray, List.set_cons_zero, List.set_cons_succ, i64_w, i32_w]
    rfl
  refine one_ (i := 17) (N := some 24) #[true, true, true, true, true, true, true, true, true, true, true, true, true, true, true, true, true, true, false, false, false] rfl rfl (by kernel_rfl) (by decide) (fun K hK => ?_)
  refine goes_ Try.func114 (by kernel_rfl) rfl #[.int .i64 (l.length : Int), .int .i64 I] (by rfl) rfl rfl (by simp only [List.map_toArray, List.map_cons, List.map_nil]; rfl) ?_
  with_reducible refine (impl_level.calls (l.length : Int) I V _ HV.out).mono ?_
  rintro e w4 ⟨rfl, ⟨nd, rfl⟩⟩
  refine ⟨_, rfl, ?_⟩
  refine hK.out _ _ ⟨(blk_cell (blk_drewN HG3.out _) 0).trans rfl, (blk_cell (blk_drewN HG3.out _) 1).trans rfl, (blk_cell (blk_drewN HG3.out _) 2).trans rfl, (blk_cell (blk_drewN HK3.out _) 0).trans rfl, (blk_cell (blk_drewN HK3.out _) 1).trans rfl, (blk_cell (blk_drewN HK3.out _) 2).trans rfl, (cell_dwN HX3.out _)⟩ (fun hHeld => ?_)
  clear hK K
  refine norm_ (a' := ?_) ?_ ?_
  rotate_left
  · show Act.put _ (some 24) _ = _
    simp only [Act.put, List.setIfInBounds_toArray, List.set_cons_zero, List.set_cons_succ, i64_w, i32_w]
    rfl
  refine pure_ (i := 18) (N := some 25) (v := ?_) (a' := ?_) #[true, true, true, true, true, true, true, true, true, true, true, true, true, true, true, true, true, true, true, false, false] rfl rfl (by kernel_rfl) (fun _ _ _ h => h) (Or.inl ⟨by rfl, ?_⟩) ?_ ?_
  rotate_left
  · intro w'
    go_simp
    with_reducible rfl
  rotate_left
  · simp only [Act.put, List.setIfInBounds_toArray, List.set_cons_zero, List.set_cons_succ, i64_w, i32_w]
    rfl
  try rw [HBB.out]
  refine one_ (i := 19) (N := some 26) #[true, true, true, true, true, true, true, true, true, true, true, true, true, true, true, true, true, true, true, true, false] rfl rfl (by kernel_rfl) (by decide) (fun K hK => ?_)
  refine goes_ Try.func97 (by kernel_rfl) rfl #[.bool b] (by rfl) rfl rfl (by simp only [List.map_toArray, List.map_cons, List.map_nil]; rfl) ?_
  with_reducible refine (impl_one.calls b z _ HO.out).mono ?_
  rintro e w5 ⟨rfl, ⟨nd2, rfl⟩⟩
  refine ⟨_, rfl, ?_⟩
  refine hK.out _ _ ⟨(blk_cell (blk_drewN (blk_drewN HG3.out _) _) 0).trans rfl, (blk_cell (blk_drewN (blk_drewN HG3.out _) _) 1).trans rfl, (blk_cell (blk_drewN (blk_drewN HG3.out _) _) 2).trans rfl, (blk_cell (blk_drewN (blk_drewN HK3.out _) _) 0).trans rfl, (blk_cell (blk_drewN (blk_drewN HK3.out _) _) 1).trans rfl, (blk_cell (blk_drewN (blk_drewN HK3.out _) _) 2).trans rfl, (cell_dwN (cell_dwN HX3.out _) _)⟩ (fun hHeld => ?_)
  clear hK K
  refine norm_ (a' := ?_) ?_ ?_
  rotate_left
  · show Act.put _ (some 26) _ = _
    simp only [Act.put, List.setIfInBounds_toArray, List.set_cons_zero, List.set_cons_succ, i64_w, i32_w]
    rfl
  refine pure_ (i := 20) (N := some 6) (v := ?_) (a' := ?_) #[true, true, true, true, true, true, true, true, true, true, true, true, true, true, true, true, true, true, true, true, true] rfl rfl (by kernel_rfl) (fun _ _ _ h => h) (Or.inl ⟨by rfl, ?_⟩) ?_ ?_
  rotate_left
  · intro w'
    go_simp
    with_reducible rfl
  rotate_left
  · simp only [Act.put, List.setIfInBounds_toArray, List.set_cons_zero, List.set_cons_succ, i64_w, i32_w]
    rfl
  refine done_ (by kernel_rfl) ?_
  go_wp2
  go_ret
  exact ⟨rfl, pw_below_drewN (pw_below_drewN HB3.out _) _⟩

def impl_ScreenPicture.f (a0_0 : Int) (a0_1 : Int) (l0_2 : List Int) (a1_0 : Int) (a1_1 : Int) (l1_2 : List Int) : Option (Int × Int × List Int) :=
  if matB a0_0 a0_1 l0_2 = true ∧ picB a1_0 a1_1 l1_2 255 = true then some (a1_0, a1_1, gridL a1_0 (fun x y => if rd l0_2 (y % a0_1 * a0_0 + x % a0_0) < lvlW (l0_2.length : Int) (rd l1_2 (y * a1_0 + x)) then 1 else 0) (Int.toNat a1_1 * Int.toNat a1_0)) else some (0, 0, [])
set_option maxHeartbeats 8000000 in
set_option maxRecDepth 100000 in
theorem impl_ScreenPicture.calls (a0_0 : Int) (a0_1 : Int) (A0_2 : Option Addr) (c0_2 : Nat) (l0_2 : List Int) (a1_0 : Int) (a1_1 : Int) (A1_2 : Option Addr) (c1_2 : Nat) (l1_2 : List Int) (r1 : Int) (r2 : Int) (r3 : List Int) (w : World) (hr0_2 : Kd.C (Kd.int .i64) w A0_2 l0_2.length l0_2) (hc0_2 : l0_2.length ≤ c0_2) (hr1_2 : Kd.C (Kd.int .i64) w A1_2 l1_2.length l1_2) (hc1_2 : l1_2.length ≤ c1_2) (h : impl_ScreenPicture.f a0_0 a0_1 l0_2 a1_0 a1_1 l1_2 = some (r1, r2, r3)) :
  Calls Try.prog 72 #[.agg #[.int .i64 a0_0, .int .i64 a0_1, .slice A0_2 l0_2.length c0_2], .agg #[.int .i64 a1_0, .int .i64 a1_1, .slice A1_2 l1_2.length c1_2]] w fun e w' => ∃ v2_ : Value, e = .returned (.agg #[.int .i64 r1, .int .i64 r2, v2_]) ∧ Kd.R (Kd.int .i64) 3 w' w.heap.size (fun _ => True) v2_ r3 ∧ Below w.heap.size w w' := by
 have huP := Try.underlying41
 have hmf : ∀ (fn : Fn) (first cap : Array Value) (w : World), (Instr.makeFunc fn first cap).run Try.prog w = .ok (.func fn first cap) w := fun _ _ _ _ => rfl
 have HC0 := Aside0.mk hr0_2
 have HL0 := Aside0.mk hc0_2
 clear hr0_2 hc0_2
 have HC1 := Aside0.mk hr1_2
 have HL1 := Aside0.mk hc1_2
 clear hr1_2 hc1_2
 have HB := Aside0.mk (Below.refl w.heap.size w)
 unfold impl_ScreenPicture.f at h
 by_cases hg : matB a0_0 a0_1 l0_2 = true ∧ picB a1_0 a1_1 l1_2 255 = true
 ·rw [if_pos hg] at h
  simp only [Option.some.injEq, Prod.mk.injEq] at h
  obtain ⟨rfl, rfl, rfl⟩ := h
  obtain ⟨t0, t1⟩ := hg
  go_enter Try.func72, Try.ntmps72
  go_wp2_with (first | ((with_reducible refine gate_dst (N := 2) rfl ?_); refine box_event ?hg (N := 2) ?hd (cs := #[Value.int .i64 a0_0, Value.int .i64 a0_1, Value.slice A0_2 l0_2.length c0_2]) (t := 26) ?hr ?_; (case hd => rfl); (case hg => rfl); (case hr => first | (go_simp; done) | (go_simp; rfl)); intro gA hg_ wA hbox_ hb_; have n0_ := Aside0.mk (below_step (by first | exact HB.out | exact pw_below_drewN HB.out _ | exact pw_below_drewN (pw_below_drewN HB.out _) _) hb_); have GEA := Aside0.mk (show w.heap.size ≤ gA by rw [hg_]; exact below_size (by first | exact HB.out | exact pw_below_drewN HB.out _ | exact pw_below_drewN (pw_below_drewN HB.out _) _)); clear HB; have HB := n0_; clear n0_; have BKA := Aside0.mk hbox_; clear hbox_ hb_ hg_; have hcA0 := (blk_cell BKA.out 0).trans rfl; have hcA1 := (blk_cell BKA.out 1).trans rfl; have hcA2 := (blk_cell BKA.out 2).trans rfl; have hfA0 := blk_frozen BKA.out 0; have hfA1 := blk_frozen BKA.out 1; have hfA2 := blk_frozen BKA.out 2) | ((with_reducible refine gate_dst (N := 3) rfl ?_); refine box_event ?hg (N := 3) ?hd (cs := #[Value.int .i64 a1_0, Value.int .i64 a1_1, Value.slice A1_2 l1_2.length c1_2]) (t := 41) ?hr ?_; (case hd => rfl); (case hg => rfl); (case hr => first | (go_simp; done) | (go_simp; rfl)); intro gB hg_ wB hbox_ hb_; have n0_ := Aside0.mk (below_step (by first | exact HB.out | exact pw_below_drewN HB.out _ | exact pw_below_drewN (pw_below_drewN HB.out _) _) hb_); have GEB := Aside0.mk (show w.heap.size ≤ gB by rw [hg_]; exact below_size (by first | exact HB.out | exact pw_below_drewN HB.out _ | exact pw_below_drewN (pw_below_drewN HB.out _) _)); have n_ := Aside0.mk (by first | exact blk_below BKA.out hb_ | exact blk_below (blk_drewN BKA.out _) hb_ | exact blk_below (blk_drewN (blk_drewN BKA.out _) _) hb_); clear BKA; have BKA := n_; clear n_ HB; have HB := n0_; clear n0_; have BKB := Aside0.mk hbox_; clear hbox_ hb_ hg_; have hcA0 := (blk_cell BKA.out 0).trans rfl; have hcA1 := (blk_cell BKA.out 1).trans rfl; have hcA2 := (blk_cell BKA.out 2).trans rfl; have hfA0 := blk_frozen BKA.out 0; have hfA1 := blk_frozen BKA.out 1; have hfA2 := blk_frozen BKA.out 2; have hcB0 := (blk_cell BKB.out 0).trans rfl; have hcB1 := (blk_cell BKB.out 1).trans rfl; have hcB2 := (blk_cell BKB.out 2).trans rfl; have hfB0 := blk_frozen BKB.out 0; have hfB1 := blk_frozen BKB.out 1; have hfB2 := blk_frozen BKB.out 2) | ((with_reducible refine gate_dst (N := 4) rfl ?_); refine box_event ?hg (N := 4) ?hd (cs := #[Value.int .i64 0, Value.int .i64 0, Value.slice none 0 0]) (t := 41) ?hr ?_; (case hd => rfl); (case hg => rfl); (case hr => first | (go_simp; done) | (go_simp; rfl)); intro gR hg_ wR hbox_ hb_; have n0_ := Aside0.mk (below_step (by first | exact HB.out | exact pw_below_drewN HB.out _ | exact pw_below_drewN (pw_below_drewN HB.out _) _) hb_); have GER := Aside0.mk (show w.heap.size ≤ gR by rw [hg_]; exact below_size (by first | exact HB.out | exact pw_below_drewN HB.out _ | exact pw_below_drewN (pw_below_drewN HB.out _) _)); have n_ := Aside0.mk (by first | exact blk_below BKA.out hb_ | exact blk_below (blk_drewN BKA.out _) hb_ | exact blk_below (blk_drewN (blk_drewN BKA.out _) _) hb_); clear BKA; have BKA := n_; clear n_; have n_ := Aside0.mk (by first | exact blk_below BKB.out hb_ | exact blk_below (blk_drewN BKB.out _) hb_ | exact blk_below (blk_drewN (blk_drewN BKB.out _) _) hb_); clear BKB; have BKB := n_; clear n_ HB; have HB := n0_; clear n0_; have BKR := Aside0.mk hbox_; clear hbox_ hb_ hg_; have hcA0 := (blk_cell BKA.out 0).trans rfl; have hcA1 := (blk_cell BKA.out 1).trans rfl; have hcA2 := (blk_cell BKA.out 2).trans rfl; have hfA0 := blk_frozen BKA.out 0; have hfA1 := blk_frozen BKA.out 1; have hfA2 := blk_frozen BKA.out 2; have hcB0 := (blk_cell BKB.out 0).trans rfl; have hcB1 := (blk_cell BKB.out 1).trans rfl; have hcB2 := (blk_cell BKB.out 2).trans rfl; have hfB0 := blk_frozen BKB.out 0; have hfB1 := blk_frozen BKB.out 1; have hfB2 := blk_frozen BKB.out 2; have hcR0 := (blk_cell BKR.out 0).trans rfl; have hcR1 := (blk_cell BKR.out 1).trans rfl; have hcR2 := (blk_cell BKR.out 2).trans rfl; have hfR0 := blk_frozen BKR.out 0; have hfR1 := blk_frozen BKR.out 1; have hfR2 := blk_frozen BKR.out 2) | (go_at_call 28; with_reducible refine (isMatrix_calls a0_0 a0_1 A0_2 c0_2 l0_2 _ (by first | exact Kd.C_below HC0.out HB.out | exact Kd.C_below HC0.out (pw_below_drewN HB.out _)) HL0.out).mono ?_; (rotate_right; rintro e w1 ⟨rfl, hb_⟩; have n0_ := Aside0.mk (below_step (by first | exact HB.out | exact pw_below_drewN HB.out _ | exact pw_below_drewN (pw_below_drewN HB.out _) _) hb_); have n_ := Aside0.mk (by first | exact blk_below BKA.out hb_ | exact blk_below (blk_drewN BKA.out _) hb_ | exact blk_below (blk_drewN (blk_drewN BKA.out _) _) hb_); clear BKA; have BKA := n_; clear n_; have n_ := Aside0.mk (by first | exact blk_below BKB.out hb_ | exact blk_below (blk_drewN BKB.out _) hb_ | exact blk_below (blk_drewN (blk_drewN BKB.out _) _) hb_); clear BKB; have BKB := n_; clear n_; have n_ := Aside0.mk (by first | exact blk_below BKR.out hb_ | exact blk_below (blk_drewN BKR.out _) hb_ | exact blk_below (blk_drewN (blk_drewN BKR.out _) _) hb_); clear BKR; have BKR := n_; clear n_ HB; have HB := n0_; clear n0_ hb_; have hcA0 := (blk_cell BKA.out 0).trans rfl; have hcA1 := (blk_cell BKA.out 1).trans rfl; have hcA2 := (blk_cell BKA.out 2).trans rfl; have hfA0 := blk_frozen BKA.out 0; have hfA1 := blk_frozen BKA.out 1; have hfA2 := blk_frozen BKA.out 2; have hcB0 := (blk_cell BKB.out 0).trans rfl; have hcB1 := (blk_cell BKB.out 1).trans rfl; have hcB2 := (blk_cell BKB.out 2).trans rfl; have hfB0 := blk_frozen BKB.out 0; have hfB1 := blk_frozen BKB.out 1; have hfB2 := blk_frozen BKB.out 2; have hcR0 := (blk_cell BKR.out 0).trans rfl; have hcR1 := (blk_cell BKR.out 1).trans rfl; have hcR2 := (blk_cell BKR.out 2).trans rfl; have hfR0 := blk_frozen BKR.out 0; have hfR1 := blk_frozen BKR.out 1; have hfR2 := blk_frozen BKR.out 2)) | (go_at_call 98; with_reducible refine (isPicture_calls a1_0 a1_1 A1_2 c1_2 l1_2 _ (by first | exact Kd.C_below HC1.out HB.out | exact Kd.C_below HC1.out (pw_below_drewN HB.out _)) HL1.out).mono ?_; (rotate_right; rintro e w1 ⟨rfl, hb_⟩; have n0_ := Aside0.mk (below_step (by first | exact HB.out | exact pw_below_drewN HB.out _ | exact pw_below_drewN (pw_below_drewN HB.out _) _) hb_); have n_ := Aside0.mk (by first | exact blk_below BKA.out hb_ | exact blk_below (blk_drewN BKA.out _) hb_ | exact blk_below (blk_drewN (blk_drewN BKA.out _) _) hb_); clear BKA; have BKA := n_; clear n_; have n_ := Aside0.mk (by first | exact blk_below BKB.out hb_ | exact blk_below (blk_drewN BKB.out _) hb_ | exact blk_below (blk_drewN (blk_drewN BKB.out _) _) hb_); clear BKB; have BKB := n_; clear n_; have n_ := Aside0.mk (by first | exact blk_below BKR.out hb_ | exact blk_below (blk_drewN BKR.out _) hb_ | exact blk_below (blk_drewN (blk_drewN BKR.out _) _) hb_); clear BKR; have BKR := n_; clear n_ HB; have HB := n0_; clear n0_ hb_; have hcA0 := (blk_cell BKA.out 0).trans rfl; have hcA1 := (blk_cell BKA.out 1).trans rfl; have hcA2 := (blk_cell BKA.out 2).trans rfl; have hfA0 := blk_frozen BKA.out 0; have hfA1 := blk_frozen BKA.out 1; have hfA2 := blk_frozen BKA.out 2; have hcB0 := (blk_cell BKB.out 0).trans rfl; have hcB1 := (blk_cell BKB.out 1).trans rfl; have hcB2 := (blk_cell BKB.out 2).trans rfl; have hfB0 := blk_frozen BKB.out 0; have hfB1 := blk_frozen BKB.out 1; have hfB2 := blk_frozen BKB.out 2; have hcR0 := (blk_cell BKR.out 0).trans rfl; have hcR1 := (blk_cell BKR.out 1).trans rfl; have hcR2 := (blk_cell BKR.out 2).trans rfl; have hfR0 := blk_frozen BKR.out 0; have hfR1 := blk_frozen BKR.out 1; have hfR2 := blk_frozen BKR.out 2)) | (go_at_call 95; refine (drawn_calls a1_0 a1_1 119 #[.pointer (some ⟨gA, 0, none⟩), .pointer (some ⟨gB, 0, none⟩)] (fun x y => if rd l0_2 (y % a0_1 * a0_0 + x % a0_0) < lvlW (l0_2.length : Int) (rd l1_2 (y * a1_0 + x)) then 1 else 0) _ ?d0 ?d1 ?d2 ?d3 ?deg ?df).mono ?_; (rotate_right; rintro e w5 ⟨v5, rfl, hR, hb_⟩; have HBO := HB; have n0_ := Aside0.mk (below_step (by first | exact HB.out | exact pw_below_drewN HB.out _ | exact pw_below_drewN (pw_below_drewN HB.out _) _) hb_); have n_ := Aside0.mk (by first | exact blk_below BKA.out hb_ | exact blk_below (blk_drewN BKA.out _) hb_ | exact blk_below (blk_drewN (blk_drewN BKA.out _) _) hb_); clear BKA; have BKA := n_; clear n_; have n_ := Aside0.mk (by first | exact blk_below BKB.out hb_ | exact blk_below (blk_drewN BKB.out _) hb_ | exact blk_below (blk_drewN (blk_drewN BKB.out _) _) hb_); clear BKB; have BKB := n_; clear n_; have n_ := Aside0.mk (by first | exact blk_below BKR.out hb_ | exact blk_below (blk_drewN BKR.out _) hb_ | exact blk_below (blk_drewN (blk_drewN BKR.out _) _) hb_); clear BKR; have BKR := n_; clear n_; have HR := Aside0.mk hR; clear hR HB; have HB := n0_; clear n0_ hb_; obtain ⟨Ao, co, eo⟩ := Kd.R_slice HR.out; subst eo; have hcA0 := (blk_cell BKA.out 0).trans rfl; have hcA1 := (blk_cell BKA.out 1).trans rfl; have hcA2 := (blk_cell BKA.out 2).trans rfl; have hfA0 := blk_frozen BKA.out 0; have hfA1 := blk_frozen BKA.out 1; have hfA2 := blk_frozen BKA.out 2; have hcB0 := (blk_cell BKB.out 0).trans rfl; have hcB1 := (blk_cell BKB.out 1).trans rfl; have hcB2 := (blk_cell BKB.out 2).trans rfl; have hfB0 := blk_frozen BKB.out 0; have hfB1 := blk_frozen BKB.out 1; have hfB2 := blk_frozen BKB.out 2; have hcR0 := (blk_cell BKR.out 0).trans rfl; have hcR1 := (blk_cell BKR.out 1).trans rfl; have hcR2 := (blk_cell BKR.out 2).trans rfl; have hfR0 := blk_frozen BKR.out 0; have hfR1 := blk_frozen BKR.out 1; have hfR2 := blk_frozen BKR.out 2)))
  case d0 => have := pic_spec t1; omega
  case d1 => have := pic_spec t1; omega
  case d2 => have := pic_spec t1; omega
  case d3 => have := pic_spec t1; omega
  case deg => exact fun args W => enters_ Try.func119 (by kernel_rfl) rfl args W
  case df =>
   intro W x y hb hx0 hx hy0 hy
   have q := mat_spec t0; have q' := pic_spec t1; exact impl_ScreenPicture.clo W gA gB a0_0 a0_1 A0_2 l0_2 c0_2 a1_0 a1_1 A1_2 l1_2 c1_2 x y q.1 q.2.1 q.2.2.1 q.2.2.2.1 q.2.2.2.2.2.1 hx0 hx hy0 hy q'.2.1 q'.2.2.2.1 q'.2.2.2.2.2.1 (by first | exact blk_below BKA.out hb | exact blk_below (blk_drewN BKA.out _) hb) (by first | exact blk_below BKB.out hb | exact blk_below (blk_drewN BKB.out _) hb) (Kd.C_below HC0.out (below_step (by first | exact HB.out | exact pw_below_drewN HB.out _ | exact pw_below_drewN (pw_below_drewN HB.out _) _) hb)) HL0.out (Kd.C_below HC1.out (below_step (by first | exact HB.out | exact pw_below_drewN HB.out _ | exact pw_below_drewN (pw_below_drewN HB.out _) _) hb))
  refine bodyPost_ret (results_cell_row rfl _ _ gR 41 #[.int .i64 a1_0, .int .i64 a1_1, .slice Ao (gridL a1_0 (fun x y => if rd l0_2 (y % a0_1 * a0_0 + x % a0_0) < lvlW (l0_2.length : Int) (rd l1_2 (y * a1_0 + x)) then 1 else 0) (Int.toNat a1_1 * Int.toNat a1_0)).length co] (0, 0) _ rfl (by refine blk_put (cs := #[.int .i64 a1_0, .int .i64 a1_1, .slice none 0 0]) ?_ 2 _ rfl; refine blk_put (cs := #[.int .i64 a1_0, .int .i64 0, .slice none 0 0]) ?_ 1 _ rfl; refine blk_put (cs := #[.int .i64 0, .int .i64 0, .slice none 0 0]) ?_ 0 _ rfl; first | exact BKR.out | exact blk_drewN BKR.out _ | exact blk_drewN (blk_drewN BKR.out _) _) Try.underlying41 rfl (by kernel_rfl)) rfl ?_
  exact ⟨_, rfl, Kd.R_mono (Kd.R_far (p := ⟨gR, 2, none⟩) (Kd.R_far (p := ⟨gR, 1, none⟩) (Kd.R_far (p := ⟨gR, 0, none⟩) (Kd.R_types (Kd.R_lower HR.out (by first | exact below_size HBO.out | exact below_size (pw_below_drewN HBO.out _))) BKR.out (by decide)) (fun _ hk => hk.2) _) (fun _ hk => hk.2) _) (fun _ hk => hk.2) _) (fun _ hk => trivial), below_set (below_set (below_set HB.out GER.out) GER.out) GER.out⟩
 rw [if_neg hg] at h
 simp only [Option.some.injEq, Prod.mk.injEq] at h
 obtain ⟨rfl, rfl, rfl⟩ := h
 by_cases t0 : matB a0_0 a0_1 l0_2 = true
 ·have q_ := t0
  clear q_
  by_cases t1 : picB a1_0 a1_1 l1_2 255 = true
  ·have q_ := t1
   clear q_
   exact absurd ⟨t0, t1⟩ hg
  replace t1 := Bool.eq_false_iff.mpr t1
  clear hg
  go_enter Try.func72, Try.ntmps72
  go_wp2_with (first | ((with_reducible refine gate_dst (N := 2) rfl ?_); refine box_event ?hg (N := 2) ?hd (cs := #[Value.int .i64 a0_0, Value.int .i64 a0_1, Value.slice A0_2 l0_2.length c0_2]) (t := 26) ?hr ?_; (case hd => rfl); (case hg => rfl); (case hr => first | (go_simp; done) | (go_simp; rfl)); intro gA hg_ wA hbox_ hb_; have n0_ := Aside0.mk (below_step (by first | exact HB.out | exact pw_below_drewN HB.out _ | exact pw_below_drewN (pw_below_drewN HB.out _) _) hb_); have GEA := Aside0.mk (show w.heap.size ≤ gA by rw [hg_]; exact below_size (by first | exact HB.out | exact pw_below_drewN HB.out _ | exact pw_below_drewN (pw_below_drewN HB.out _) _)); clear HB; have HB := n0_; clear n0_; have BKA := Aside0.mk hbox_; clear hbox_ hb_ hg_; have hcA0 := (blk_cell BKA.out 0).trans rfl; have hcA1 := (blk_cell BKA.out 1).trans rfl; have hcA2 := (blk_cell BKA.out 2).trans rfl; have hfA0 := blk_frozen BKA.out 0; have hfA1 := blk_frozen BKA.out 1; have hfA2 := blk_frozen BKA.out 2) | ((with_reducible refine gate_dst (N := 3) rfl ?_); refine box_event ?hg (N := 3) ?hd (cs := #[Value.int .i64 a1_0, Value.int .i64 a1_1, Value.slice A1_2 l1_2.length c1_2]) (t := 41) ?hr ?_; (case hd => rfl); (case hg => rfl); (case hr => first | (go_simp; done) | (go_simp; rfl)); intro gB hg_ wB hbox_ hb_; have n0_ := Aside0.mk (below_step (by first | exact HB.out | exact pw_below_drewN HB.out _ | exact pw_below_drewN (pw_below_drewN HB.out _) _) hb_); have GEB := Aside0.mk (show w.heap.size ≤ gB by rw [hg_]; exact below_size (by first | exact HB.out | exact pw_below_drewN HB.out _ | exact pw_below_drewN (pw_below_drewN HB.out _) _)); have n_ := Aside0.mk (by first | exact blk_below BKA.out hb_ | exact blk_below (blk_drewN BKA.out _) hb_ | exact blk_below (blk_drewN (blk_drewN BKA.out _) _) hb_); clear BKA; have BKA := n_; clear n_ HB; have HB := n0_; clear n0_; have BKB := Aside0.mk hbox_; clear hbox_ hb_ hg_; have hcA0 := (blk_cell BKA.out 0).trans rfl; have hcA1 := (blk_cell BKA.out 1).trans rfl; have hcA2 := (blk_cell BKA.out 2).trans rfl; have hfA0 := blk_frozen BKA.out 0; have hfA1 := blk_frozen BKA.out 1; have hfA2 := blk_frozen BKA.out 2; have hcB0 := (blk_cell BKB.out 0).trans rfl; have hcB1 := (blk_cell BKB.out 1).trans rfl; have hcB2 := (blk_cell BKB.out 2).trans rfl; have hfB0 := blk_frozen BKB.out 0; have hfB1 := blk_frozen BKB.out 1; have hfB2 := blk_frozen BKB.out 2) | ((with_reducible refine gate_dst (N := 4) rfl ?_); refine box_event ?hg (N := 4) ?hd (cs := #[Value.int .i64 0, Value.int .i64 0, Value.slice none 0 0]) (t := 41) ?hr ?_; (case hd => rfl); (case hg => rfl); (case hr => first | (go_simp; done) | (go_simp; rfl)); intro gR hg_ wR hbox_ hb_; have n0_ := Aside0.mk (below_step (by first | exact HB.out | exact pw_below_drewN HB.out _ | exact pw_below_drewN (pw_below_drewN HB.out _) _) hb_); have GER := Aside0.mk (show w.heap.size ≤ gR by rw [hg_]; exact below_size (by first | exact HB.out | exact pw_below_drewN HB.out _ | exact pw_below_drewN (pw_below_drewN HB.out _) _)); have n_ := Aside0.mk (by first | exact blk_below BKA.out hb_ | exact blk_below (blk_drewN BKA.out _) hb_ | exact blk_below (blk_drewN (blk_drewN BKA.out _) _) hb_); clear BKA; have BKA := n_; clear n_; have n_ := Aside0.mk (by first | exact blk_below BKB.out hb_ | exact blk_below (blk_drewN BKB.out _) hb_ | exact blk_below (blk_drewN (blk_drewN BKB.out _) _) hb_); clear BKB; have BKB := n_; clear n_ HB; have HB := n0_; clear n0_; have BKR := Aside0.mk hbox_; clear hbox_ hb_ hg_; have hcA0 := (blk_cell BKA.out 0).trans rfl; have hcA1 := (blk_cell BKA.out 1).trans rfl; have hcA2 := (blk_cell BKA.out 2).trans rfl; have hfA0 := blk_frozen BKA.out 0; have hfA1 := blk_frozen BKA.out 1; have hfA2 := blk_frozen BKA.out 2; have hcB0 := (blk_cell BKB.out 0).trans rfl; have hcB1 := (blk_cell BKB.out 1).trans rfl; have hcB2 := (blk_cell BKB.out 2).trans rfl; have hfB0 := blk_frozen BKB.out 0; have hfB1 := blk_frozen BKB.out 1; have hfB2 := blk_frozen BKB.out 2; have hcR0 := (blk_cell BKR.out 0).trans rfl; have hcR1 := (blk_cell BKR.out 1).trans rfl; have hcR2 := (blk_cell BKR.out 2).trans rfl; have hfR0 := blk_frozen BKR.out 0; have hfR1 := blk_frozen BKR.out 1; have hfR2 := blk_frozen BKR.out 2) | (go_at_call 28; with_reducible refine (isMatrix_calls a0_0 a0_1 A0_2 c0_2 l0_2 _ (by first | exact Kd.C_below HC0.out HB.out | exact Kd.C_below HC0.out (pw_below_drewN HB.out _)) HL0.out).mono ?_; (rotate_right; rintro e w1 ⟨rfl, hb_⟩; have n0_ := Aside0.mk (below_step (by first | exact HB.out | exact pw_below_drewN HB.out _ | exact pw_below_drewN (pw_below_drewN HB.out _) _) hb_); have n_ := Aside0.mk (by first | exact blk_below BKA.out hb_ | exact blk_below (blk_drewN BKA.out _) hb_ | exact blk_below (blk_drewN (blk_drewN BKA.out _) _) hb_); clear BKA; have BKA := n_; clear n_; have n_ := Aside0.mk (by first | exact blk_below BKB.out hb_ | exact blk_below (blk_drewN BKB.out _) hb_ | exact blk_below (blk_drewN (blk_drewN BKB.out _) _) hb_); clear BKB; have BKB := n_; clear n_; have n_ := Aside0.mk (by first | exact blk_below BKR.out hb_ | exact blk_below (blk_drewN BKR.out _) hb_ | exact blk_below (blk_drewN (blk_drewN BKR.out _) _) hb_); clear BKR; have BKR := n_; clear n_ HB; have HB := n0_; clear n0_ hb_; have hcA0 := (blk_cell BKA.out 0).trans rfl; have hcA1 := (blk_cell BKA.out 1).trans rfl; have hcA2 := (blk_cell BKA.out 2).trans rfl; have hfA0 := blk_frozen BKA.out 0; have hfA1 := blk_frozen BKA.out 1; have hfA2 := blk_frozen BKA.out 2; have hcB0 := (blk_cell BKB.out 0).trans rfl; have hcB1 := (blk_cell BKB.out 1).trans rfl; have hcB2 := (blk_cell BKB.out 2).trans rfl; have hfB0 := blk_frozen BKB.out 0; have hfB1 := blk_frozen BKB.out 1; have hfB2 := blk_frozen BKB.out 2; have hcR0 := (blk_cell BKR.out 0).trans rfl; have hcR1 := (blk_cell BKR.out 1).trans rfl; have hcR2 := (blk_cell BKR.out 2).trans rfl; have hfR0 := blk_frozen BKR.out 0; have hfR1 := blk_frozen BKR.out 1; have hfR2 := blk_frozen BKR.out 2)) | (go_at_call 98; with_reducible refine (isPicture_calls a1_0 a1_1 A1_2 c1_2 l1_2 _ (by first | exact Kd.C_below HC1.out HB.out | exact Kd.C_below HC1.out (pw_below_drewN HB.out _)) HL1.out).mono ?_; (rotate_right; rintro e w1 ⟨rfl, hb_⟩; have n0_ := Aside0.mk (below_step (by first | exact HB.out | exact pw_below_drewN HB.out _ | exact pw_below_drewN (pw_below_drewN HB.out _) _) hb_); have n_ := Aside0.mk (by first | exact blk_below BKA.out hb_ | exact blk_below (blk_drewN BKA.out _) hb_ | exact blk_below (blk_drewN (blk_drewN BKA.out _) _) hb_); clear BKA; have BKA := n_; clear n_; have n_ := Aside0.mk (by first | exact blk_below BKB.out hb_ | exact blk_below (blk_drewN BKB.out _) hb_ | exact blk_below (blk_drewN (blk_drewN BKB.out _) _) hb_); clear BKB; have BKB := n_; clear n_; have n_ := Aside0.mk (by first | exact blk_below BKR.out hb_ | exact blk_below (blk_drewN BKR.out _) hb_ | exact blk_below (blk_drewN (blk_drewN BKR.out _) _) hb_); clear BKR; have BKR := n_; clear n_ HB; have HB := n0_; clear n0_ hb_; have hcA0 := (blk_cell BKA.out 0).trans rfl; have hcA1 := (blk_cell BKA.out 1).trans rfl; have hcA2 := (blk_cell BKA.out 2).trans rfl; have hfA0 := blk_frozen BKA.out 0; have hfA1 := blk_frozen BKA.out 1; have hfA2 := blk_frozen BKA.out 2; have hcB0 := (blk_cell BKB.out 0).trans rfl; have hcB1 := (blk_cell BKB.out 1).trans rfl; have hcB2 := (blk_cell BKB.out 2).trans rfl; have hfB0 := blk_frozen BKB.out 0; have hfB1 := blk_frozen BKB.out 1; have hfB2 := blk_frozen BKB.out 2; have hcR0 := (blk_cell BKR.out 0).trans rfl; have hcR1 := (blk_cell BKR.out 1).trans rfl; have hcR2 := (blk_cell BKR.out 2).trans rfl; have hfR0 := blk_frozen BKR.out 0; have hfR1 := blk_frozen BKR.out 1; have hfR2 := blk_frozen BKR.out 2)))
  refine bodyPost_ret (results_cell_row rfl _ _ gR 41 #[.int .i64 0, .int .i64 0, .slice none 0 0] (0, 0) _ rfl (by refine blk_put (cs := #[.int .i64 0, .int .i64 0, .slice none 0 0]) ?_ 2 _ rfl; refine blk_put (cs := #[.int .i64 0, .int .i64 0, .slice none 0 0]) ?_ 1 _ rfl; refine blk_put (cs := #[.int .i64 0, .int .i64 0, .slice none 0 0]) ?_ 0 _ rfl; first | exact BKR.out | exact blk_drewN BKR.out _ | exact blk_drewN (blk_drewN BKR.out _) _) Try.underlying41 rfl (by kernel_rfl)) rfl ?_
  exact ⟨_, rfl, Kd.R_nil _ _ _ _ _, below_set (below_set (below_set (by first | exact HB.out | exact pw_below_drewN HB.out _ | exact pw_below_drewN (pw_below_drewN HB.out _) _) GER.out) GER.out) GER.out⟩
 replace t0 := Bool.eq_false_iff.mpr t0
 clear hg
 go_enter Try.func72, Try.ntmps72
 go_wp2_with (first | ((with_reducible refine gate_dst (N := 2) rfl ?_); refine box_event ?hg (N := 2) ?hd (cs := #[Value.int .i64 a0_0, Value.int .i64 a0_1, Value.slice A0_2 l0_2.length c0_2]) (t := 26) ?hr ?_; (case hd => rfl); (case hg => rfl); (case hr => first | (go_simp; done) | (go_simp; rfl)); intro gA hg_ wA hbox_ hb_; have n0_ := Aside0.mk (below_step (by first | exact HB.out | exact pw_below_drewN HB.out _ | exact pw_below_drewN (pw_below_drewN HB.out _) _) hb_); have GEA := Aside0.mk (show w.heap.size ≤ gA by rw [hg_]; exact below_size (by first | exact HB.out | exact pw_below_drewN HB.out _ | exact pw_below_drewN (pw_below_drewN HB.out _) _)); clear HB; have HB := n0_; clear n0_; have BKA := Aside0.mk hbox_; clear hbox_ hb_ hg_; have hcA0 := (blk_cell BKA.out 0).trans rfl; have hcA1 := (blk_cell BKA.out 1).trans rfl; have hcA2 := (blk_cell BKA.out 2).trans rfl; have hfA0 := blk_frozen BKA.out 0; have hfA1 := blk_frozen BKA.out 1; have hfA2 := blk_frozen BKA.out 2) | ((with_reducible refine gate_dst (N := 3) rfl ?_); refine box_event ?hg (N := 3) ?hd (cs := #[Value.int .i64 a1_0, Value.int .i64 a1_1, Value.slice A1_2 l1_2.length c1_2]) (t := 41) ?hr ?_; (case hd => rfl); (case hg => rfl); (case hr => first | (go_simp; done) | (go_simp; rfl)); intro gB hg_ wB hbox_ hb_; have n0_ := Aside0.mk (below_step (by first | exact HB.out | exact pw_below_drewN HB.out _ | exact pw_below_drewN (pw_below_drewN HB.out _) _) hb_); have GEB := Aside0.mk (show w.heap.size ≤ gB by rw [hg_]; exact below_size (by first | exact HB.out | exact pw_below_drewN HB.out _ | exact pw_below_drewN (pw_below_drewN HB.out _) _)); have n_ := Aside0.mk (by first | exact blk_below BKA.out hb_ | exact blk_below (blk_drewN BKA.out _) hb_ | exact blk_below (blk_drewN (blk_drewN BKA.out _) _) hb_); clear BKA; have BKA := n_; clear n_ HB; have HB := n0_; clear n0_; have BKB := Aside0.mk hbox_; clear hbox_ hb_ hg_; have hcA0 := (blk_cell BKA.out 0).trans rfl; have hcA1 := (blk_cell BKA.out 1).trans rfl; have hcA2 := (blk_cell BKA.out 2).trans rfl; have hfA0 := blk_frozen BKA.out 0; have hfA1 := blk_frozen BKA.out 1; have hfA2 := blk_frozen BKA.out 2; have hcB0 := (blk_cell BKB.out 0).trans rfl; have hcB1 := (blk_cell BKB.out 1).trans rfl; have hcB2 := (blk_cell BKB.out 2).trans rfl; have hfB0 := blk_frozen BKB.out 0; have hfB1 := blk_frozen BKB.out 1; have hfB2 := blk_frozen BKB.out 2) | ((with_reducible refine gate_dst (N := 4) rfl ?_); refine box_event ?hg (N := 4) ?hd (cs := #[Value.int .i64 0, Value.int .i64 0, Value.slice none 0 0]) (t := 41) ?hr ?_; (case hd => rfl); (case hg => rfl); (case hr => first | (go_simp; done) | (go_simp; rfl)); intro gR hg_ wR hbox_ hb_; have n0_ := Aside0.mk (below_step (by first | exact HB.out | exact pw_below_drewN HB.out _ | exact pw_below_drewN (pw_below_drewN HB.out _) _) hb_); have GER := Aside0.mk (show w.heap.size ≤ gR by rw [hg_]; exact below_size (by first | exact HB.out | exact pw_below_drewN HB.out _ | exact pw_below_drewN (pw_below_drewN HB.out _) _)); have n_ := Aside0.mk (by first | exact blk_below BKA.out hb_ | exact blk_below (blk_drewN BKA.out _) hb_ | exact blk_below (blk_drewN (blk_drewN BKA.out _) _) hb_); clear BKA; have BKA := n_; clear n_; have n_ := Aside0.mk (by first | exact blk_below BKB.out hb_ | exact blk_below (blk_drewN BKB.out _) hb_ | exact blk_below (blk_drewN (blk_drewN BKB.out _) _) hb_); clear BKB; have BKB := n_; clear n_ HB; have HB := n0_; clear n0_; have BKR := Aside0.mk hbox_; clear hbox_ hb_ hg_; have hcA0 := (blk_cell BKA.out 0).trans rfl; have hcA1 := (blk_cell BKA.out 1).trans rfl; have hcA2 := (blk_cell BKA.out 2).trans rfl; have hfA0 := blk_frozen BKA.out 0; have hfA1 := blk_frozen BKA.out 1; have hfA2 := blk_frozen BKA.out 2; have hcB0 := (blk_cell BKB.out 0).trans rfl; have hcB1 := (blk_cell BKB.out 1).trans rfl; have hcB2 := (blk_cell BKB.out 2).trans rfl; have hfB0 := blk_frozen BKB.out 0; have hfB1 := blk_frozen BKB.out 1; have hfB2 := blk_frozen BKB.out 2; have hcR0 := (blk_cell BKR.out 0).trans rfl; have hcR1 := (blk_cell BKR.out 1).trans rfl; have hcR2 := (blk_cell BKR.out 2).trans rfl; have hfR0 := blk_frozen BKR.out 0; have hfR1 := blk_frozen BKR.out 1; have hfR2 := blk_frozen BKR.out 2) | (go_at_call 28; with_reducible refine (isMatrix_calls a0_0 a0_1 A0_2 c0_2 l0_2 _ (by first | exact Kd.C_below HC0.out HB.out | exact Kd.C_below HC0.out (pw_below_drewN HB.out _)) HL0.out).mono ?_; (rotate_right; rintro e w1 ⟨rfl, hb_⟩; have n0_ := Aside0.mk (below_step (by first | exact HB.out | exact pw_below_drewN HB.out _ | exact pw_below_drewN (pw_below_drewN HB.out _) _) hb_); have n_ := Aside0.mk (by first | exact blk_below BKA.out hb_ | exact blk_below (blk_drewN BKA.out _) hb_ | exact blk_below (blk_drewN (blk_drewN BKA.out _) _) hb_); clear BKA; have BKA := n_; clear n_; have n_ := Aside0.mk (by first | exact blk_below BKB.out hb_ | exact blk_below (blk_drewN BKB.out _) hb_ | exact blk_below (blk_drewN (blk_drewN BKB.out _) _) hb_); clear BKB; have BKB := n_; clear n_; have n_ := Aside0.mk (by first | exact blk_below BKR.out hb_ | exact blk_below (blk_drewN BKR.out _) hb_ | exact blk_below (blk_drewN (blk_drewN BKR.out _) _) hb_); clear BKR; have BKR := n_; clear n_ HB; have HB := n0_; clear n0_ hb_; have hcA0 := (blk_cell BKA.out 0).trans rfl; have hcA1 := (blk_cell BKA.out 1).trans rfl; have hcA2 := (blk_cell BKA.out 2).trans rfl; have hfA0 := blk_frozen BKA.out 0; have hfA1 := blk_frozen BKA.out 1; have hfA2 := blk_frozen BKA.out 2; have hcB0 := (blk_cell BKB.out 0).trans rfl; have hcB1 := (blk_cell BKB.out 1).trans rfl; have hcB2 := (blk_cell BKB.out 2).trans rfl; have hfB0 := blk_frozen BKB.out 0; have hfB1 := blk_frozen BKB.out 1; have hfB2 := blk_frozen BKB.out 2; have hcR0 := (blk_cell BKR.out 0).trans rfl; have hcR1 := (blk_cell BKR.out 1).trans rfl; have hcR2 := (blk_cell BKR.out 2).trans rfl; have hfR0 := blk_frozen BKR.out 0; have hfR1 := blk_frozen BKR.out 1; have hfR2 := blk_frozen BKR.out 2)) | (go_at_call 98; with_reducible refine (isPicture_calls a1_0 a1_1 A1_2 c1_2 l1_2 _ (by first | exact Kd.C_below HC1.out HB.out | exact Kd.C_below HC1.out (pw_below_drewN HB.out _)) HL1.out).mono ?_; (rotate_right; rintro e w1 ⟨rfl, hb_⟩; have n0_ := Aside0.mk (below_step (by first | exact HB.out | exact pw_below_drewN HB.out _ | exact pw_below_drewN (pw_below_drewN HB.out _) _) hb_); have n_ := Aside0.mk (by first | exact blk_below BKA.out hb_ | exact blk_below (blk_drewN BKA.out _) hb_ | exact blk_below (blk_drewN (blk_drewN BKA.out _) _) hb_); clear BKA; have BKA := n_; clear n_; have n_ := Aside0.mk (by first | exact blk_below BKB.out hb_ | exact blk_below (blk_drewN BKB.out _) hb_ | exact blk_below (blk_drewN (blk_drewN BKB.out _) _) hb_); clear BKB; have BKB := n_; clear n_; have n_ := Aside0.mk (by first | exact blk_below BKR.out hb_ | exact blk_below (blk_drewN BKR.out _) hb_ | exact blk_below (blk_drewN (blk_drewN BKR.out _) _) hb_); clear BKR; have BKR := n_; clear n_ HB; have HB := n0_; clear n0_ hb_; have hcA0 := (blk_cell BKA.out 0).trans rfl; have hcA1 := (blk_cell BKA.out 1).trans rfl; have hcA2 := (blk_cell BKA.out 2).trans rfl; have hfA0 := blk_frozen BKA.out 0; have hfA1 := blk_frozen BKA.out 1; have hfA2 := blk_frozen BKA.out 2; have hcB0 := (blk_cell BKB.out 0).trans rfl; have hcB1 := (blk_cell BKB.out 1).trans rfl; have hcB2 := (blk_cell BKB.out 2).trans rfl; have hfB0 := blk_frozen BKB.out 0; have hfB1 := blk_frozen BKB.out 1; have hfB2 := blk_frozen BKB.out 2; have hcR0 := (blk_cell BKR.out 0).trans rfl; have hcR1 := (blk_cell BKR.out 1).trans rfl; have hcR2 := (blk_cell BKR.out 2).trans rfl; have hfR0 := blk_frozen BKR.out 0; have hfR1 := blk_frozen BKR.out 1; have hfR2 := blk_frozen BKR.out 2)))
 refine bodyPost_ret (results_cell_row rfl _ _ gR 41 #[.int .i64 0, .int .i64 0, .slice none 0 0] (0, 0) _ rfl (by refine blk_put (cs := #[.int .i64 0, .int .i64 0, .slice none 0 0]) ?_ 2 _ rfl; refine blk_put (cs := #[.int .i64 0, .int .i64 0, .slice none 0 0]) ?_ 1 _ rfl; refine blk_put (cs := #[.int .i64 0, .int .i64 0, .slice none 0 0]) ?_ 0 _ rfl; first | exact BKR.out | exact blk_drewN BKR.out _ | exact blk_drewN (blk_drewN BKR.out _) _) Try.underlying41 rfl (by kernel_rfl)) rfl ?_
 exact ⟨_, rfl, Kd.R_nil _ _ _ _ _, below_set (below_set (below_set (by first | exact HB.out | exact pw_below_drewN HB.out _ | exact pw_below_drewN (pw_below_drewN HB.out _) _) GER.out) GER.out) GER.out⟩


end Go.Proofs.Ytdlehfnlibddcaa.P
