-- Written by tools/seatprint.py (over the kit's print, changed in memory). Not trusted: Lean checks it.
import Derived.Test.YtndnklicfibkeaaP0
import Derived.Test.YtndnklicfibkeaaFpre
namespace Go.Proofs.Ytndnklicfibkeaa.P
open Go.RowKit Go.Proofs.YtndnklicfibkeaaW.PrintWords Go.Proofs.YtndnklicfibkeaaW.PrintLast Go.Proofs.YtndnklicfibkeaaW.PrintMore
attribute [local go_sem] max2_int min2_int max_two min_two max_three min_three max_four min_four   -- for this text's walks alone
set_option linter.unusedVariables false
set_option linter.unusedSimpArgs false

/-! ### impl_drawn: function 44 -/
set_option maxHeartbeats 8000000 in
set_option maxRecDepth 100000 in
theorem drawn_calls (a0 a1 : Int) (g : Nat) (lb : Array Value) (f : Int → Int → Int) (w : World) (h0 : 0 ≤ a0) (h1 : 0 ≤ a1) (h2 : a0 ≤ 256) (h3 : a1 ≤ 256)
  (eg : ∀ args W, (callFunc g args).run Try.prog W = .ok (.enter g args) W)
  (hf : ∀ W x y, Below w.heap.size w W → 0 ≤ x → x < a0 → 0 ≤ y → y < a1 → Calls Try.prog g (#[.int .i64 x, .int .i64 y] ++ lb) W fun e w' => e = .returned (.int .i64 (f x y)) ∧ Below W.heap.size W w') :
  Calls Try.prog 44 #[.int .i64 a0, .int .i64 a1, .func (.func g) #[] lb] w fun e w' => ∃ v2_, e = .returned (.agg #[.int .i64 a0, .int .i64 a1, v2_]) ∧ Kd.R (Kd.int .i64) 3 w' w.heap.size (fun _ => True) v2_ (gridL a0 f (a1.toNat * a0.toNat)) ∧ Below w.heap.size w w' := by
  have huP := Try.underlying27
  have huS := Try.underlying25
  have HF := Aside0.mk hf
  clear hf
  have EG := Aside0.mk eg
  clear eg
  go_enter Try.func44, Try.ntmps44
  go_wp2
  go_loopw [14] (fun s14 wr => ∃ (j : Nat) (v : Value), (j : Int) ≤ a1 ∧ s14 = .int .i64 j ∧ Aside0 (wr.heap[w.heap.size + 1]? = some (.cells #[.int .i64 a0, .int .i64 a1, v] 27 (0,0)) ∧ wr.heap[w.heap.size]? = some (.cells #[.int .i64 0, .int .i64 0, .slice none 0 0] 27 (0,0)) ∧ Kd.R (Kd.int .i64) 3 wr (w.heap.size) (fun _ => True) v (gridL a0 f (j * a0.toNat)) ∧ Below w.heap.size w wr)) (fun s14 _ => (a1 - intOf s14).toNat)
  case atStart => exact ⟨0, .slice none 0 0, h1, rfl, ⟨blk_new1 _ _ _, blk_alloc (blk_new _ _) _, by rw [Nat.zero_mul, gridL_zero]; exact Kd.R_nil _ _ _ _ _, below_alloc (below_alloc (Below.refl _ _) _) _⟩⟩
  case round =>
    obtain ⟨j, v, hj, rfl, HH⟩ := hrel
    by_cases hlt : (j : Int) < a1
    · go_wp2
      obtain ⟨wo, rfl⟩ : ∃ wo : World, wo = wr := ⟨_, rfl⟩
      go_loopw [18] (fun s18 wr => ∃ (i : Nat) (v : Value), (i : Int) ≤ a0 ∧ s18 = .int .i64 i ∧ Aside0 (wr.heap[w.heap.size + 1]? = some (.cells #[.int .i64 a0, .int .i64 a1, v] 27 (0,0)) ∧ wr.heap[w.heap.size]? = some (.cells #[.int .i64 0, .int .i64 0, .slice none 0 0] 27 (0,0)) ∧ Kd.R (Kd.int .i64) 3 wr (w.heap.size) (fun _ => True) v (gridL a0 f (j * a0.toNat + i)) ∧ Below w.heap.size w wr)) (fun s18 _ => (a0 - intOf s18).toNat)
      case atStart => exact ⟨0, v, h0, rfl, HH⟩
      case round =>
        clear HH v
        obtain ⟨i, v, hi, rfl, HH⟩ := hrel
        by_cases hlt2 : (i : Int) < a0
        · go_wp2
          obtain ⟨HG, HG0, HR, HB⟩ := HH.out
          clear HH
          have HG := Aside0.mk HG
          have HG0 := Aside0.mk HG0
          have HR := Aside0.mk HR
          have HB := Aside0.mk HB
          refine start_ (n := 10) (S := fun w' => w'.cell? ⟨w.heap.size + 1, 2, none⟩ = some v) (ds := [9]) #[false, false, false, false, false, false, false, false, false, false] (by kernel_rfl) rfl rfl ((blk_cell (blk_drew HG.out) 2).trans rfl) (fun hHeld => ?_)
          refine pure_ (i := 0) (N := some 21) (v := ?_) (a' := ?_) #[true, false, false, false, false, false, false, false, false, false] rfl rfl (by kernel_rfl) (fun _ _ _ h => h) (Or.inl ⟨by rfl, ?_⟩) ?_ ?_
          rotate_left
          · intro w'
            go_simp
            with_reducible rfl
          rotate_left
          · simp only [Act.put, List.setIfInBounds_toArray, List.set_cons_zero, List.set_cons_succ, i64_w, i32_w]
            rfl
          refine pure_ (i := 2) (N := some 23) (v := ?_) (a' := ?_) #[true, false, true, false, false, false, false, false, false, false] rfl rfl (by kernel_rfl) (fun _ _ _ h => h) (Or.inl ⟨by rfl, ?_⟩) ?_ ?_
          rotate_left
          · intro w'
            go_simp
            with_reducible rfl
          rotate_left
          · simp only [Act.put, List.setIfInBounds_toArray, List.set_cons_zero, List.set_cons_succ, i64_w, i32_w]
            rfl
          refine pure_ (i := 3) (N := some 24) (v := ?_) (a' := ?_) #[true, false, true, true, false, false, false, false, false, false] rfl rfl (by kernel_rfl) (fun _ _ _ h => h) (Or.inl ⟨by rfl, ?_⟩) ?_ ?_
          rotate_left
          · intro w'
            go_simp
            with_reducible rfl
          rotate_left
          · simp only [Act.put, List.setIfInBounds_toArray, List.set_cons_zero, List.set_cons_succ, i64_w, i32_w]
            rfl
          refine pure_ (i := 4) (N := some 25) (v := ?_) (a' := ?_) #[true, false, true, true, true, false, false, false, false, false] rfl rfl (by kernel_rfl) (fun _ _ _ h => h) (Or.inl ⟨by rfl, ?_⟩) ?_ ?_
          rotate_left
          · intro w'
            go_simp
            with_reducible rfl
          rotate_left
          · simp only [Act.put, List.setIfInBounds_toArray, List.set_cons_zero, List.set_cons_succ, i64_w, i32_w]
            rfl
          refine take_ (i := 1) (N := some 22) (v := ?_) (a' := ?_) #[true, true, true, true, true, false, false, false, false, false] rfl rfl (by kernel_rfl) (fun _ _ _ h => h) (Or.inl ⟨by rfl, ?_⟩) hHeld ?_ ?_
          rotate_left
          · intro w' s0
            go_simp
            with_reducible rfl
          rotate_left
          · simp only [Act.put, List.setIfInBounds_toArray, List.set_cons_zero, List.set_cons_succ, i64_w, i32_w]
            rfl
          refine one_ (i := 5) (N := some 26) #[true, true, true, true, true, true, false, false, false, false] rfl rfl (by kernel_rfl) (by decide) (fun K hK => ?_)
          refine goesF_ EG.out #[.int .i64 (i : Int), .int .i64 (j : Int)] (by rfl) rfl rfl rfl (by simp only [List.map_toArray, List.map_cons, List.map_nil]; rfl) ?_
          with_reducible refine (HF.out _ (i : Int) (j : Int) ?sa ?sb ?sc ?sd ?se).mono ?_
          case sa => exact below_drew HB.out
          case sb => exact Int.natCast_nonneg _
          case sc => exact hlt2
          case sd => exact Int.natCast_nonneg _
          case se => exact hlt
          rintro e w3 ⟨rfl, hb3⟩
          refine ⟨_, rfl, ?_⟩
          have HB3 := Aside0.mk (below_step (below_drew HB.out) hb3)
          have HR3 := Aside0.mk (Kd.R_below (Kd.R_drew HR.out) hb3)
          have HG3 := Aside0.mk (blk_below (blk_drew HG.out) hb3)
          have HG03 := Aside0.mk (blk_below (blk_drew HG0.out) hb3)
          clear hb3 HB HR HG HG0
          refine hK.out _ _ ((blk_cell HG3.out 2).trans rfl) (fun hHeld => ?_)
          clear hK K
          refine norm_ (a' := ?_) ?_ ?_
          rotate_left
          · show Act.put _ (some 26) _ = _
            simp only [Act.put, List.setIfInBounds_toArray, List.set_cons_zero, List.set_cons_succ, i64_w, i32_w]
            rfl
          refine one_ (i := 6) (N := some 27) #[true, true, true, true, true, true, true, false, false, false] rfl rfl (by kernel_rfl) (by decide) (fun K hK => ?_)
          refine value_ (w1 := ?_) (v := ?_) (by rfl) rfl ?_ ?_
          rotate_left 2
          · go_simp
            constructor
            · rfl
            · rfl
          refine hK.out _ _ ((blk_cell (blk_alloc HG3.out _) 2).trans rfl) (fun hHeld => ?_)
          clear hK K
          refine norm_ (a' := ?_) ?_ ?_
          rotate_left
          · show Act.put _ (some 27) _ = _
            simp only [Act.put, List.setIfInBounds_toArray, List.set_cons_zero, List.set_cons_succ, i64_w, i32_w]
            rfl
          refine one_ (i := 7) (N := some 28) #[true, true, true, true, true, true, true, true, false, false] rfl rfl (by kernel_rfl) (by decide) (fun K hK => ?_)
          refine Kd.R_append_step (Kd.int .i64) (w0 := w) w.heap.size (by rfl) _ _ 25 3 (.int .i64 0) 8 rfl huS info3 rfl (by decide) (by decide) v (gridL a0 f (j * a0.toNat + i)) (f i j) [.int .i64 (f i j)] (fun _ => True) (fun _ => False) rfl rfl rfl (fun _ h => h.elim) (fun _ _ => trivial) HR3.out HB3.out (below_size HB3.out) ?hl ?_
          case hl => rw [gridL_len]; exact drawn_room a0 a1 i j h2 h3 hlt hlt2
          intro v1 w4 HR4 HB4 hg4 hat4
          rw [← gridL_step a0 f i j hlt2] at HR4
          have HR4 := Aside0.mk HR4
          have HB4 := Aside0.mk HB4
          have HG4 := Aside0.mk (blk_grown HG3.out hg4 (Kd.R_ne HR3.out HG3.out (by decide)))
          have HG04 := Aside0.mk (blk_grown HG03.out hg4 (Kd.R_ne HR3.out HG03.out (by decide)))
          clear hg4 hat4 HR3 HB3 HG3 HG03
          obtain ⟨A5, c5, e5⟩ := Kd.R_slice HR4.out
          subst e5
          have hcz := (blk_cell HG4.out 2).trans rfl
          have hfz := blk_frozen HG4.out 2
          refine hK.out _ _ ((blk_cell HG4.out 2).trans rfl) (fun hHeld => ?_)
          clear hK K
          refine norm_ (a' := ?_) ?_ ?_
          rotate_left
          · show Act.put _ (some 28) _ = _
            simp only [Act.put, List.setIfInBounds_toArray, List.set_cons_zero, List.set_cons_succ, i64_w, i32_w]
            rfl
          refine pure_ (i := 8) (N := some 29) (v := ?_) (a' := ?_) #[true, true, true, true, true, true, true, true, true, false] rfl rfl (by kernel_rfl) (fun _ _ _ h => h) (Or.inl ⟨by rfl, ?_⟩) ?_ ?_
          rotate_left
          · intro w'
            go_simp
            with_reducible rfl
          rotate_left
          · simp only [Act.put, List.setIfInBounds_toArray, List.set_cons_zero, List.set_cons_succ, i64_w, i32_w]
            rfl
          refine last_ (i := 9) (N := none) #[true, true, true, true, true, true, true, true, true, true] rfl rfl (by kernel_rfl) (by decide) (fun K hK => ?_)
          refine skip_ (w1 := ?_) (by rfl) rfl ?_ ?_
          rotate_left
          · go_simp
            rfl
          refine hK.out _ _ ?_
          clear hK K
          refine done_ (by kernel_rfl) ?_
          have HG5 := Aside0.mk (blk_put HG4.out 2 (.slice A5 (gridL a0 f (j * a0.toNat + (i + 1))).length c5) rfl)
          have HG05 := Aside0.mk (blk_far (p := ⟨w.heap.size + 1, 2, none⟩) HG04.out (by simp) (.slice A5 (gridL a0 f (j * a0.toNat + (i + 1))).length c5))
          have HR5 := Aside0.mk (Kd.R_set HR4.out HG4.out (by decide) 2 (.slice A5 (gridL a0 f (j * a0.toNat + (i + 1))).length c5))
          have HB5 := Aside0.mk (below_set (j := 2) (v := (.slice A5 (gridL a0 f (j * a0.toNat + (i + 1))).length c5)) HB4.out (Nat.le_succ w.heap.size))
          clear HG4 HG04 HR4 HB4 hcz hfz
          go_wp2
          go_roundw
          case rel => exact ⟨i + 1, _, by omega, by go_num, ⟨HG5.out, HG05.out, HR5.out, HB5.out⟩⟩
          case measure => simp [intOf]; omega
        · obtain rfl : (i : Int) = a0 := by omega
          go_wp2
          go_roundw
          case rel => exact ⟨j + 1, v, by omega, by go_num, by rw [show (j + 1) * (i : Int).toNat = j * (i : Int).toNat + i by rw [Nat.add_mul, Int.toNat_natCast]; omega]; exact HH⟩
          case measure => simp [intOf]; omega
    · obtain ⟨HG, HG0, HR, HB⟩ := HH.out
      clear HH
      have HG := Aside0.mk HG
      have HG0 := Aside0.mk HG0
      have HR := Aside0.mk HR
      have HB := Aside0.mk HB
      obtain ⟨A5, c5, e5⟩ := Kd.R_slice HR.out
      subst e5
      have hc0 : wr.cell? ⟨w.heap.size + 1, 0, none⟩ = some (.int .i64 a0) := (blk_cell HG.out 0).trans rfl
      have hc1 : wr.cell? ⟨w.heap.size + 1, 1, none⟩ = some (.int .i64 a1) := (blk_cell HG.out 1).trans rfl
      have hc2 : wr.cell? ⟨w.heap.size + 1, 2, none⟩ = some (.slice A5 (gridL a0 f (j * a0.toNat)).length c5) := (blk_cell HG.out 2).trans rfl
      have hz0 : wr.cell? ⟨w.heap.size, 0, none⟩ = some (.int .i64 0) := (blk_cell HG0.out 0).trans rfl
      have hz1 : wr.cell? ⟨w.heap.size, 1, none⟩ = some (.int .i64 0) := (blk_cell HG0.out 1).trans rfl
      have hz2 : wr.cell? ⟨w.heap.size, 2, none⟩ = some (.slice none 0 0) := (blk_cell HG0.out 2).trans rfl
      have hf0 := blk_frozen HG0.out 0
      have hf1 := blk_frozen HG0.out 1
      have hf2 := blk_frozen HG0.out 2
      have hj2 : (j : Int) = a1 := by omega
      have hjn : j = a1.toNat := by omega
      have HJ := Aside0.mk hjn
      clear hjn hj2
      go_wp2
      refine bodyPost_ret (results_cell_row rfl _ _ w.heap.size 27 #[.int .i64 a0, .int .i64 a1, .slice A5 (gridL a0 f (j * a0.toNat)).length c5] (0, 0) _ rfl (by refine blk_put (cs := #[.int .i64 a0, .int .i64 a1, .slice none 0 0]) ?_ 2 _ rfl; refine blk_put (cs := #[.int .i64 a0, .int .i64 0, .slice none 0 0]) ?_ 1 _ rfl; refine blk_put (cs := #[.int .i64 0, .int .i64 0, .slice none 0 0]) ?_ 0 _ rfl; exact HG0.out) huP rfl (by kernel_rfl)) rfl ?_
      refine ⟨_, rfl, ?_, below_set (below_set (below_set HB.out (Nat.le_refl _)) (Nat.le_refl _)) (Nat.le_refl _)⟩
      rw [← HJ.out]
      exact Kd.R_mono (Kd.R_far (p := ⟨w.heap.size, 2, none⟩) (Kd.R_far (p := ⟨w.heap.size, 1, none⟩) (Kd.R_far (p := ⟨w.heap.size, 0, none⟩) (Kd.R_types HR.out HG0.out (by decide)) (fun _ hk => hk.2) (.int .i64 a0)) (fun _ hk => hk.2) (.int .i64 a1)) (fun _ hk => hk.2) _) (fun _ hk => trivial)
set_option maxHeartbeats 8000000 in
set_option maxRecDepth 100000 in
theorem impl_drawn.clo (W : World) (x y : Int) : Calls Try.prog 56 #[.int .i64 x, .int .i64 y] W fun e w' => e = .returned (.int .i64 0) ∧ Below W.heap.size W w' := by
  go_enter Try.func56, Try.ntmps56
  go_wp2
  go_ret
  exact ⟨rfl, Below.refl _ _⟩
/-- with the function that tells 0 everywhere -/
def impl_drawn.f (a0 a1 : Int) (a2 : Nat) : Option (Int × Int × List Int) := if 0 ≤ a0 ∧ 0 ≤ a1 ∧ a0 ≤ 256 ∧ a1 ≤ 256 ∧ a2 = 56 then some (a0, a1, gridL a0 (fun _ _ => 0) (a1.toNat * a0.toNat)) else none
set_option maxHeartbeats 8000000 in
set_option maxRecDepth 100000 in
theorem impl_drawn.calls (a0 a1 : Int) (a2 : Nat) (r1 : Int) (r2 : Int) (r3 : List Int) (w : World) (h : impl_drawn.f a0 a1 a2 = some (r1, r2, r3)) :
  Calls Try.prog 44 #[.int .i64 a0, .int .i64 a1, .func (.func a2) #[] #[]] w fun e w' => ∃ v2_ : Value, e = .returned (.agg #[.int .i64 r1, .int .i64 r2, v2_]) ∧ Kd.R (Kd.int .i64) 3 w' w.heap.size (fun _ => True) v2_ r3 ∧ Below w.heap.size w w' := by
 unfold impl_drawn.f at h
 by_cases hb : 0 ≤ a0 ∧ 0 ≤ a1 ∧ a0 ≤ 256 ∧ a1 ≤ 256 ∧ a2 = 56
 ·rw [if_pos hb] at h
  simp only [Option.some.injEq, Prod.mk.injEq] at h
  obtain ⟨rfl, rfl, rfl⟩ := h
  obtain ⟨h0, h1, h2, h3, rfl⟩ := hb
  refine drawn_calls a0 a1 56 #[] (fun _ _ => 0) w h0 h1 h2 h3 (fun args W => enters_ Try.func56 (by kernel_rfl) rfl args W) ?_
  intro W x y _ _ _ _ _
  exact impl_drawn.clo W x y
 rw [if_neg hb] at h
 exact absurd h (by simp)


end Go.Proofs.Ytndnklicfibkeaa.P
