-- Written by tools/seatprint.py (over the kit's print, changed in memory). Not trusted: Lean checks it.
import Derived.Test.YtndnklicfibkeaaP0
import Derived.Test.YtndnklicfibkeaaFlawsat
import Derived.Test.YtndnklicfibkeaaFimplRowDots
namespace Go.Proofs.Ytndnklicfibkeaa.P
open Go.RowKit Go.Proofs.YtndnklicfibkeaaW.PrintWords Go.Proofs.YtndnklicfibkeaaW.PrintLast Go.Proofs.YtndnklicfibkeaaW.PrintMore
attribute [local go_sem] max2_int min2_int max_two min_two max_three min_three max_four min_four   -- for this text's walks alone
set_option linter.unusedVariables false
set_option linter.unusedSimpArgs false

/-! ### laws_FnRow: function 4 -/
mutual
def laws_FnRow.l0 : Nat → List Int → List Int → Int → Option (Bool)
  | 0, _, _, _ => none
  | k + 1, x0, x3, x4 => (laws_at.f x0 0).bind fun t391 => (if x4 < (wrap64 (1 + (Int.tmod t391 40))) then ((laws_at.f x0 (wrap64 (x4 + 1))).bind fun t392 => (if x3.length < 17592186044416 then (laws_FnRow.l0 k x0 (x3 ++ [t392]) (wrap64 (x4 + 1))) else (none))) else ((impl_RowDots.f k x3).bind fun t396 => (if (t396.length : Int) = (x3.length : Int) then (laws_FnRow.l1 k t396 0 x3 (x3.length : Int) 0) else (some false))))
def laws_FnRow.l1 : Nat → List Int → Int → List Int → Int → Int → Option (Bool)
  | 0, _, _, _, _, _ => none
  | k + 1, x5, x6, x35, x36, x37 => if x37 < x36 then (if 0 ≤ x37 then (if x37 < (x35.length : Int) then (if x37 < (x5.length : Int) then (if (mx (wrap64 ((wrap64 (x6 + (rd x35 x37))) - (wrap64 (255 * (rd x5 x37))))) (wrap64 (-(wrap64 ((wrap64 (x6 + (rd x35 x37))) - (wrap64 (255 * (rd x5 x37)))))))) > 128 then (some false) else (laws_FnRow.l1 k x5 (wrap64 ((wrap64 (x6 + (rd x35 x37))) - (wrap64 (255 * (rd x5 x37))))) x35 x36 (wrap64 (x37 + 1)))) else (none)) else (none)) else (none)) else (some true)
end
def laws_FnRow.f (k : Nat) (l0 : List Int) : Option (Bool) := if (l0.length : Int) > 1048576 then (some true) else (laws_FnRow.l0 k l0 (([] : List Int)) 0)
theorem laws_FnRow.mono_l : ∀ k, (∀ y0 y1 y2, LeO (laws_FnRow.l0 k y0 y1 y2) (laws_FnRow.l0 (k + 1) y0 y1 y2)) ∧ (∀ y0 y1 y2 y3 y4, LeO (laws_FnRow.l1 k y0 y1 y2 y3 y4) (laws_FnRow.l1 (k + 1) y0 y1 y2 y3 y4))
  | 0 => ⟨fun _ _ _ r h => by simp [laws_FnRow.l0] at h, fun _ _ _ _ _ r h => by simp [laws_FnRow.l1] at h⟩
  | k + 1 => by
    obtain ⟨ih0, ih1⟩ := laws_FnRow.mono_l k
    refine ⟨?_, ?_⟩
    · intro y0 y1 y2
      unfold laws_FnRow.l0
      repeat' first
      | (with_reducible exact ih0 _ _ _)
      | (with_reducible exact ih1 _ _ _ _ _)
      | (with_reducible exact impl_RowDots.mono _ _)
      | (with_reducible exact LeO.refl _)
      | (with_reducible exact LeO.none _)
      | (with_reducible refine LeO.ite ?_ ?_)
      | (with_reducible refine LeO.bind ?_ (fun _ => ?_))
      | exact ih0 _ _ _
      | exact ih1 _ _ _ _ _
      | exact impl_RowDots.mono _ _
      | exact LeO.none _
      | refine LeO.ite ?_ ?_
      | refine LeO.bind ?_ (fun _ => ?_)
    · intro y0 y1 y2 y3 y4
      unfold laws_FnRow.l1
      repeat' first
      | (with_reducible exact ih0 _ _ _)
      | (with_reducible exact ih1 _ _ _ _ _)
      | (with_reducible exact impl_RowDots.mono _ _)
      | (with_reducible exact LeO.refl _)
      | (with_reducible exact LeO.none _)
      | (with_reducible refine LeO.ite ?_ ?_)
      | (with_reducible refine LeO.bind ?_ (fun _ => ?_))
      | exact ih0 _ _ _
      | exact ih1 _ _ _ _ _
      | exact impl_RowDots.mono _ _
      | exact LeO.none _
      | refine LeO.ite ?_ ?_
      | refine LeO.bind ?_ (fun _ => ?_)
theorem laws_FnRow.mono : ∀ a0 k, LeO (laws_FnRow.f k a0) (laws_FnRow.f (k + 1) a0) := by
  intro a0 k
  obtain ⟨ih0, ih1⟩ := laws_FnRow.mono_l k
  unfold laws_FnRow.f
  repeat' first
      | (with_reducible exact ih0 _ _ _)
      | (with_reducible exact ih1 _ _ _ _ _)
      | (with_reducible exact impl_RowDots.mono _ _)
      | (with_reducible exact LeO.refl _)
      | (with_reducible exact LeO.none _)
      | (with_reducible refine LeO.ite ?_ ?_)
      | (with_reducible refine LeO.bind ?_ (fun _ => ?_))
      | exact ih0 _ _ _
      | exact ih1 _ _ _ _ _
      | exact impl_RowDots.mono _ _
      | exact LeO.none _
      | refine LeO.ite ?_ ?_
      | refine LeO.bind ?_ (fun _ => ?_)
set_option maxHeartbeats 8000000 in
set_option maxRecDepth 100000 in
theorem laws_FnRow.calls (k : Nat) (A0 : Option Addr) (c0 : Nat) (l0 : List Int) (r : Bool) (w : World) (hr0 : Kd.C (Kd.int .u8) w A0 l0.length l0) (hc0 : l0.length ≤ c0) (hT : Aside0 (r = true)) (h : laws_FnRow.f k l0 = some r) :
  Calls Try.prog 4 #[.slice A0 l0.length c0] w fun e w' => e = .returned (.bool r) ∧ Below w.heap.size w w' := by
 have HR0 := Aside0.mk hr0
 have HC0 := Aside0.mk hc0
 clear hr0 hc0
 have HB := Aside0.mk (Below.refl w.heap.size w)
 have H : (if (l0.length : Int) > 1048576 then (some true) else (laws_FnRow.l0 k l0 (([] : List Int)) 0)) = some r := h
 clear h
 by_cases c2 : (l0.length : Int) > 1048576
 ·rw [if_pos c2] at H
  have c2b0 : decide (1048576 < (l0.length : Int)) = true := decide_eq_true c2
  have c2b1 : decide (1048576 < l0.length) = true := decide_eq_true (by omega)
  clear c2
  obtain rfl := Option.some.inj H
  go_enter Try.func4, Try.ntmps4
  go_wp2
  go_ret
  exact ⟨by first | rfl | (simp [errW_none, errW_some] <;> rfl) | (simp [*, errW_none, errW_some] <;> rfl), by repeat (first | (with_reducible first | exact HB.out | apply below_alloc | apply pw_below_drewN | apply below_drew1) | exact HB.out)⟩
 rw [if_neg c2] at H
 have c2b0 : decide (1048576 < (l0.length : Int)) = false := decide_eq_false c2
 have c2b1 : decide (1048576 < l0.length) = false := decide_eq_false (by omega)
 clear c2
 obtain ⟨y388, hy388⟩ : ∃ y_ : List Int, y_ = (([] : List Int)) := ⟨_, rfl⟩
 replace H : (laws_FnRow.l0 k l0 y388 0) = some r := by first | (rw [hy388]; with_reducible exact H) | (have H2_ := (Option.bind_some _ _).symm.trans H; rw [hy388]; with_reducible exact H2_) | (have H2_ := (Option.bind_some _ _).symm.trans H; with_reducible exact H2_) | with_reducible exact H | (rw [hy388]; exact H) | exact H
 have Ny388 := Aside0.mk hy388
 clear hy388
 have H' := Aside0.mk H
 clear H
 go_enter Try.func4, Try.ntmps4
 go_wp2_with (first | ((with_reducible refine gate_dst (N := 12) rfl ?_); refine Kd.R_lit (Kd.int .i64) _ 3 ?hg (N := 12) ?hd (xs := ([] : List Int)) (inner := []) (ok := fun _ => True) (okp := fun _ => True) ?hr ?hp (fun _ hk => hk) trivial (Below.refl _ _) (Nat.le_refl _) (by simp) ?_; (case hd => rfl); (case hg => rfl); (case hr => first | (go_simp; done) | (go_simp; rfl)); (case hp => exact (Reps.none _ _)); intro v389 w3 ho4 hb hg_ hnew_; clear hg_ hnew_; (first | rw [← Ny388.out] at ho4 | (simp only [Int.reduceToNat] at ho4; rw [← Ny388.out] at ho4)); have n0_ := Aside0.mk (Kd.R_lower ho4 (below_size (sW_ HB.out))); have n1_ := Aside0.mk (below_step (sW_ HB.out) hb); clear HB; have HO390 := n0_; have HB := n1_; clear n0_ n1_; clear hb ho4))
 go_loopg [3, 4] k (fun kq v3 v4 w' => ∃ (x3_1 : List Int) (x4_1 : Int), v4 = .int .i64 x4_1 ∧ Aside0 (laws_FnRow.l0 kq l0 x3_1 x4_1 = some r) ∧ Aside0 (kq ≤ k) ∧ Aside0 (Kd.R (Kd.int .i64) 3 w' w.heap.size (fun _ => True) v3 x3_1) ∧ Aside0 (Below w.heap.size w w'))
 case atStart => exact ⟨(y388), (0), (by first | rfl | (simp; done) | (simp [*]; done)), H', ⟨Nat.le_refl _⟩, ⟨by (with_reducible repeat (first | apply Kd.R_alloc | apply Kd.R_drewN | apply Kd.R_drew)); exact HO390.out⟩, ⟨by repeat (first | (with_reducible first | exact HB.out | apply below_alloc | apply pw_below_drewN | apply below_drew1) | exact HB.out)⟩⟩
 case round =>
  clear H'
  try clear c2
  try clear c2b0
  try clear c2b1
  try clear p2
  try clear c4
  obtain ⟨x3_1, x4_1, rfl, HA, HK1, HO_3, HB⟩ := hrel
  cases gk with
  | zero => exact absurd HA.out (by simp [laws_FnRow.l0])
  | succ k1 =>
   have H := HA.out; clear HA
   simp only [laws_FnRow.l0] at H
   replace H := Option.bind_eq_some_iff.mp H
   obtain ⟨t391, A50, H⟩ := H
   replace H : (if x4_1 < (wrap64 (1 + (Int.tmod t391 40))) then ((laws_at.f l0 (wrap64 (x4_1 + 1))).bind fun t392 => (if x3_1.length < 17592186044416 then (laws_FnRow.l0 k1 l0 (x3_1 ++ [t392]) (wrap64 (x4_1 + 1))) else (none))) else ((impl_RowDots.f k1 x3_1).bind fun t396 => (if (t396.length : Int) = (x3_1.length : Int) then (laws_FnRow.l1 k1 t396 0 x3_1 (x3_1.length : Int) 0) else (some false)))) = some r := H
   have A5 := Aside0.mk A50
   clear A50
   by_cases c6 : x4_1 < (wrap64 (1 + (Int.tmod t391 40)))
   ·rw [if_pos c6] at H
    have c6b0 : decide (x4_1 < (wrap64 (1 + (Int.tmod t391 40)))) = true := decide_eq_true c6
    clear c6
    replace H := Option.bind_eq_some_iff.mp H
    obtain ⟨t392, A70, H⟩ := H
    replace H : (if x3_1.length < 17592186044416 then (laws_FnRow.l0 k1 l0 (x3_1 ++ [t392]) (wrap64 (x4_1 + 1))) else (none)) = some r := H
    have A7 := Aside0.mk A70
    clear A70
    by_cases c8 : x3_1.length < 17592186044416
    ·rw [if_pos c8] at H
     have LMc8 := Aside0.mk c8
     clear c8
     obtain ⟨y393, hy393⟩ : ∃ y_ : List Int, y_ = (x3_1 ++ [t392]) := ⟨_, rfl⟩
     replace H : (laws_FnRow.l0 k1 l0 y393 (wrap64 (x4_1 + 1))) = some r := by first | (rw [hy393]; with_reducible exact H) | (have H2_ := (Option.bind_some _ _).symm.trans H; rw [hy393]; with_reducible exact H2_) | (have H2_ := (Option.bind_some _ _).symm.trans H; with_reducible exact H2_) | with_reducible exact H | (rw [hy393]; exact H) | exact H
     have Ny393 := Aside0.mk hy393
     clear hy393
     have H' := Aside0.mk H
     clear H
     go_wp2_with (first | ((with_reducible refine gate_callee (f := 11) rfl ?_); refine goesL_ (some 15) rfl rfl Try.func11 (by kernel_rfl) rfl #[.slice A0 l0.length c0, .int .i64 0] rfl sL_ ?_; (with_reducible refine (laws_at.calls _ _ l0 0 t391 _ ?side1 ?side2 A5.out).mono ?_); (case side1 => repeat (first | exact (Kd.C_below HR0.out HB.out) | (with_reducible refine Kd.C_alloc ?_ _) | (with_reducible refine Kd.C_drewN ?_ _) | (with_reducible refine Kd.C_drew ?_))); (case side2 => exact HC0.out); rintro e w' ⟨rfl, ⟨nd, rfl⟩⟩; refine ⟨_, rfl, ?_⟩) | ((with_reducible refine gate_callee (f := 11) rfl ?_); refine goesL_ (some 25) rfl rfl Try.func11 (by kernel_rfl) rfl #[.slice A0 l0.length c0, .int .i64 (wrap64 (x4_1 + 1))] rfl sL_ ?_; (with_reducible refine (laws_at.calls _ _ l0 (wrap64 (x4_1 + 1)) t392 _ ?side1 ?side2 A7.out).mono ?_); (case side1 => repeat (first | exact (Kd.C_below HR0.out (sW_ HB.out)) | (with_reducible refine Kd.C_alloc ?_ _) | (with_reducible refine Kd.C_drewN ?_ _) | (with_reducible refine Kd.C_drew ?_))); (case side2 => exact HC0.out); rintro e w' ⟨rfl, ⟨nd, rfl⟩⟩; refine ⟨_, rfl, ?_⟩) | ((with_reducible refine gate_builtin (b := .append) (xs := #[.tmp 21, .tmp 26]) rfl ?_); at_builtin; refine Kd.R_append (Kd.int .i64) (w0 := w) w.heap.size rfl (.tmp 21) (.tmp 26) 25 3 (.int .i64 0) 8 rfl Try.underlying25 info3 rfl (by decide) (by omega) u3 x3_1 t392 [.int .i64 t392] (fun _ => True) (fun _ => False) rfl rfl ?aP (fun _ hk => hk.elim) ?aF ?aO ?aB ?aS ?aL ?_; (case aP => exact rfl); (case aB => exact (sW_ HB.out)); (case aF => exact (fun _ _ => trivial)); (case aO => exact (sR_ HO_3.out)); (case aS => exact (below_size (sW_ HB.out))); (case aL => have := LMc8.out; omega); intro v394 w9 ho hb hg hat; rw [← Ny393.out] at ho; have n0_ := Aside0.mk (hb); have n1_ := Aside0.mk (ho); clear HB HO_3; have HB := n0_; have HO395 := n1_; clear n0_ n1_; clear ho hb hg hat))
     go_roundg k1
     case measure => have := HK1.out; omega
     case rel => exact ⟨(y393), (wrap64 (x4_1 + 1)), (by first | rfl | (simp; done) | (simp [*]; done)), H', ⟨by have := HK1.out; omega⟩, ⟨by (with_reducible repeat (first | apply Kd.R_alloc | apply Kd.R_drewN | apply Kd.R_drew)); exact HO395.out⟩, ⟨by repeat (first | (with_reducible first | exact HB.out | apply below_alloc | apply pw_below_drewN | apply below_drew1) | exact HB.out)⟩⟩
    rw [if_neg c8] at H
    exact absurd H (by simp)
   rw [if_neg c6] at H
   have c6b0 : decide (x4_1 < (wrap64 (1 + (Int.tmod t391 40)))) = false := decide_eq_false c6
   clear c6
   replace H := Option.bind_eq_some_iff.mp H
   obtain ⟨t396, A100, H⟩ := H
   replace H : (if (t396.length : Int) = (x3_1.length : Int) then (laws_FnRow.l1 k1 t396 0 x3_1 (x3_1.length : Int) 0) else (some false)) = some r := H
   have A10 := Aside0.mk A100
   clear A100
   by_cases c11 : (t396.length : Int) = (x3_1.length : Int)
   ·rw [if_pos c11] at H
    have c11b0 : ((t396.length : Int) == (x3_1.length : Int)) = true := beq_iff_eq.mpr c11
    have c11b1 : ((t396.length : Int) != (x3_1.length : Int)) = false := bne_eq_false_iff_eq.mpr c11
    have c11b2 : (t396.length == x3_1.length) = true := by first | simpa using c11 | (simp at c11 ⊢; omega)
    clear c11
    have H' := Aside0.mk H
    clear H
    go_wp2_with (first | ((with_reducible refine gate_callee (f := 11) rfl ?_); refine goesL_ (some 15) rfl rfl Try.func11 (by kernel_rfl) rfl #[.slice A0 l0.length c0, .int .i64 0] rfl sL_ ?_; (with_reducible refine (laws_at.calls _ _ l0 0 t391 _ ?side1 ?side2 A5.out).mono ?_); (case side1 => repeat (first | exact (Kd.C_below HR0.out HB.out) | (with_reducible refine Kd.C_alloc ?_ _) | (with_reducible refine Kd.C_drewN ?_ _) | (with_reducible refine Kd.C_drew ?_))); (case side2 => exact HC0.out); rintro e w' ⟨rfl, ⟨nd, rfl⟩⟩; refine ⟨_, rfl, ?_⟩; obtain ⟨Ao12, co12, eo12⟩ := Kd.R_slice HO_3.out; subst eo12) | ((with_reducible refine gate_callee (f := 17) rfl ?_); refine goesL_ (some 29) rfl rfl Try.func17 (by kernel_rfl) rfl #[.slice Ao12 x3_1.length co12] rfl sL_ ?_; (with_reducible refine (impl_RowDots.calls k1 _ _ x3_1 t396 _ ?side1 ?side2 A10.out).mono ?_); (case side1 => repeat (first | exact (Kd.R_reads' HO_3.out).2.2 | (with_reducible refine Kd.C_alloc ?_ _) | (with_reducible refine Kd.C_drewN ?_ _) | (with_reducible refine Kd.C_drew ?_))); (case side2 => exact (Kd.R_reads' HO_3.out).2.1); rintro e w13 ⟨v397, rfl, ho0, hb⟩; refine ⟨_, rfl, ?_⟩; have n0_ := Aside0.mk (Kd.R_elder' (sR_ HO_3.out) (Kd.R_base ho0) hb); have n1_ := Aside0.mk (Kd.R_lower (Kd.R_new' ho0 (Kd.R_lt (sR_ HO_3.out))) (below_size (sW_ HB.out))); have n2_ := Aside0.mk (below_step (sW_ HB.out) hb); clear HO_3 HB; have HO_3 := n0_; have HO398 := n1_; have HB := n2_; clear n0_ n1_ n2_; (try clear hb); (try clear hb2); (try clear hk); (try clear hi); (try clear ho0); obtain ⟨Ao14, co14, eo14⟩ := Kd.R_slice HO398.out; subst eo14))
    go_loopg [6, 37] k1 (fun kq v6 v37 w' => ∃ (x6_2 : Int) (x37_2 : Int), v6 = .int .i64 x6_2 ∧ v37 = .int .i64 x37_2 ∧ Aside0 (laws_FnRow.l1 kq t396 x6_2 x3_1 (x3_1.length : Int) x37_2 = some r) ∧ Aside0 (kq ≤ k1) ∧ Aside0 (Kd.R (Kd.int .i64) 3 w' w.heap.size (fun k_ => some k_ ≠ ((.slice Ao12 x3_1.length co12) : Value).ownBlock) (.slice Ao14 t396.length co14) t396) ∧ Aside0 (Kd.R (Kd.int .i64) 3 w' w.heap.size (fun k_ => some k_ ≠ ((.slice Ao14 t396.length co14) : Value).ownBlock) (.slice Ao12 x3_1.length co12) x3_1) ∧ Aside0 (Below w.heap.size w w'))
    case atStart => exact ⟨(0), (0), (by first | rfl | (simp; done) | (simp [*]; done)), (by first | rfl | (simp; done) | (simp [*]; done)), H', ⟨Nat.le_refl _⟩, ⟨by (with_reducible repeat (first | apply Kd.R_alloc | apply Kd.R_drewN | apply Kd.R_drew)); exact Kd.R_mono HO398.out (fun _ hk => hk.2)⟩, ⟨by (with_reducible repeat (first | apply Kd.R_alloc | apply Kd.R_drewN | apply Kd.R_drew)); exact Kd.R_mono HO_3.out (fun _ hk => hk.2)⟩, ⟨by repeat (first | (with_reducible first | exact HB.out | apply below_alloc | apply pw_below_drewN | apply below_drew1) | exact HB.out)⟩⟩
    case round =>
     clear H'
     try clear c1
     try clear c2
     try clear c2b0
     try clear c2b1
     try clear p2
     try clear c4
     try clear c6
     try clear c6b0
     try clear p6
     try clear c8
     try clear c11
     try clear c11b0
     try clear c11b1
     try clear c11b2
     try clear p2
     obtain ⟨x6_2, x37_2, rfl, rfl, HA, HK2, HO_5, HO_35, HB⟩ := hrel
     cases gk with
     | zero => exact absurd HA.out (by simp [laws_FnRow.l1])
     | succ k2 =>
      have H := HA.out; clear HA
      simp only [laws_FnRow.l1] at H
      by_cases c15 : x37_2 < (x3_1.length : Int)
      ·rw [if_pos c15] at H
       have c15b0 : decide (x37_2 < (x3_1.length : Int)) = true := decide_eq_true c15
       clear c15
       by_cases c16 : 0 ≤ x37_2
       ·rw [if_pos c16] at H
        have c16b0 : decide (0 ≤ x37_2) = true := decide_eq_true c16
        clear c16
        by_cases c17 : x37_2 < (x3_1.length : Int)
        ·rw [if_pos c17] at H
         have c17b0 : decide (x37_2 < (x3_1.length : Int)) = true := decide_eq_true c17
         clear c17
         by_cases c18 : x37_2 < (t396.length : Int)
         ·rw [if_pos c18] at H
          have c18b0 : decide (x37_2 < (t396.length : Int)) = true := decide_eq_true c18
          clear c18
          obtain ⟨ji19, hji19⟩ : ∃ j_ : Int, (mx (wrap64 ((wrap64 (x6_2 + (rd x3_1 x37_2))) - (wrap64 (255 * (rd t396 x37_2))))) (wrap64 (-(wrap64 ((wrap64 (x6_2 + (rd x3_1 x37_2))) - (wrap64 (255 * (rd t396 x37_2)))))))) = j_ := ⟨_, rfl⟩
          replace H : (if (ji19) > 128 then (some false) else (laws_FnRow.l1 k2 t396 (wrap64 ((wrap64 (x6_2 + (rd x3_1 x37_2))) - (wrap64 (255 * (rd t396 x37_2))))) x3_1 (x3_1.length : Int) (wrap64 (x37_2 + 1)))) = some r := by first | (rw [hji19] at H; exact H) | (simp only [hji19] at H ⊢; exact H)
          have hji19_ : (if (wrap64 ((wrap64 (x6_2 + (rd x3_1 x37_2))) - (wrap64 (255 * (rd t396 x37_2))))) < (wrap64 (-(wrap64 ((wrap64 (x6_2 + (rd x3_1 x37_2))) - (wrap64 (255 * (rd t396 x37_2))))))) then (wrap64 (-(wrap64 ((wrap64 (x6_2 + (rd x3_1 x37_2))) - (wrap64 (255 * (rd t396 x37_2))))))) else (wrap64 ((wrap64 (x6_2 + (rd x3_1 x37_2))) - (wrap64 (255 * (rd t396 x37_2)))))) = ji19 := hji19
          by_cases c20 : (ji19) > 128
          ·rw [if_pos c20] at H
           have c20b0 : decide (128 < (ji19)) = true := decide_eq_true c20
           clear c20
           exact absurd ((Option.some.inj H).trans hT.out) (by decide)
          rw [if_neg c20] at H
          have c20b0 : decide (128 < (ji19)) = false := decide_eq_false c20
          clear c20
          have H' := Aside0.mk H
          clear H
          have p399 : 0 ≤ (x37_2 : Int) := of_decide_eq_true (by first | (with_reducible assumption) | assumption)
          have q399 : x37_2 < (x3_1.length : Int) := of_decide_eq_true (by first | (with_reducible assumption) | assumption)
          obtain ⟨ad399, e399, hx399_0⟩ := Kd.at_int (Kd.R_reads' HO_35.out).2.2 x37_2 p399 q399
          cases e399
          replace p399 := eq_true p399
          replace q399 := eq_true q399
          have p400 : 0 ≤ (x37_2 : Int) := of_decide_eq_true (by first | (with_reducible assumption) | assumption)
          have q400 : x37_2 < (t396.length : Int) := of_decide_eq_true (by first | (with_reducible assumption) | assumption)
          obtain ⟨ad400, e400, hx400_0⟩ := Kd.at_int (Kd.R_reads' HO_5.out).2.2 x37_2 p400 q400
          cases e400
          replace p400 := eq_true p400
          replace q400 := eq_true q400
          go_wp2
          go_roundg k2
          case measure => have := HK1.out; have := HK2.out; omega
          case rel => exact ⟨(wrap64 ((wrap64 (x6_2 + (rd x3_1 x37_2))) - (wrap64 (255 * (rd t396 x37_2))))), (wrap64 (x37_2 + 1)), (by first | rfl | (simp; done) | (simp [*]; done)), (by first | rfl | (simp; done) | (simp [*]; done)), H', ⟨by have := HK1.out; have := HK2.out; omega⟩, ⟨by (with_reducible repeat (first | apply Kd.R_alloc | apply Kd.R_drewN | apply Kd.R_drew)); exact HO_5.out⟩, ⟨by (with_reducible repeat (first | apply Kd.R_alloc | apply Kd.R_drewN | apply Kd.R_drew)); exact HO_35.out⟩, ⟨by repeat (first | (with_reducible first | exact HB.out | apply below_alloc | apply pw_below_drewN | apply below_drew1) | exact HB.out)⟩⟩
         rw [if_neg c18] at H
         exact absurd H (by simp)
        rw [if_neg c17] at H
        exact absurd H (by simp)
       rw [if_neg c16] at H
       exact absurd H (by simp)
      rw [if_neg c15] at H
      have c15b0 : decide (x37_2 < (x3_1.length : Int)) = false := decide_eq_false c15
      clear c15
      obtain rfl := Option.some.inj H
      go_wp2
      go_ret
      exact ⟨by first | rfl | (simp [errW_none, errW_some] <;> rfl) | (simp [*, errW_none, errW_some] <;> rfl), by repeat (first | (with_reducible first | exact HB.out | apply below_alloc | apply pw_below_drewN | apply below_drew1) | exact HB.out)⟩
   rw [if_neg c11] at H
   have c11b0 : ((t396.length : Int) == (x3_1.length : Int)) = false := beq_eq_false_iff_ne.mpr c11
   have c11b1 : ((t396.length : Int) != (x3_1.length : Int)) = true := bne_iff_ne.mpr c11
   have c11b2 : (t396.length == x3_1.length) = false := by first | simpa using c11 | (simp at c11 ⊢; omega)
   exact absurd ((Option.some.inj H).trans hT.out) (by decide)

end Go.Proofs.Ytndnklicfibkeaa.P
