-- Written by tools/seatprint.py (over the kit's print, changed in memory). Not trusted: Lean checks it.
import Derived.Test.YtndnklicfibkeaaP0
namespace Go.Proofs.Ytndnklicfibkeaa.P
open Go.RowKit Go.Proofs.YtndnklicfibkeaaW.PrintWords Go.Proofs.YtndnklicfibkeaaW.PrintLast Go.Proofs.YtndnklicfibkeaaW.PrintMore
attribute [local go_sem] max2_int min2_int max_two min_two max_three min_three max_four min_four   -- for this text's walks alone
set_option linter.unusedVariables false
set_option linter.unusedSimpArgs false

/-! ### impl_IsKernel: function 34 -/
mutual
def impl_IsKernel.j0 : Nat → List (S68) → Bool → Option (Bool)
  | 0, _, _ => none
  | k + 1, x0, x14 => if x14 = true then (some false) else (impl_IsKernel.l0 k x0 x0 (x0.length : Int) 0)
def impl_IsKernel.l0 : Nat → List (S68) → List (S68) → Int → Int → Option (Bool)
  | 0, _, _, _, _ => none
  | k + 1, x0, x15, x16, x17 => if x17 < x16 then (if 0 ≤ x17 then (if x17 < (x15.length : Int) then (if ((rd_T68 x15 x17).f0) < (-4) then (impl_IsKernel.j2 k x0 x17 x15 x16 x17 true ((rd_T68 x15 x17).f0) ((rd_T68 x15 x17).f1) ((rd_T68 x15 x17).f2)) else (if ((rd_T68 x15 x17).f0) > 4 then (impl_IsKernel.j2 k x0 x17 x15 x16 x17 true ((rd_T68 x15 x17).f0) ((rd_T68 x15 x17).f1) ((rd_T68 x15 x17).f2)) else (if ((rd_T68 x15 x17).f1) < 0 then (impl_IsKernel.j2 k x0 x17 x15 x16 x17 true ((rd_T68 x15 x17).f0) ((rd_T68 x15 x17).f1) ((rd_T68 x15 x17).f2)) else (if ((rd_T68 x15 x17).f1) > 4 then (impl_IsKernel.j2 k x0 x17 x15 x16 x17 true ((rd_T68 x15 x17).f0) ((rd_T68 x15 x17).f1) ((rd_T68 x15 x17).f2)) else (if ((rd_T68 x15 x17).f1) = 0 then (if ((rd_T68 x15 x17).f0) < 1 then (impl_IsKernel.j2 k x0 x17 x15 x16 x17 true ((rd_T68 x15 x17).f0) ((rd_T68 x15 x17).f1) ((rd_T68 x15 x17).f2)) else (if ((rd_T68 x15 x17).f2) < 1 then (impl_IsKernel.j2 k x0 x17 x15 x16 x17 true ((rd_T68 x15 x17).f0) ((rd_T68 x15 x17).f1) ((rd_T68 x15 x17).f2)) else (impl_IsKernel.j2 k x0 x17 x15 x16 x17 (decide (((rd_T68 x15 x17).f2) > 100)) ((rd_T68 x15 x17).f0) ((rd_T68 x15 x17).f1) ((rd_T68 x15 x17).f2)))) else (if ((rd_T68 x15 x17).f2) < 1 then (impl_IsKernel.j2 k x0 x17 x15 x16 x17 true ((rd_T68 x15 x17).f0) ((rd_T68 x15 x17).f1) ((rd_T68 x15 x17).f2)) else (impl_IsKernel.j2 k x0 x17 x15 x16 x17 (decide (((rd_T68 x15 x17).f2) > 100)) ((rd_T68 x15 x17).f0) ((rd_T68 x15 x17).f1) ((rd_T68 x15 x17).f2)))))))) else (none)) else (none)) else (some true)
def impl_IsKernel.j2 : Nat → List (S68) → Int → List (S68) → Int → Int → Bool → Int → Int → Int → Option (Bool)
  | 0, _, _, _, _, _, _, _, _, _ => none
  | k + 1, x0, x3, x15, x16, x17, x59, x254000, x254001, x254002 => if x59 = true then (some false) else (if 0 ≤ x3 then (if x3 ≤ (x0.length : Int) then ((some (x0.take (x3 : Int).toNat : List (S68))).bind fun y254 => (impl_IsKernel.l1 k x0 x15 x16 x17 y254 (y254.length : Int) 0 x254000 x254001 x254002)) else (none)) else (none))
def impl_IsKernel.l1 : Nat → List (S68) → List (S68) → Int → Int → List (S68) → Int → Int → Int → Int → Int → Option (Bool)
  | 0, _, _, _, _, _, _, _, _, _, _ => none
  | k + 1, x0, x15, x16, x17, x62, x63, x64, x254000, x254001, x254002 => if x64 < x63 then (if 0 ≤ x64 then (if x64 < (x62.length : Int) then (if x254000 = ((rd_T68 x62 x64).f0) then (if x254001 = ((rd_T68 x62 x64).f1) then (some false) else (impl_IsKernel.l1 k x0 x15 x16 x17 x62 x63 (wrap64 (x64 + 1)) x254000 x254001 x254002)) else (impl_IsKernel.l1 k x0 x15 x16 x17 x62 x63 (wrap64 (x64 + 1)) x254000 x254001 x254002)) else (none)) else (none)) else (impl_IsKernel.l0 k x0 x15 x16 (wrap64 (x17 + 1)))
end
def impl_IsKernel.f (k : Nat) (l0 : List (S68)) : Option (Bool) := if (l0.length : Int) < 1 then (impl_IsKernel.j0 k l0 true) else (impl_IsKernel.j0 k l0 (decide ((l0.length : Int) > 12)))
theorem impl_IsKernel.mono_l : ∀ k, (∀ y0 y1, LeO (impl_IsKernel.j0 k y0 y1) (impl_IsKernel.j0 (k + 1) y0 y1)) ∧ (∀ y0 y1 y2 y3, LeO (impl_IsKernel.l0 k y0 y1 y2 y3) (impl_IsKernel.l0 (k + 1) y0 y1 y2 y3)) ∧ (∀ y0 y1 y2 y3 y4 y5 y6 y7 y8, LeO (impl_IsKernel.j2 k y0 y1 y2 y3 y4 y5 y6 y7 y8) (impl_IsKernel.j2 (k + 1) y0 y1 y2 y3 y4 y5 y6 y7 y8)) ∧ (∀ y0 y1 y2 y3 y4 y5 y6 y7 y8 y9, LeO (impl_IsKernel.l1 k y0 y1 y2 y3 y4 y5 y6 y7 y8 y9) (impl_IsKernel.l1 (k + 1) y0 y1 y2 y3 y4 y5 y6 y7 y8 y9))
  | 0 => ⟨fun _ _ r h => by simp [impl_IsKernel.j0] at h, fun _ _ _ _ r h => by simp [impl_IsKernel.l0] at h, fun _ _ _ _ _ _ _ _ _ r h => by simp [impl_IsKernel.j2] at h, fun _ _ _ _ _ _ _ _ _ _ r h => by simp [impl_IsKernel.l1] at h⟩
  | k + 1 => by
    obtain ⟨ih0, ih1, ih2, ih3⟩ := impl_IsKernel.mono_l k
    refine ⟨?_, ?_, ?_, ?_⟩
    · intro y0 y1
      unfold impl_IsKernel.j0
      repeat' first
      | (with_reducible exact ih0 _ _)
      | (with_reducible exact ih1 _ _ _ _)
      | (with_reducible exact ih2 _ _ _ _ _ _ _ _ _)
      | (with_reducible exact ih3 _ _ _ _ _ _ _ _ _ _)
      | (with_reducible exact LeO.refl _)
      | (with_reducible exact LeO.none _)
      | (with_reducible refine LeO.ite ?_ ?_)
      | (with_reducible refine LeO.bind ?_ (fun _ => ?_))
      | exact ih0 _ _
      | exact ih1 _ _ _ _
      | exact ih2 _ _ _ _ _ _ _ _ _
      | exact ih3 _ _ _ _ _ _ _ _ _ _
      | exact LeO.none _
      | refine LeO.ite ?_ ?_
      | refine LeO.bind ?_ (fun _ => ?_)
    · intro y0 y1 y2 y3
      unfold impl_IsKernel.l0
      repeat' first
      | (with_reducible exact ih0 _ _)
      | (with_reducible exact ih1 _ _ _ _)
      | (with_reducible exact ih2 _ _ _ _ _ _ _ _ _)
      | (with_reducible exact ih3 _ _ _ _ _ _ _ _ _ _)
      | (with_reducible exact LeO.refl _)
      | (with_reducible exact LeO.none _)
      | (with_reducible refine LeO.ite ?_ ?_)
      | (with_reducible refine LeO.bind ?_ (fun _ => ?_))
      | exact ih0 _ _
      | exact ih1 _ _ _ _
      | exact ih2 _ _ _ _ _ _ _ _ _
      | exact ih3 _ _ _ _ _ _ _ _ _ _
      | exact LeO.none _
      | refine LeO.ite ?_ ?_
      | refine LeO.bind ?_ (fun _ => ?_)
    · intro y0 y1 y2 y3 y4 y5 y6 y7 y8
      unfold impl_IsKernel.j2
      repeat' first
      | (with_reducible exact ih0 _ _)
      | (with_reducible exact ih1 _ _ _ _)
      | (with_reducible exact ih2 _ _ _ _ _ _ _ _ _)
      | (with_reducible exact ih3 _ _ _ _ _ _ _ _ _ _)
      | (with_reducible exact LeO.refl _)
      | (with_reducible exact LeO.none _)
      | (with_reducible refine LeO.ite ?_ ?_)
      | (with_reducible refine LeO.bind ?_ (fun _ => ?_))
      | exact ih0 _ _
      | exact ih1 _ _ _ _
      | exact ih2 _ _ _ _ _ _ _ _ _
      | exact ih3 _ _ _ _ _ _ _ _ _ _
      | exact LeO.none _
      | refine LeO.ite ?_ ?_
      | refine LeO.bind ?_ (fun _ => ?_)
    · intro y0 y1 y2 y3 y4 y5 y6 y7 y8 y9
      unfold impl_IsKernel.l1
      repeat' first
      | (with_reducible exact ih0 _ _)
      | (with_reducible exact ih1 _ _ _ _)
      | (with_reducible exact ih2 _ _ _ _ _ _ _ _ _)
      | (with_reducible exact ih3 _ _ _ _ _ _ _ _ _ _)
      | (with_reducible exact LeO.refl _)
      | (with_reducible exact LeO.none _)
      | (with_reducible refine LeO.ite ?_ ?_)
      | (with_reducible refine LeO.bind ?_ (fun _ => ?_))
      | exact ih0 _ _
      | exact ih1 _ _ _ _
      | exact ih2 _ _ _ _ _ _ _ _ _
      | exact ih3 _ _ _ _ _ _ _ _ _ _
      | exact LeO.none _
      | refine LeO.ite ?_ ?_
      | refine LeO.bind ?_ (fun _ => ?_)
theorem impl_IsKernel.mono : ∀ a0 k, LeO (impl_IsKernel.f k a0) (impl_IsKernel.f (k + 1) a0) := by
  intro a0 k
  obtain ⟨ih0, ih1, ih2, ih3⟩ := impl_IsKernel.mono_l k
  unfold impl_IsKernel.f
  repeat' first
      | (with_reducible exact ih0 _ _)
      | (with_reducible exact ih1 _ _ _ _)
      | (with_reducible exact ih2 _ _ _ _ _ _ _ _ _)
      | (with_reducible exact ih3 _ _ _ _ _ _ _ _ _ _)
      | (with_reducible exact LeO.refl _)
      | (with_reducible exact LeO.none _)
      | (with_reducible refine LeO.ite ?_ ?_)
      | (with_reducible refine LeO.bind ?_ (fun _ => ?_))
      | exact ih0 _ _
      | exact ih1 _ _ _ _
      | exact ih2 _ _ _ _ _ _ _ _ _
      | exact ih3 _ _ _ _ _ _ _ _ _ _
      | exact LeO.none _
      | refine LeO.ite ?_ ?_
      | refine LeO.bind ?_ (fun _ => ?_)
set_option maxHeartbeats 8000000 in
set_option maxRecDepth 100000 in
theorem impl_IsKernel.calls (k : Nat) (A0 : Option Addr) (c0 : Nat) (l0 : List (S68)) (r : Bool) (w : World) (hr0 : Kd.C k68 w A0 l0.length l0) (hc0 : l0.length ≤ c0) (h : impl_IsKernel.f k l0 = some r) :
  Calls Try.prog 34 #[.slice A0 l0.length c0] w fun e w' => e = .returned (.bool r) ∧ Below w.heap.size w w' := by
 have hu68 := Try.underlying68
 have HR0 := Aside0.mk hr0
 have HC0 := Aside0.mk hc0
 clear hr0 hc0
 have HB := Aside0.mk (Below.refl w.heap.size w)
 have H : (if (l0.length : Int) < 1 then (impl_IsKernel.j0 k l0 true) else (impl_IsKernel.j0 k l0 (decide ((l0.length : Int) > 12)))) = some r := h
 clear h
 have HC2 := Aside0.mk H
 clear H
 go_enter Try.func34, Try.ntmps34
 go_upto_region 1 with (fail)
 go_cut [14] (fun v14 wc => ∃ (kq : Nat) (x14_1 : Bool), v14 = .bool x14_1 ∧ Aside0 (impl_IsKernel.j0 kq l0 x14_1 = some r) ∧ Aside0 (kq ≤ k) ∧ Aside0 (Below w.heap.size w wc))
 case first =>
  have H := HC2.out; clear HC2
  by_cases c3 : (l0.length : Int) < 1
  ·rw [if_pos c3] at H
   have c3b0 : decide ((l0.length : Int) < 1) = true := decide_eq_true c3
   have c3b1 : decide (l0.length < 1) = true := decide_eq_true (by omega)
   clear c3
   (first | rw [c3b0] | (simp only [i64_w, i32_w]; rw [c3b0]) | skip)
   have H' := Aside0.mk H
   clear H
   go_wp2
   go_meet
   case rel => exact ⟨_, (true), (by first | rfl | (simp; done) | (simp [*]; done)), H', ⟨by first | omega | exact Nat.le_refl _⟩, ⟨by repeat (first | (with_reducible first | exact HB.out | apply below_alloc | apply pw_below_drewN | apply below_drew1) | exact HB.out)⟩⟩
  rw [if_neg c3] at H
  have c3b0 : decide ((l0.length : Int) < 1) = false := decide_eq_false c3
  have c3b1 : decide (l0.length < 1) = false := decide_eq_false (by omega)
  clear c3
  (first | rw [c3b0] | (simp only [i64_w, i32_w]; rw [c3b0]) | skip)
  have H' := Aside0.mk H
  clear H
  go_wp2
  go_meet
  case rel => exact ⟨_, (decide ((l0.length : Int) > 12)), (by first | rfl | (simp; done) | (simp [*]; done)), H', ⟨by first | omega | exact Nat.le_refl _⟩, ⟨by repeat (first | (with_reducible first | exact HB.out | apply below_alloc | apply pw_below_drewN | apply below_drew1) | exact HB.out)⟩⟩
 case rest =>
  clear HC2
  try clear p2
  try clear c3
  try clear c3b0
  try clear c3b1
  obtain ⟨kq, x14_1, rfl, HA, HJ1, HB⟩ := hcut
  cases kq with
  | zero => exact absurd HA.out (by simp [impl_IsKernel.j0])
  | succ kj1 =>
   have H := HA.out; clear HA
   simp only [impl_IsKernel.j0] at H
   by_cases c4 : x14_1 = true
   ·subst c4
    have H1 : (some false) = some r := by rw [if_pos rfl] at H; exact H
    clear H; have H := H1; clear H1
    obtain rfl := Option.some.inj H
    go_wp2
    go_ret
    exact ⟨by first | rfl | (simp [errW_none, errW_some] <;> rfl) | (simp [*, errW_none, errW_some] <;> rfl), by repeat (first | (with_reducible first | exact HB.out | apply below_alloc | apply pw_below_drewN | apply below_drew1) | exact HB.out)⟩
   replace c4 := Bool.eq_false_iff.mpr c4
   subst c4
   have H1 : (impl_IsKernel.l0 kj1 l0 l0 (l0.length : Int) 0) = some r := by rw [if_neg (show ¬ (false = true) by decide)] at H; exact H
   clear H; have H := H1; clear H1
   have H' := Aside0.mk H
   clear H
   go_wp2
   go_loopg [17] kj1 (fun kq v17 w' => ∃ (x17_2 : Int), v17 = .int .i64 x17_2 ∧ Aside0 (impl_IsKernel.l0 kq l0 l0 (l0.length : Int) x17_2 = some r) ∧ Aside0 (kq ≤ kj1) ∧ Aside0 (Below w.heap.size w w'))
   case atStart => exact ⟨(0), (by first | rfl | (simp; done) | (simp [*]; done)), H', ⟨Nat.le_refl _⟩, ⟨by repeat (first | (with_reducible first | exact HB.out | apply below_alloc | apply pw_below_drewN | apply below_drew1) | exact HB.out)⟩⟩
   case round =>
    clear H'
    try clear p2
    try clear c3
    try clear c3b0
    try clear c3b1
    try clear c4
    try clear p2
    obtain ⟨x17_2, rfl, HA, HK2, HB⟩ := hrel
    cases gk with
    | zero => exact absurd HA.out (by simp [impl_IsKernel.l0])
    | succ k2 =>
     have H := HA.out; clear HA
     simp only [impl_IsKernel.l0] at H
     by_cases c5 : x17_2 < (l0.length : Int)
     ·rw [if_pos c5] at H
      have c5b0 : decide (x17_2 < (l0.length : Int)) = true := decide_eq_true c5
      clear c5
      by_cases c6 : 0 ≤ x17_2
      ·rw [if_pos c6] at H
       have c6b0 : decide (0 ≤ x17_2) = true := decide_eq_true c6
       clear c6
       by_cases c7 : x17_2 < (l0.length : Int)
       ·rw [if_pos c7] at H
        have c7b0 : decide (x17_2 < (l0.length : Int)) = true := decide_eq_true c7
        clear c7
        have HC8 := Aside0.mk H
        clear H
        have p252 : 0 ≤ (x17_2 : Int) := of_decide_eq_true (by first | (with_reducible assumption) | assumption)
        have q252 : x17_2 < (l0.length : Int) := of_decide_eq_true (by first | (with_reducible assumption) | assumption)
        obtain ⟨ad252, e252, hx252_0, hx252_1, hx252_2⟩ := at_T68 HR0.out x17_2 p252 q252
        cases e252
        replace hx252_0 := (HB.out.cell (World.block_lt_of_cell? w _ hx252_0)).trans hx252_0
        replace hx252_1 := (HB.out.cell (World.block_lt_of_cell? w _ hx252_1)).trans hx252_1
        replace hx252_2 := (HB.out.cell (World.block_lt_of_cell? w _ hx252_2)).trans hx252_2
        replace p252 := eq_true p252
        replace q252 := eq_true q252
        go_upto_region 6 with (first | ((with_reducible refine gate_dst (N := 4) rfl ?_); refine box_event ?hg (N := 4) ?hd (cs := #[.int .i64 0, .int .i64 0, .int .i64 0]) (t := 68) ?hr ?_; (case hd => rfl); (case hg => rfl); (case hr => first | (go_simp; done) | (go_simp; rfl)); intro gb253 hg w9 hbox hb; have n0_ := Aside0.mk (below_step (sW_ HB.out) hb); have n1_ := Aside0.mk (hbox); have n2_ := Aside0.mk ((by rw [hg]; exact (below_size (sW_ HB.out)) : w.heap.size ≤ gb253)); have n3_ := n2_; clear HB; have HB := n0_; have BK253 := n1_; have GW253 := n2_; have GE253 := n3_; clear n0_ n1_ n2_ n3_; clear hb hbox hg; obtain ⟨hcz10_0, hcz10_1, hcz10_2, hfz10_0, hfz10_1, hfz10_2⟩ := sZ_ BK253.out))
        (try simp only [Act.put, List.setIfInBounds_toArray, List.set_cons_zero, List.set_cons_succ])
        go_cut [59] (fun v59 wc => ∃ (kq : Nat) (x59_7 : Bool), v59 = .bool x59_7 ∧ Aside0 (impl_IsKernel.j2 kq l0 x17_2 l0 (l0.length : Int) x17_2 x59_7 ((rd_T68 l0 x17_2).f0) ((rd_T68 l0 x17_2).f1) ((rd_T68 l0 x17_2).f2) = some r) ∧ Aside0 (kq ≤ k2) ∧ Aside0 (wc.heap[gb253]? = some (.cells #[.int .i64 ((rd_T68 l0 x17_2).f0), .int .i64 ((rd_T68 l0 x17_2).f1), .int .i64 ((rd_T68 l0 x17_2).f2)] 68 (0, 0))) ∧ Aside0 (Below w.heap.size w wc))
        case first =>
         have H := HC8.out; clear HC8
         by_cases c11 : ((rd_T68 l0 x17_2).f0) < (-4)
         ·rw [if_pos c11] at H
          have c11b0 : decide (((rd_T68 l0 x17_2).f0) < (-4)) = true := decide_eq_true c11
          clear c11
          (first | rw [c11b0] | (simp only [i64_w, i32_w]; rw [c11b0]) | skip)
          have H' := Aside0.mk H
          clear H
          obtain ⟨hcz12_0, hcz12_1, hcz12_2, hfz12_0, hfz12_1, hfz12_2⟩ := sZ_ BK253.out
          go_wp2
          go_meet
          case rel => exact ⟨_, (true), (by first | rfl | (simp; done) | (simp [*]; done)), H', ⟨by have := HJ1.out; have := HK2.out; first | omega | exact Nat.le_refl _⟩, ⟨by refine sB_ ?_; refine blk_put (cs := #[.int .i64 ((rd_T68 l0 x17_2).f0), .int .i64 ((rd_T68 l0 x17_2).f1), .int .i64 0]) ?_ 2 _ rfl; refine sB_ ?_; refine blk_put (cs := #[.int .i64 ((rd_T68 l0 x17_2).f0), .int .i64 0, .int .i64 0]) ?_ 1 _ rfl; refine sB_ ?_; refine blk_put (cs := #[.int .i64 0, .int .i64 0, .int .i64 0]) ?_ 0 _ rfl; refine sB_ ?_; exact BK253.out⟩, ⟨by repeat (first | (with_reducible first | exact HB.out | apply below_alloc | apply pw_below_drewN | apply below_drew1 | refine below_set ?_ GE253.out) | exact HB.out)⟩⟩
         rw [if_neg c11] at H
         have c11b0 : decide (((rd_T68 l0 x17_2).f0) < (-4)) = false := decide_eq_false c11
         clear c11
         (first | rw [c11b0] | (simp only [i64_w, i32_w]; rw [c11b0]) | skip)
         by_cases c13 : ((rd_T68 l0 x17_2).f0) > 4
         ·rw [if_pos c13] at H
          have c13b0 : decide (4 < ((rd_T68 l0 x17_2).f0)) = true := decide_eq_true c13
          clear c13
          have H' := Aside0.mk H
          clear H
          obtain ⟨hcz14_0, hcz14_1, hcz14_2, hfz14_0, hfz14_1, hfz14_2⟩ := sZ_ BK253.out
          go_wp2
          go_meet
          case rel => exact ⟨_, (true), (by first | rfl | (simp; done) | (simp [*]; done)), H', ⟨by have := HJ1.out; have := HK2.out; first | omega | exact Nat.le_refl _⟩, ⟨by refine sB_ ?_; refine blk_put (cs := #[.int .i64 ((rd_T68 l0 x17_2).f0), .int .i64 ((rd_T68 l0 x17_2).f1), .int .i64 0]) ?_ 2 _ rfl; refine sB_ ?_; refine blk_put (cs := #[.int .i64 ((rd_T68 l0 x17_2).f0), .int .i64 0, .int .i64 0]) ?_ 1 _ rfl; refine sB_ ?_; refine blk_put (cs := #[.int .i64 0, .int .i64 0, .int .i64 0]) ?_ 0 _ rfl; refine sB_ ?_; exact BK253.out⟩, ⟨by repeat (first | (with_reducible first | exact HB.out | apply below_alloc | apply pw_below_drewN | apply below_drew1 | refine below_set ?_ GE253.out) | exact HB.out)⟩⟩
         rw [if_neg c13] at H
         have c13b0 : decide (4 < ((rd_T68 l0 x17_2).f0)) = false := decide_eq_false c13
         clear c13
         by_cases c15 : ((rd_T68 l0 x17_2).f1) < 0
         ·rw [if_pos c15] at H
          have c15b0 : decide (((rd_T68 l0 x17_2).f1) < 0) = true := decide_eq_true c15
          clear c15
          have H' := Aside0.mk H
          clear H
          obtain ⟨hcz16_0, hcz16_1, hcz16_2, hfz16_0, hfz16_1, hfz16_2⟩ := sZ_ BK253.out
          go_wp2
          go_meet
          case rel => exact ⟨_, (true), (by first | rfl | (simp; done) | (simp [*]; done)), H', ⟨by have := HJ1.out; have := HK2.out; first | omega | exact Nat.le_refl _⟩, ⟨by refine sB_ ?_; refine blk_put (cs := #[.int .i64 ((rd_T68 l0 x17_2).f0), .int .i64 ((rd_T68 l0 x17_2).f1), .int .i64 0]) ?_ 2 _ rfl; refine sB_ ?_; refine blk_put (cs := #[.int .i64 ((rd_T68 l0 x17_2).f0), .int .i64 0, .int .i64 0]) ?_ 1 _ rfl; refine sB_ ?_; refine blk_put (cs := #[.int .i64 0, .int .i64 0, .int .i64 0]) ?_ 0 _ rfl; refine sB_ ?_; exact BK253.out⟩, ⟨by repeat (first | (with_reducible first | exact HB.out | apply below_alloc | apply pw_below_drewN | apply below_drew1 | refine below_set ?_ GE253.out) | exact HB.out)⟩⟩
         rw [if_neg c15] at H
         have c15b0 : decide (((rd_T68 l0 x17_2).f1) < 0) = false := decide_eq_false c15
         clear c15
         by_cases c17 : ((rd_T68 l0 x17_2).f1) > 4
         ·rw [if_pos c17] at H
          have c17b0 : decide (4 < ((rd_T68 l0 x17_2).f1)) = true := decide_eq_true c17
          clear c17
          have H' := Aside0.mk H
          clear H
          obtain ⟨hcz18_0, hcz18_1, hcz18_2, hfz18_0, hfz18_1, hfz18_2⟩ := sZ_ BK253.out
          go_wp2
          go_meet
          case rel => exact ⟨_, (true), (by first | rfl | (simp; done) | (simp [*]; done)), H', ⟨by have := HJ1.out; have := HK2.out; first | omega | exact Nat.le_refl _⟩, ⟨by refine sB_ ?_; refine blk_put (cs := #[.int .i64 ((rd_T68 l0 x17_2).f0), .int .i64 ((rd_T68 l0 x17_2).f1), .int .i64 0]) ?_ 2 _ rfl; refine sB_ ?_; refine blk_put (cs := #[.int .i64 ((rd_T68 l0 x17_2).f0), .int .i64 0, .int .i64 0]) ?_ 1 _ rfl; refine sB_ ?_; refine blk_put (cs := #[.int .i64 0, .int .i64 0, .int .i64 0]) ?_ 0 _ rfl; refine sB_ ?_; exact BK253.out⟩, ⟨by repeat (first | (with_reducible first | exact HB.out | apply below_alloc | apply pw_below_drewN | apply below_drew1 | refine below_set ?_ GE253.out) | exact HB.out)⟩⟩
         rw [if_neg c17] at H
         have c17b0 : decide (4 < ((rd_T68 l0 x17_2).f1)) = false := decide_eq_false c17
         clear c17
         by_cases c19 : ((rd_T68 l0 x17_2).f1) = 0
         ·rw [if_pos c19] at H
          have c19b0 : (((rd_T68 l0 x17_2).f1) == 0) = true := beq_iff_eq.mpr c19
          have c19b1 : (((rd_T68 l0 x17_2).f1) != 0) = false := bne_eq_false_iff_eq.mpr c19
          clear c19
          by_cases c20 : ((rd_T68 l0 x17_2).f0) < 1
          ·rw [if_pos c20] at H
           have c20b0 : decide (((rd_T68 l0 x17_2).f0) < 1) = true := decide_eq_true c20
           clear c20
           have H' := Aside0.mk H
           clear H
           obtain ⟨hcz21_0, hcz21_1, hcz21_2, hfz21_0, hfz21_1, hfz21_2⟩ := sZ_ BK253.out
           go_wp2
           go_meet
           case rel => exact ⟨_, (true), (by first | rfl | (simp; done) | (simp [*]; done)), H', ⟨by have := HJ1.out; have := HK2.out; first | omega | exact Nat.le_refl _⟩, ⟨by refine sB_ ?_; refine blk_put (cs := #[.int .i64 ((rd_T68 l0 x17_2).f0), .int .i64 ((rd_T68 l0 x17_2).f1), .int .i64 0]) ?_ 2 _ rfl; refine sB_ ?_; refine blk_put (cs := #[.int .i64 ((rd_T68 l0 x17_2).f0), .int .i64 0, .int .i64 0]) ?_ 1 _ rfl; refine sB_ ?_; refine blk_put (cs := #[.int .i64 0, .int .i64 0, .int .i64 0]) ?_ 0 _ rfl; refine sB_ ?_; exact BK253.out⟩, ⟨by repeat (first | (with_reducible first | exact HB.out | apply below_alloc | apply pw_below_drewN | apply below_drew1 | refine below_set ?_ GE253.out) | exact HB.out)⟩⟩
          rw [if_neg c20] at H
          have c20b0 : decide (((rd_T68 l0 x17_2).f0) < 1) = false := decide_eq_false c20
          clear c20
          by_cases c22 : ((rd_T68 l0 x17_2).f2) < 1
          ·rw [if_pos c22] at H
           have c22b0 : decide (((rd_T68 l0 x17_2).f2) < 1) = true := decide_eq_true c22
           clear c22
           have H' := Aside0.mk H
           clear H
           obtain ⟨hcz23_0, hcz23_1, hcz23_2, hfz23_0, hfz23_1, hfz23_2⟩ := sZ_ BK253.out
           go_wp2
           go_meet
           case rel => exact ⟨_, (true), (by first | rfl | (simp; done) | (simp [*]; done)), H', ⟨by have := HJ1.out; have := HK2.out; first | omega | exact Nat.le_refl _⟩, ⟨by refine sB_ ?_; refine blk_put (cs := #[.int .i64 ((rd_T68 l0 x17_2).f0), .int .i64 ((rd_T68 l0 x17_2).f1), .int .i64 0]) ?_ 2 _ rfl; refine sB_ ?_; refine blk_put (cs := #[.int .i64 ((rd_T68 l0 x17_2).f0), .int .i64 0, .int .i64 0]) ?_ 1 _ rfl; refine sB_ ?_; refine blk_put (cs := #[.int .i64 0, .int .i64 0, .int .i64 0]) ?_ 0 _ rfl; refine sB_ ?_; exact BK253.out⟩, ⟨by repeat (first | (with_reducible first | exact HB.out | apply below_alloc | apply pw_below_drewN | apply below_drew1 | refine below_set ?_ GE253.out) | exact HB.out)⟩⟩
          rw [if_neg c22] at H
          have c22b0 : decide (((rd_T68 l0 x17_2).f2) < 1) = false := decide_eq_false c22
          clear c22
          have H' := Aside0.mk H
          clear H
          obtain ⟨hcz24_0, hcz24_1, hcz24_2, hfz24_0, hfz24_1, hfz24_2⟩ := sZ_ BK253.out
          go_wp2
          go_meet
          case rel => exact ⟨_, (decide (((rd_T68 l0 x17_2).f2) > 100)), (by first | rfl | (simp; done) | (simp [*]; done)), H', ⟨by have := HJ1.out; have := HK2.out; first | omega | exact Nat.le_refl _⟩, ⟨by refine sB_ ?_; refine blk_put (cs := #[.int .i64 ((rd_T68 l0 x17_2).f0), .int .i64 ((rd_T68 l0 x17_2).f1), .int .i64 0]) ?_ 2 _ rfl; refine sB_ ?_; refine blk_put (cs := #[.int .i64 ((rd_T68 l0 x17_2).f0), .int .i64 0, .int .i64 0]) ?_ 1 _ rfl; refine sB_ ?_; refine blk_put (cs := #[.int .i64 0, .int .i64 0, .int .i64 0]) ?_ 0 _ rfl; refine sB_ ?_; exact BK253.out⟩, ⟨by repeat (first | (with_reducible first | exact HB.out | apply below_alloc | apply pw_below_drewN | apply below_drew1 | refine below_set ?_ GE253.out) | exact HB.out)⟩⟩
         rw [if_neg c19] at H
         have c19b0 : (((rd_T68 l0 x17_2).f1) == 0) = false := beq_eq_false_iff_ne.mpr c19
         have c19b1 : (((rd_T68 l0 x17_2).f1) != 0) = true := bne_iff_ne.mpr c19
         by_cases c25 : ((rd_T68 l0 x17_2).f2) < 1
         ·rw [if_pos c25] at H
          have c25b0 : decide (((rd_T68 l0 x17_2).f2) < 1) = true := decide_eq_true c25
          clear c25
          have H' := Aside0.mk H
          clear H
          obtain ⟨hcz26_0, hcz26_1, hcz26_2, hfz26_0, hfz26_1, hfz26_2⟩ := sZ_ BK253.out
          go_wp2
          go_meet
          case rel => exact ⟨_, (true), (by first | rfl | (simp; done) | (simp [*]; done)), H', ⟨by have := HJ1.out; have := HK2.out; first | omega | exact Nat.le_refl _⟩, ⟨by refine sB_ ?_; refine blk_put (cs := #[.int .i64 ((rd_T68 l0 x17_2).f0), .int .i64 ((rd_T68 l0 x17_2).f1), .int .i64 0]) ?_ 2 _ rfl; refine sB_ ?_; refine blk_put (cs := #[.int .i64 ((rd_T68 l0 x17_2).f0), .int .i64 0, .int .i64 0]) ?_ 1 _ rfl; refine sB_ ?_; refine blk_put (cs := #[.int .i64 0, .int .i64 0, .int .i64 0]) ?_ 0 _ rfl; refine sB_ ?_; exact BK253.out⟩, ⟨by repeat (first | (with_reducible first | exact HB.out | apply below_alloc | apply pw_below_drewN | apply below_drew1 | refine below_set ?_ GE253.out) | exact HB.out)⟩⟩
         rw [if_neg c25] at H
         have c25b0 : decide (((rd_T68 l0 x17_2).f2) < 1) = false := decide_eq_false c25
         clear c25
         have H' := Aside0.mk H
         clear H
         obtain ⟨hcz27_0, hcz27_1, hcz27_2, hfz27_0, hfz27_1, hfz27_2⟩ := sZ_ BK253.out
         go_wp2
         go_meet
         case rel => exact ⟨_, (decide (((rd_T68 l0 x17_2).f2) > 100)), (by first | rfl | (simp; done) | (simp [*]; done)), H', ⟨by have := HJ1.out; have := HK2.out; first | omega | exact Nat.le_refl _⟩, ⟨by refine sB_ ?_; refine blk_put (cs := #[.int .i64 ((rd_T68 l0 x17_2).f0), .int .i64 ((rd_T68 l0 x17_2).f1), .int .i64 0]) ?_ 2 _ rfl; refine sB_ ?_; refine blk_put (cs := #[.int .i64 ((rd_T68 l0 x17_2).f0), .int .i64 0, .int .i64 0]) ?_ 1 _ rfl; refine sB_ ?_; refine blk_put (cs := #[.int .i64 0, .int .i64 0, .int .i64 0]) ?_ 0 _ rfl; refine sB_ ?_; exact BK253.out⟩, ⟨by repeat (first | (with_reducible first | exact HB.out | apply below_alloc | apply pw_below_drewN | apply below_drew1 | refine below_set ?_ GE253.out) | exact HB.out)⟩⟩
        case rest =>
         clear HC8
         try clear c1
         try clear c2
         try clear p2
         try clear q2
         try clear hx2
         try clear c3
         try clear c3b0
         try clear c3b1
         try clear c4
         try clear c5
         try clear c5b0
         try clear c6
         try clear c6b0
         try clear c7
         try clear c7b0
         try clear c11
         try clear c11b0
         try clear c13
         try clear c13b0
         try clear c15
         try clear c15b0
         try clear c17
         try clear c17b0
         try clear c19
         try clear c19b0
         try clear c19b1
         try clear c20
         try clear c20b0
         try clear c22
         try clear c22b0
         try clear c25
         try clear c25b0
         try clear p25
         try clear q25
         try clear hx25
         try clear hcz10_0
         try clear hcz10_1
         try clear hcz10_2
         try clear hcz12_0
         try clear hcz12_1
         try clear hcz12_2
         try clear hcz14_0
         try clear hcz14_1
         try clear hcz14_2
         try clear hcz16_0
         try clear hcz16_1
         try clear hcz16_2
         try clear hcz18_0
         try clear hcz18_1
         try clear hcz18_2
         try clear hcz21_0
         try clear hcz21_1
         try clear hcz21_2
         try clear hcz23_0
         try clear hcz23_1
         try clear hcz23_2
         try clear hcz24_0
         try clear hcz24_1
         try clear hcz24_2
         try clear hcz26_0
         try clear hcz26_1
         try clear hcz26_2
         try clear hcz27_0
         try clear hcz27_1
         try clear hcz27_2
         try clear hfz10_0
         try clear hfz10_1
         try clear hfz10_2
         try clear hfz12_0
         try clear hfz12_1
         try clear hfz12_2
         try clear hfz14_0
         try clear hfz14_1
         try clear hfz14_2
         try clear hfz16_0
         try clear hfz16_1
         try clear hfz16_2
         try clear hfz18_0
         try clear hfz18_1
         try clear hfz18_2
         try clear hfz21_0
         try clear hfz21_1
         try clear hfz21_2
         try clear hfz23_0
         try clear hfz23_1
         try clear hfz23_2
         try clear hfz24_0
         try clear hfz24_1
         try clear hfz24_2
         try clear hfz26_0
         try clear hfz26_1
         try clear hfz26_2
         try clear hfz27_0
         try clear hfz27_1
         try clear hfz27_2
         try clear hx252_0
         try clear hx252_1
         try clear hx252_2
         try clear p2
         try clear p252
         try clear q252
         obtain ⟨kq, x59_7, rfl, HA, HJ7, BK253, HB⟩ := hcut
         cases kq with
         | zero => exact absurd HA.out (by simp [impl_IsKernel.j2])
         | succ kj7 =>
          have H := HA.out; clear HA
          simp only [impl_IsKernel.j2] at H
          by_cases c28 : x59_7 = true
          ·subst c28
           have H1 : (some false) = some r := by rw [if_pos rfl] at H; exact H
           clear H; have H := H1; clear H1
           obtain rfl := Option.some.inj H
           go_wp2
           go_ret
           exact ⟨by first | rfl | (simp [errW_none, errW_some] <;> rfl) | (simp [*, errW_none, errW_some] <;> rfl), by repeat (first | (with_reducible first | exact HB.out | apply below_alloc | apply pw_below_drewN | apply below_drew1 | refine below_set ?_ GE253.out) | exact HB.out)⟩
          replace c28 := Bool.eq_false_iff.mpr c28
          subst c28
          have H1 : (if 0 ≤ x17_2 then (if x17_2 ≤ (l0.length : Int) then ((some (l0.take (x17_2 : Int).toNat : List (S68))).bind fun y254 => (impl_IsKernel.l1 kj7 l0 l0 (l0.length : Int) x17_2 y254 (y254.length : Int) 0 ((rd_T68 l0 x17_2).f0) ((rd_T68 l0 x17_2).f1) ((rd_T68 l0 x17_2).f2))) else (none)) else (none)) = some r := by rw [if_neg (show ¬ (false = true) by decide)] at H; exact H
          clear H; have H := H1; clear H1
          by_cases c29 : 0 ≤ x17_2
          ·rw [if_pos c29] at H
           have c29b0 := eq_true c29
           have c29b1 : decide (0 ≤ x17_2) = true := decide_eq_true c29
           clear c29
           by_cases c30 : x17_2 ≤ (l0.length : Int)
           ·rw [if_pos c30] at H
            have c30b0 := eq_true c30
            have c30b1 : decide (x17_2 ≤ (l0.length : Int)) = true := decide_eq_true c30
            clear c30
            obtain ⟨y254, hy254⟩ : ∃ y_ : List (S68), y_ = (l0.take (x17_2 : Int).toNat) := ⟨_, rfl⟩
            replace H : (impl_IsKernel.l1 kj7 l0 l0 (l0.length : Int) x17_2 y254 (y254.length : Int) 0 ((rd_T68 l0 x17_2).f0) ((rd_T68 l0 x17_2).f1) ((rd_T68 l0 x17_2).f2)) = some r := by first | (rw [hy254]; with_reducible exact H) | (have H2_ := (Option.bind_some _ _).symm.trans H; rw [hy254]; with_reducible exact H2_) | (have H2_ := (Option.bind_some _ _).symm.trans H; with_reducible exact H2_) | with_reducible exact H | (rw [hy254]; exact H) | exact H
            have Ny254 := Aside0.mk hy254
            clear hy254
            have H' := Aside0.mk H
            clear H
            have q31 : (x17_2 : Int) ≤ ((l0.length : Int) : Int) := of_decide_eq_true (by first | (with_reducible assumption) | assumption)
            obtain ⟨i031, hi031, _, hsz31, _⟩ := info_parts info68
            have hroom31 : l0.length ≤ c0 := HC0.out
            have hC31 : Kd.C k68 _ (some ad252) l0.length l0 := HR0.out
            have hcut31 := cut_to (P := Try.prog) 23 68 .i64 Try.underlying23 hi031 (some ad252) l0.length c0 x17_2 (of_decide_eq_true (by first | (with_reducible assumption) | assumption)) q31 hroom31
            have hr31 := Kd.C_take (m := (x17_2 : Int).toNat) hC31 (by omega)
            have hy31 : y254.length = (x17_2 : Int).toNat := (by rw [Ny254.out, List.length_take]; omega)
            rw [← Ny254.out] at hr31
            rw [← hy31] at hcut31
            have HR257 := Aside0.mk hr31
            have HC257 := Aside0.mk (show y254.length ≤ c0 from by omega)
            clear hr31 hC31 hroom31 hi031 hsz31
            have KY31 := Aside0.mk hy31
            clear hy31
            replace q31 := eq_true q31
            go_wp2
            go_loopg [64] kj7 (fun kq v64 w' => ∃ (x64_4 : Int), v64 = .int .i64 x64_4 ∧ Aside0 (impl_IsKernel.l1 kq l0 l0 (l0.length : Int) x17_2 y254 (y254.length : Int) x64_4 ((rd_T68 l0 x17_2).f0) ((rd_T68 l0 x17_2).f1) ((rd_T68 l0 x17_2).f2) = some r) ∧ Aside0 (kq ≤ kj7) ∧ Aside0 (w'.heap[gb253]? = some (.cells #[.int .i64 ((rd_T68 l0 x17_2).f0), .int .i64 ((rd_T68 l0 x17_2).f1), .int .i64 ((rd_T68 l0 x17_2).f2)] 68 (0, 0))) ∧ Aside0 (Below w.heap.size w w'))
            case atStart => exact ⟨(0), (by first | rfl | (simp; done) | (simp [*]; done)), H', ⟨Nat.le_refl _⟩, ⟨by refine sB_ ?_; exact BK253.out⟩, ⟨by repeat (first | (with_reducible first | exact HB.out | apply below_alloc | apply pw_below_drewN | apply below_drew1 | refine below_set ?_ GE253.out) | exact HB.out)⟩⟩
            case round =>
             clear H'
             try clear c1
             try clear c2
             try clear p2
             try clear q2
             try clear hx2
             try clear c3
             try clear c3b0
             try clear c3b1
             try clear q3
             try clear c4
             try clear c5
             try clear c5b0
             try clear c6
             try clear c6b0
             try clear c7
             try clear c7b0
             try clear c11
             try clear c11b0
             try clear c13
             try clear c13b0
             try clear c15
             try clear c15b0
             try clear c17
             try clear c17b0
             try clear c19
             try clear c19b0
             try clear c19b1
             try clear c20
             try clear c20b0
             try clear c22
             try clear c22b0
             try clear c25
             try clear c25b0
             try clear p25
             try clear q25
             try clear hx25
             try clear c28
             try clear c29
             try clear c29b0
             try clear c29b1
             try clear c30
             try clear c30b0
             try clear c30b1
             try clear q31
             try clear hcz10_0
             try clear hcz10_1
             try clear hcz10_2
             try clear hcz12_0
             try clear hcz12_1
             try clear hcz12_2
             try clear hcz14_0
             try clear hcz14_1
             try clear hcz14_2
             try clear hcz16_0
             try clear hcz16_1
             try clear hcz16_2
             try clear hcz18_0
             try clear hcz18_1
             try clear hcz18_2
             try clear hcz21_0
             try clear hcz21_1
             try clear hcz21_2
             try clear hcz23_0
             try clear hcz23_1
             try clear hcz23_2
             try clear hcz24_0
             try clear hcz24_1
             try clear hcz24_2
             try clear hcz26_0
             try clear hcz26_1
             try clear hcz26_2
             try clear hcz27_0
             try clear hcz27_1
             try clear hcz27_2
             try clear hfz10_0
             try clear hfz10_1
             try clear hfz10_2
             try clear hfz12_0
             try clear hfz12_1
             try clear hfz12_2
             try clear hfz14_0
             try clear hfz14_1
             try clear hfz14_2
             try clear hfz16_0
             try clear hfz16_1
             try clear hfz16_2
             try clear hfz18_0
             try clear hfz18_1
             try clear hfz18_2
             try clear hfz21_0
             try clear hfz21_1
             try clear hfz21_2
             try clear hfz23_0
             try clear hfz23_1
             try clear hfz23_2
             try clear hfz24_0
             try clear hfz24_1
             try clear hfz24_2
             try clear hfz26_0
             try clear hfz26_1
             try clear hfz26_2
             try clear hfz27_0
             try clear hfz27_1
             try clear hfz27_2
             try clear hx252_0
             try clear hx252_1
             try clear hx252_2
             try clear p2
             try clear p25
             try clear p252
             try clear q2
             try clear q25
             try clear q252
             try clear q31
             obtain ⟨x64_4, rfl, HA, HK4, BK253, HB⟩ := hrel
             cases gk with
             | zero => exact absurd HA.out (by simp [impl_IsKernel.l1])
             | succ k4 =>
              have H := HA.out; clear HA
              simp only [impl_IsKernel.l1] at H
              by_cases c32 : x64_4 < (y254.length : Int)
              ·rw [if_pos c32] at H
               have c32b0 : decide (x64_4 < (y254.length : Int)) = true := decide_eq_true c32
               clear c32
               by_cases c33 : 0 ≤ x64_4
               ·rw [if_pos c33] at H
                have c33b0 : decide (0 ≤ x64_4) = true := decide_eq_true c33
                clear c33
                by_cases c34 : x64_4 < (y254.length : Int)
                ·rw [if_pos c34] at H
                 have c34b0 : decide (x64_4 < (y254.length : Int)) = true := decide_eq_true c34
                 clear c34
                 by_cases c35 : ((rd_T68 l0 x17_2).f0) = ((rd_T68 y254 x64_4).f0)
                 ·rw [if_pos c35] at H
                  have c35b0 : (((rd_T68 l0 x17_2).f0) == ((rd_T68 y254 x64_4).f0)) = true := beq_iff_eq.mpr c35
                  have c35b1 : (((rd_T68 l0 x17_2).f0) != ((rd_T68 y254 x64_4).f0)) = false := bne_eq_false_iff_eq.mpr c35
                  clear c35
                  by_cases c36 : ((rd_T68 l0 x17_2).f1) = ((rd_T68 y254 x64_4).f1)
                  ·rw [if_pos c36] at H
                   have c36b0 : (((rd_T68 l0 x17_2).f1) == ((rd_T68 y254 x64_4).f1)) = true := beq_iff_eq.mpr c36
                   have c36b1 : (((rd_T68 l0 x17_2).f1) != ((rd_T68 y254 x64_4).f1)) = false := bne_eq_false_iff_eq.mpr c36
                   clear c36
                   obtain rfl := Option.some.inj H
                   have p258 : 0 ≤ (x64_4 : Int) := of_decide_eq_true (by first | (with_reducible assumption) | assumption)
                   have q258 : x64_4 < (y254.length : Int) := of_decide_eq_true (by first | (with_reducible assumption) | assumption)
                   obtain ⟨ad258, e258, hx258_0, hx258_1, hx258_2⟩ := at_T68 HR257.out x64_4 p258 q258
                   obtain rfl : ad252 = ad258 := (by injection e258)
                   replace hx258_0 := (HB.out.cell (World.block_lt_of_cell? w _ hx258_0)).trans hx258_0
                   replace hx258_1 := (HB.out.cell (World.block_lt_of_cell? w _ hx258_1)).trans hx258_1
                   replace hx258_2 := (HB.out.cell (World.block_lt_of_cell? w _ hx258_2)).trans hx258_2
                   replace p258 := eq_true p258
                   replace q258 := eq_true q258
                   go_wp2_with (first | ((with_reducible refine gate_dst (N := 6) rfl ?_); refine box_event ?hg (N := 6) ?hd (cs := #[.int .i64 0, .int .i64 0, .int .i64 0]) (t := 68) ?hr ?_; (case hd => rfl); (case hg => rfl); (case hr => first | (go_simp; done) | (go_simp; rfl)); intro gb259 hg w37 hbox hb; have n0_ := Aside0.mk (blk_below (sB_ BK253.out) hb); have n1_ := Aside0.mk (below_step (sW_ HB.out) hb); have n2_ := Aside0.mk (hbox); have n3_ := Aside0.mk ((by rw [hg]; exact (below_size (sW_ HB.out)) : w.heap.size ≤ gb259)); have n4_ := n3_; have n5_ := Aside0.mk (sN_ hg (blk_lt (sB_ BK253.out))); have n6_ := Aside0.mk n5_.out.symm; clear BK253 HB; have BK253 := n0_; have HB := n1_; have BK259 := n2_; have GW259 := n3_; have GE259 := n4_; have NB253_259 := n5_; have NB259_253 := n6_; clear n0_ n1_ n2_ n3_ n4_ n5_ n6_; clear hb hbox hg; have hnb38 := NB259_253.out; have hnc38 := NB253_259.out; obtain ⟨hcz39_0, hcz39_1, hcz39_2, hfz39_0, hfz39_1, hfz39_2⟩ := sZ_ BK259.out; have hcz40_0 : w37.cell? ⟨gb253, 0, none⟩ = some (.int .i64 ((rd_T68 l0 x17_2).f0)) := (blk_cell BK253.out 0).trans rfl; have hcz40_1 : w37.cell? ⟨gb253, 1, none⟩ = some (.int .i64 ((rd_T68 l0 x17_2).f1)) := (blk_cell BK253.out 1).trans rfl; have hcz40_2 : w37.cell? ⟨gb253, 2, none⟩ = some (.int .i64 ((rd_T68 l0 x17_2).f2)) := (blk_cell BK253.out 2).trans rfl; have hfz40_0 := blk_frozen BK253.out 0; have hfz40_1 := blk_frozen BK253.out 1; have hfz40_2 := blk_frozen BK253.out 2))
                   go_ret
                   exact ⟨by first | rfl | (simp [errW_none, errW_some] <;> rfl) | (simp [*, errW_none, errW_some] <;> rfl), by repeat (first | (with_reducible first | exact HB.out | apply below_alloc | apply pw_below_drewN | apply below_drew1 | refine below_set ?_ GE253.out | refine below_set ?_ GE259.out) | exact HB.out)⟩
                  rw [if_neg c36] at H
                  have c36b0 : (((rd_T68 l0 x17_2).f1) == ((rd_T68 y254 x64_4).f1)) = false := beq_eq_false_iff_ne.mpr c36
                  have c36b1 : (((rd_T68 l0 x17_2).f1) != ((rd_T68 y254 x64_4).f1)) = true := bne_iff_ne.mpr c36
                  have H' := Aside0.mk H
                  clear H
                  have p258 : 0 ≤ (x64_4 : Int) := of_decide_eq_true (by first | (with_reducible assumption) | assumption)
                  have q258 : x64_4 < (y254.length : Int) := of_decide_eq_true (by first | (with_reducible assumption) | assumption)
                  obtain ⟨ad258, e258, hx258_0, hx258_1, hx258_2⟩ := at_T68 HR257.out x64_4 p258 q258
                  obtain rfl : ad252 = ad258 := (by injection e258)
                  replace hx258_0 := (HB.out.cell (World.block_lt_of_cell? w _ hx258_0)).trans hx258_0
                  replace hx258_1 := (HB.out.cell (World.block_lt_of_cell? w _ hx258_1)).trans hx258_1
                  replace hx258_2 := (HB.out.cell (World.block_lt_of_cell? w _ hx258_2)).trans hx258_2
                  replace p258 := eq_true p258
                  replace q258 := eq_true q258
                  go_wp2_with (first | ((with_reducible refine gate_dst (N := 6) rfl ?_); refine box_event ?hg (N := 6) ?hd (cs := #[.int .i64 0, .int .i64 0, .int .i64 0]) (t := 68) ?hr ?_; (case hd => rfl); (case hg => rfl); (case hr => first | (go_simp; done) | (go_simp; rfl)); intro gb259 hg w41 hbox hb; have n0_ := Aside0.mk (blk_below (sB_ BK253.out) hb); have n1_ := Aside0.mk (below_step (sW_ HB.out) hb); have n2_ := Aside0.mk (hbox); have n3_ := Aside0.mk ((by rw [hg]; exact (below_size (sW_ HB.out)) : w.heap.size ≤ gb259)); have n4_ := n3_; have n5_ := Aside0.mk (sN_ hg (blk_lt (sB_ BK253.out))); have n6_ := Aside0.mk n5_.out.symm; clear BK253 HB; have BK253 := n0_; have HB := n1_; have BK259 := n2_; have GW259 := n3_; have GE259 := n4_; have NB253_259 := n5_; have NB259_253 := n6_; clear n0_ n1_ n2_ n3_ n4_ n5_ n6_; clear hb hbox hg; have hnb42 := NB259_253.out; have hnc42 := NB253_259.out; obtain ⟨hcz43_0, hcz43_1, hcz43_2, hfz43_0, hfz43_1, hfz43_2⟩ := sZ_ BK259.out; have hcz44_0 : w41.cell? ⟨gb253, 0, none⟩ = some (.int .i64 ((rd_T68 l0 x17_2).f0)) := (blk_cell BK253.out 0).trans rfl; have hcz44_1 : w41.cell? ⟨gb253, 1, none⟩ = some (.int .i64 ((rd_T68 l0 x17_2).f1)) := (blk_cell BK253.out 1).trans rfl; have hcz44_2 : w41.cell? ⟨gb253, 2, none⟩ = some (.int .i64 ((rd_T68 l0 x17_2).f2)) := (blk_cell BK253.out 2).trans rfl; have hfz44_0 := blk_frozen BK253.out 0; have hfz44_1 := blk_frozen BK253.out 1; have hfz44_2 := blk_frozen BK253.out 2))
                  go_roundg k4
                  case measure => have := HJ1.out; have := HK2.out; have := HJ7.out; have := HK4.out; omega
                  case rel => exact ⟨(wrap64 (x64_4 + 1)), (by first | rfl | (simp; done) | (simp [*]; done)), H', ⟨by have := HJ1.out; have := HK2.out; have := HJ7.out; have := HK4.out; omega⟩, ⟨by refine sB_ ?_; refine blk_far ?_ NB253_259.out _; refine sB_ ?_; refine blk_far ?_ NB253_259.out _; refine sB_ ?_; refine blk_far ?_ NB253_259.out _; refine sB_ ?_; exact BK253.out⟩, ⟨by repeat (first | (with_reducible first | exact HB.out | apply below_alloc | apply pw_below_drewN | apply below_drew1 | refine below_set ?_ GE253.out | refine below_set ?_ GE259.out) | exact HB.out)⟩⟩
                 rw [if_neg c35] at H
                 have c35b0 : (((rd_T68 l0 x17_2).f0) == ((rd_T68 y254 x64_4).f0)) = false := beq_eq_false_iff_ne.mpr c35
                 have c35b1 : (((rd_T68 l0 x17_2).f0) != ((rd_T68 y254 x64_4).f0)) = true := bne_iff_ne.mpr c35
                 have H' := Aside0.mk H
                 clear H
                 have p258 : 0 ≤ (x64_4 : Int) := of_decide_eq_true (by first | (with_reducible assumption) | assumption)
                 have q258 : x64_4 < (y254.length : Int) := of_decide_eq_true (by first | (with_reducible assumption) | assumption)
                 obtain ⟨ad258, e258, hx258_0, hx258_1, hx258_2⟩ := at_T68 HR257.out x64_4 p258 q258
                 obtain rfl : ad252 = ad258 := (by injection e258)
                 replace hx258_0 := (HB.out.cell (World.block_lt_of_cell? w _ hx258_0)).trans hx258_0
                 replace hx258_1 := (HB.out.cell (World.block_lt_of_cell? w _ hx258_1)).trans hx258_1
                 replace hx258_2 := (HB.out.cell (World.block_lt_of_cell? w _ hx258_2)).trans hx258_2
                 replace p258 := eq_true p258
                 replace q258 := eq_true q258
                 go_wp2_with (first | ((with_reducible refine gate_dst (N := 6) rfl ?_); refine box_event ?hg (N := 6) ?hd (cs := #[.int .i64 0, .int .i64 0, .int .i64 0]) (t := 68) ?hr ?_; (case hd => rfl); (case hg => rfl); (case hr => first | (go_simp; done) | (go_simp; rfl)); intro gb259 hg w45 hbox hb; have n0_ := Aside0.mk (blk_below (sB_ BK253.out) hb); have n1_ := Aside0.mk (below_step (sW_ HB.out) hb); have n2_ := Aside0.mk (hbox); have n3_ := Aside0.mk ((by rw [hg]; exact (below_size (sW_ HB.out)) : w.heap.size ≤ gb259)); have n4_ := n3_; have n5_ := Aside0.mk (sN_ hg (blk_lt (sB_ BK253.out))); have n6_ := Aside0.mk n5_.out.symm; clear BK253 HB; have BK253 := n0_; have HB := n1_; have BK259 := n2_; have GW259 := n3_; have GE259 := n4_; have NB253_259 := n5_; have NB259_253 := n6_; clear n0_ n1_ n2_ n3_ n4_ n5_ n6_; clear hb hbox hg; have hnb46 := NB259_253.out; have hnc46 := NB253_259.out; obtain ⟨hcz47_0, hcz47_1, hcz47_2, hfz47_0, hfz47_1, hfz47_2⟩ := sZ_ BK259.out; have hcz48_0 : w45.cell? ⟨gb253, 0, none⟩ = some (.int .i64 ((rd_T68 l0 x17_2).f0)) := (blk_cell BK253.out 0).trans rfl; have hcz48_1 : w45.cell? ⟨gb253, 1, none⟩ = some (.int .i64 ((rd_T68 l0 x17_2).f1)) := (blk_cell BK253.out 1).trans rfl; have hcz48_2 : w45.cell? ⟨gb253, 2, none⟩ = some (.int .i64 ((rd_T68 l0 x17_2).f2)) := (blk_cell BK253.out 2).trans rfl; have hfz48_0 := blk_frozen BK253.out 0; have hfz48_1 := blk_frozen BK253.out 1; have hfz48_2 := blk_frozen BK253.out 2))
                 go_roundg k4
                 case measure => have := HJ1.out; have := HK2.out; have := HJ7.out; have := HK4.out; omega
                 case rel => exact ⟨(wrap64 (x64_4 + 1)), (by first | rfl | (simp; done) | (simp [*]; done)), H', ⟨by have := HJ1.out; have := HK2.out; have := HJ7.out; have := HK4.out; omega⟩, ⟨by refine sB_ ?_; refine blk_far ?_ NB253_259.out _; refine sB_ ?_; refine blk_far ?_ NB253_259.out _; refine sB_ ?_; refine blk_far ?_ NB253_259.out _; refine sB_ ?_; exact BK253.out⟩, ⟨by repeat (first | (with_reducible first | exact HB.out | apply below_alloc | apply pw_below_drewN | apply below_drew1 | refine below_set ?_ GE253.out | refine below_set ?_ GE259.out) | exact HB.out)⟩⟩
                rw [if_neg c34] at H
                exact absurd H (by simp)
               rw [if_neg c33] at H
               exact absurd H (by simp)
              rw [if_neg c32] at H
              have c32b0 : decide (x64_4 < (y254.length : Int)) = false := decide_eq_false c32
              clear c32
              have H' := Aside0.mk H
              clear H
              go_wp2
              go_roundg k4
              case measure => have := HJ1.out; have := HK2.out; have := HJ7.out; have := HK4.out; omega
              case rel => exact ⟨(wrap64 (x17_2 + 1)), (by first | rfl | (simp; done) | (simp [*]; done)), H', ⟨by have := HJ1.out; have := HK2.out; have := HJ7.out; have := HK4.out; omega⟩, ⟨by repeat (first | (with_reducible first | exact HB.out | apply below_alloc | apply pw_below_drewN | apply below_drew1 | refine below_set ?_ GE253.out) | exact HB.out)⟩⟩
           rw [if_neg c30] at H
           exact absurd H (by simp)
          rw [if_neg c29] at H
          exact absurd H (by simp)
       rw [if_neg c7] at H
       exact absurd H (by simp)
      rw [if_neg c6] at H
      exact absurd H (by simp)
     rw [if_neg c5] at H
     have c5b0 : decide (x17_2 < (l0.length : Int)) = false := decide_eq_false c5
     clear c5
     obtain rfl := Option.some.inj H
     go_wp2
     go_ret
     exact ⟨by first | rfl | (simp [errW_none, errW_some] <;> rfl) | (simp [*, errW_none, errW_some] <;> rfl), by repeat (first | (with_reducible first | exact HB.out | apply below_alloc | apply pw_below_drewN | apply below_drew1) | exact HB.out)⟩

end Go.Proofs.Ytndnklicfibkeaa.P
