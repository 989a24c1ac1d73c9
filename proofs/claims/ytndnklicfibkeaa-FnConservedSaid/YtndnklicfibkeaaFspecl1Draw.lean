-- Written by tools/seatprint.py (over the kit's print, changed in memory). Not trusted: Lean checks it.
import Derived.Test.YtndnklicfibkeaaP0
import Derived.Test.YtndnklicfibkeaaFspecl01Byte
import Derived.Test.YtndnklicfibkeaaFspecl01Below
import Derived.Test.YtndnklicfibkeaaFspecl1Empty
import Derived.Test.YtndnklicfibkeaaFspecl01Int
namespace Go.Proofs.Ytndnklicfibkeaa.P
open Go.RowKit Go.Proofs.YtndnklicfibkeaaW.PrintWords Go.Proofs.YtndnklicfibkeaaW.PrintLast Go.Proofs.YtndnklicfibkeaaW.PrintMore
attribute [local go_sem] max2_int min2_int max_two min_two max_three min_three max_four min_four   -- for this text's walks alone
set_option linter.unusedVariables false
set_option linter.unusedSimpArgs false

/-! ### spec_l1Draw: function 33 -/
def spec_l1Draw.l0 : Nat → Int → Int → Int → List Int → Int → Int → Int → Int → List Int → Option (Int × Int × List Int × Int × Int)
  | 0, _, _, _, _, _, _, _, _, _ => none
  | k + 1, x6, x21, x22, x1000, x1001, x1002, x213000, x213001, x213002 => if x22 < x21 then (if x6 = 0 then ((spec_l01Below.f x1000 x1001 x1002 256).bind fun bt216 => (if 0 ≤ x22 then (if x22 < (x213002.length : Int) then (spec_l1Draw.l0 k x6 x21 (wrap64 (x22 + 1)) x1000 bt216.2.1 bt216.2.2 x213000 x213001 (x213002.set (x22 : Int).toNat bt216.1)) else (none)) else (none))) else (if x6 = 1 then ((spec_l01Int.f x1000 x1001 x1002 (([0, 255, 128, 127, 1, 254] : List Int))).bind fun bt223 => (if 0 ≤ x22 then (if x22 < (x213002.length : Int) then (spec_l1Draw.l0 k x6 x21 (wrap64 (x22 + 1)) x1000 bt223.2.1 bt223.2.2 x213000 x213001 (x213002.set (x22 : Int).toNat bt223.1)) else (none)) else (none))) else (if x6 = 2 then ((spec_l01Below.f x1000 x1001 x1002 2).bind fun bt227 => (if 0 ≤ x22 then (if x22 < (x213002.length : Int) then (spec_l1Draw.l0 k x6 x21 (wrap64 (x22 + 1)) x1000 bt227.2.1 bt227.2.2 x213000 x213001 (x213002.set (x22 : Int).toNat bt227.1)) else (none)) else (none))) else (if x213000 = 0 then (none) else (if (mx 1 (wrap64 (x213000 - 1))) = 0 then (none) else (if 0 ≤ x22 then (if x22 < (x213002.length : Int) then (spec_l1Draw.l0 k x6 x21 (wrap64 (x22 + 1)) x1000 x1001 x1002 x213000 x213001 (x213002.set (x22 : Int).toNat (wrap64 (Int.tdiv (wrap64 ((Int.tmod x22 x213000) * 255)) (mx 1 (wrap64 (x213000 - 1))))))) else (none)) else (none))))))) else (some (x213000, x213001, x213002, x1001, x1002))
def spec_l1Draw.f (k : Nat) (s0_0 : List Int) (s0_1 : Int) (s0_2 : Int) (a1 : Int) : Option (Int × Int × List Int × Int × Int) := (spec_l01Below.f s0_0 s0_1 s0_2 a1).bind fun bt201 => ((spec_l01Below.f s0_0 bt201.2.1 bt201.2.2 a1).bind fun bt204 => ((spec_l1Empty.f (wrap64 (1 + bt201.1)) (wrap64 (1 + bt204.1))).bind fun bt207 => ((spec_l01Below.f s0_0 bt204.2.1 bt204.2.2 4).bind fun bt213 => (spec_l1Draw.l0 k bt213.1 (bt207.2.2.length : Int) 0 s0_0 bt213.2.1 bt213.2.2 bt207.1 bt207.2.1 bt207.2.2))))
theorem spec_l1Draw.mono_l : ∀ k, (∀ y0 y1 y2 y3 y4 y5 y6 y7 y8, LeO (spec_l1Draw.l0 k y0 y1 y2 y3 y4 y5 y6 y7 y8) (spec_l1Draw.l0 (k + 1) y0 y1 y2 y3 y4 y5 y6 y7 y8))
  | 0 => fun _ _ _ _ _ _ _ _ _ r h => by simp [spec_l1Draw.l0] at h
  | k + 1 => by
    have ih0 := spec_l1Draw.mono_l k
    · intro y0 y1 y2 y3 y4 y5 y6 y7 y8
      unfold spec_l1Draw.l0
      repeat' first
      | (with_reducible exact ih0 _ _ _ _ _ _ _ _ _)
      | (with_reducible exact LeO.refl _)
      | (with_reducible exact LeO.none _)
      | (with_reducible refine LeO.ite ?_ ?_)
      | (with_reducible refine LeO.bind ?_ (fun _ => ?_))
      | exact ih0 _ _ _ _ _ _ _ _ _
      | exact LeO.none _
      | refine LeO.ite ?_ ?_
      | refine LeO.bind ?_ (fun _ => ?_)
theorem spec_l1Draw.mono : ∀ a0 a1 a2 a3 k, LeO (spec_l1Draw.f k a0 a1 a2 a3) (spec_l1Draw.f (k + 1) a0 a1 a2 a3) := by
  intro a0 a1 a2 a3 k
  have ih0 := spec_l1Draw.mono_l k
  unfold spec_l1Draw.f
  repeat' first
      | (with_reducible exact ih0 _ _ _ _ _ _ _ _ _)
      | (with_reducible exact LeO.refl _)
      | (with_reducible exact LeO.none _)
      | (with_reducible refine LeO.ite ?_ ?_)
      | (with_reducible refine LeO.bind ?_ (fun _ => ?_))
      | exact ih0 _ _ _ _ _ _ _ _ _
      | exact LeO.none _
      | refine LeO.ite ?_ ?_
      | refine LeO.bind ?_ (fun _ => ?_)
def spec_l1Draw.T7 : Bool × List (List Nat × List Nat) := (true, [([], []), ([0], [0]), ([], []), ([], []), ([], []), ([4], [4]), ([3, 5], [3, 5]), ([6], [6]), ([], []), ([8], [8]), ([9], [9]), ([10], [10]), ([7, 11], [7, 11]), ([1, 2, 0, 1, 2, 3, 4, 5, 6, 7, 8, 9, 10, 11, 12], [1, 2]), ([13, 12, 0, 1, 2, 3, 4, 5, 6, 7, 8, 9, 10, 11, 12], [12, 13])])
def spec_l1Draw.B7 : List Nat := [0, 1, 0, 0, 0, 16, 56, 120, 0, 256, 768, 1792, 4088, 8191, 16383]
theorem spec_l1Draw.tab7 : rtab .any (opsOf Try.f33 7) = spec_l1Draw.T7 := by kernel_rfl
theorem spec_l1Draw.bits7 : waitsOk spec_l1Draw.T7.2 spec_l1Draw.B7 = true := by kernel_rfl
def spec_l1Draw.T11 : Bool × List (List Nat × List Nat) := (true, [([], []), ([0], [0]), ([], []), ([], []), ([], []), ([3, 4], [3, 4]), ([1, 2, 0, 1, 2, 3, 4, 5], [1, 2]), ([6, 5, 5, 0, 1, 2, 3, 4, 5], [5, 6])])
def spec_l1Draw.B11 : List Nat := [0, 1, 0, 0, 0, 24, 63, 127]
theorem spec_l1Draw.tab11 : rtab .any (opsOf Try.f33 11) = spec_l1Draw.T11 := by kernel_rfl
theorem spec_l1Draw.bits11 : waitsOk spec_l1Draw.T11.2 spec_l1Draw.B11 = true := by kernel_rfl
set_option maxHeartbeats 8000000 in
set_option maxRecDepth 100000 in
theorem spec_l1Draw.calls (k : Nat) (g : Nat) (s0_0 : List Int) (s0_1 : Int) (s0_2 : Int) (a1 : Int) (r1 : Int) (r2 : Int) (r3 : List Int) (r4 : Int) (r5 : Int) (w0 w : World) (hI : IsS70 w0 w g s0_0 s0_1 s0_2) (hB : Below w0.heap.size w0 w) (h : spec_l1Draw.f k s0_0 s0_1 s0_2 a1 = some (r1, r2, r3, r4, r5)) :
  Calls Try.prog 33 #[.pointer (some ⟨g, 0, none⟩), .int .i64 a1] w fun e w' => ∃ v2_ : Value, e = .returned (.agg #[.int .i64 r1, .int .i64 r2, v2_]) ∧ Kd.R (Kd.int .i64) 3 w' w.heap.size (fun _ => True) v2_ r3 ∧ IsS70 w0 w' g s0_0 r4 r5 ∧ Below w0.heap.size w0 w' ∧ KeepBut w w' g none := by
 have hu27 := Try.underlying27
 have HI0 := Aside0.mk hI
 have HK := Aside0.mk (KeepBut.refl w g none)
 have HL := Aside0.mk hB.size
 clear hI
 have HW0 := Aside0.mk hB.size
 have HB := Aside0.mk hB
 clear hB
 have H : ((spec_l01Below.f s0_0 s0_1 s0_2 a1).bind fun bt201 => ((spec_l01Below.f s0_0 bt201.2.1 bt201.2.2 a1).bind fun bt204 => ((spec_l1Empty.f (wrap64 (1 + bt201.1)) (wrap64 (1 + bt204.1))).bind fun bt207 => ((spec_l01Below.f s0_0 bt204.2.1 bt204.2.2 4).bind fun bt213 => (spec_l1Draw.l0 k bt213.1 (bt207.2.2.length : Int) 0 s0_0 bt213.2.1 bt213.2.2 bt207.1 bt207.2.1 bt207.2.2))))) = some (r1, r2, r3, r4, r5) := h
 clear h
 replace H := Option.bind_eq_some_iff.mp H
 obtain ⟨⟨t201, t202, t203⟩, A30, H⟩ := H
 replace H : ((spec_l01Below.f s0_0 t202 t203 a1).bind fun bt204 => ((spec_l1Empty.f (wrap64 (1 + t201)) (wrap64 (1 + bt204.1))).bind fun bt207 => ((spec_l01Below.f s0_0 bt204.2.1 bt204.2.2 4).bind fun bt213 => (spec_l1Draw.l0 k bt213.1 (bt207.2.2.length : Int) 0 s0_0 bt213.2.1 bt213.2.2 bt207.1 bt207.2.1 bt207.2.2)))) = some (r1, r2, r3, r4, r5) := H
 have A3 := Aside0.mk A30
 clear A30
 replace H := Option.bind_eq_some_iff.mp H
 obtain ⟨⟨t204, t205, t206⟩, A40, H⟩ := H
 replace H : ((spec_l1Empty.f (wrap64 (1 + t201)) (wrap64 (1 + t204))).bind fun bt207 => ((spec_l01Below.f s0_0 t205 t206 4).bind fun bt213 => (spec_l1Draw.l0 k bt213.1 (bt207.2.2.length : Int) 0 s0_0 bt213.2.1 bt213.2.2 bt207.1 bt207.2.1 bt207.2.2))) = some (r1, r2, r3, r4, r5) := H
 have A4 := Aside0.mk A40
 clear A40
 replace H := Option.bind_eq_some_iff.mp H
 obtain ⟨⟨t207, t208, t209⟩, A50, H⟩ := H
 replace H : ((spec_l01Below.f s0_0 t205 t206 4).bind fun bt213 => (spec_l1Draw.l0 k bt213.1 (t209.length : Int) 0 s0_0 bt213.2.1 bt213.2.2 t207 t208 t209)) = some (r1, r2, r3, r4, r5) := H
 have A5 := Aside0.mk A50
 clear A50
 replace H := Option.bind_eq_some_iff.mp H
 obtain ⟨⟨t213, t214, t215⟩, A60, H⟩ := H
 replace H : (spec_l1Draw.l0 k t213 (t209.length : Int) 0 s0_0 t214 t215 t207 t208 t209) = some (r1, r2, r3, r4, r5) := H
 have A6 := Aside0.mk A60
 clear A60
 have H' := Aside0.mk H
 clear H
 go_enter Try.func33, Try.ntmps33
 go_wp2_with (first | ((with_reducible refine gate_dst (N := 4) rfl ?_); refine box_event ?hg (N := 4) ?hd (cs := #[.int .i64 0, .int .i64 0, .slice none 0 0]) (t := 27) ?hr ?_; (case hd => rfl); (case hg => rfl); (case hr => first | (go_simp; done) | (go_simp; rfl)); intro gb200 hg w7 hbox hb; have n0_ := Aside0.mk (IsS70.below (by repeat (first | (with_reducible first | exact HI0.out | apply IsS70.alloc | apply IsS70.drewN | apply IsS70.drew | apply IsS70.set_1 | apply IsS70.set_2) | exact HI0.out)) hb); have n1_ := Aside0.mk (KeepBut.trans (by repeat (first | (with_reducible first | exact HK.out | apply KeepBut.set_ | apply keep_drewN | apply keep_drew | apply keep_alloc) | exact HK.out)) (KeepBut.of_below hb g none) (.inl rfl)); have n2_ := Aside0.mk (below_step (by repeat (first | (with_reducible first | exact HB.out | apply below_alloc | apply pw_below_drewN | apply below_drew1 | refine below_set ?_ (IsS70.ge HI0.out)) | exact HB.out)) hb); have n3_ := Aside0.mk (hbox); have n4_ := Aside0.mk ((by rw [hg]; exact (keep_size (w := w) (g := g) (row := none) (by repeat (first | (with_reducible first | exact HK.out | apply KeepBut.set_ | apply keep_drewN | apply keep_drew | apply keep_alloc) | exact HK.out))) : w.heap.size ≤ gb200)); have n5_ := Aside0.mk ((Nat.le_trans HW0.out (by rw [hg]; exact (keep_size (w := w) (g := g) (row := none) (by repeat (first | (with_reducible first | exact HK.out | apply KeepBut.set_ | apply keep_drewN | apply keep_drew | apply keep_alloc) | exact HK.out))) : w.heap.size ≤ gb200) : w0.heap.size ≤ gb200)); have n6_ := Aside0.mk ((by rw [hg]; exact Nat.ne_of_lt (IsS70.lt (show IsS70 w0 _ g s0_0 s0_1 s0_2 from by repeat (first | (with_reducible first | exact HI0.out | apply IsS70.alloc | apply IsS70.drewN | apply IsS70.drew | apply IsS70.set_1 | apply IsS70.set_2) | exact HI0.out))) : g ≠ gb200)); have n7_ := Aside0.mk ((by rw [hg]; exact Nat.ne_of_gt (IsS70.lt (show IsS70 w0 _ g s0_0 s0_1 s0_2 from by repeat (first | (with_reducible first | exact HI0.out | apply IsS70.alloc | apply IsS70.drewN | apply IsS70.drew | apply IsS70.set_1 | apply IsS70.set_2) | exact HI0.out))) : gb200 ≠ g)); clear HI0 HK HB; have HI0 := n0_; have HK := n1_; have HB := n2_; have BK200 := n3_; have GW200 := n4_; have GE200 := n5_; have NB0_200 := n6_; have NB200_0 := n7_; clear n0_ n1_ n2_ n3_ n4_ n5_ n6_ n7_; clear hb hbox hg) | ((with_reducible refine gate_callee (f := 51) rfl ?_); refine goesL_ (some 10) rfl rfl Try.func51 (by kernel_rfl) rfl #[.pointer (some ⟨g, 0, none⟩), .int .i64 a1] rfl sL_ ?_; (with_reducible refine (spec_l01Below.calls g s0_0 s0_1 s0_2 a1 t201 t202 t203 w0 _ ?side1 ?side2 A3.out).mono ?_); (case side1 => repeat (first | (with_reducible first | exact HI0.out | apply IsS70.alloc | apply IsS70.drewN | apply IsS70.drew | apply IsS70.set_1 | apply IsS70.set_2 | refine IsS70.far ?_ NB0_200.out _) | exact HI0.out)); (case side2 => repeat (first | (with_reducible first | exact HB.out | apply below_alloc | apply pw_below_drewN | apply below_drew1 | refine below_set ?_ (IsS70.ge HI0.out) | refine below_set ?_ GE200.out) | exact HB.out)); rintro e w8 ⟨rfl, hi, hb, hk⟩; refine ⟨_, rfl, ?_⟩; have n0_ := Aside0.mk (KeepBut.blk hk (g' := gb200) (o := .cells #[.int .i64 0, .int .i64 0, .slice none 0 0] 27 (0, 0)) (sB_ BK200.out) NB200_0.out (by simp)); have n1_ := Aside0.mk (KeepBut.trans (by repeat (first | (with_reducible first | exact HK.out | apply KeepBut.set_ | apply keep_drewN | apply keep_drew | apply keep_alloc | refine keep_far ?_ GW200.out _) | exact HK.out)) hk (.inl rfl)); have n2_ := Aside0.mk (hb); have n3_ := Aside0.mk (hi); clear BK200 HK HB HI0; have BK200 := n0_; have HK := n1_; have HB := n2_; have HI0 := n3_; clear n0_ n1_ n2_ n3_; (try clear hb); (try clear hb2); (try clear hk); (try clear hi)) | ((with_reducible refine gate_callee (f := 51) rfl ?_); refine goesL_ (some 14) rfl rfl Try.func51 (by kernel_rfl) rfl #[.pointer (some ⟨g, 0, none⟩), .int .i64 a1] rfl sL_ ?_; (with_reducible refine (spec_l01Below.calls g s0_0 t202 t203 a1 t204 t205 t206 w0 _ ?side1 ?side2 A4.out).mono ?_); (case side1 => repeat (first | (with_reducible first | exact HI0.out | apply IsS70.alloc | apply IsS70.drewN | apply IsS70.drew | apply IsS70.set_1 | apply IsS70.set_2 | refine IsS70.far ?_ NB0_200.out _) | exact HI0.out)); (case side2 => repeat (first | (with_reducible first | exact HB.out | apply below_alloc | apply pw_below_drewN | apply below_drew1 | refine below_set ?_ (IsS70.ge HI0.out) | refine below_set ?_ GE200.out) | exact HB.out)); rintro e w9 ⟨rfl, hi, hb, hk⟩; refine ⟨_, rfl, ?_⟩; have n0_ := Aside0.mk (KeepBut.blk hk (g' := gb200) (o := .cells #[.int .i64 0, .int .i64 0, .slice none 0 0] 27 (0, 0)) (sB_ BK200.out) NB200_0.out (by simp)); have n1_ := Aside0.mk (KeepBut.trans (by repeat (first | (with_reducible first | exact HK.out | apply KeepBut.set_ | apply keep_drewN | apply keep_drew | apply keep_alloc | refine keep_far ?_ GW200.out _) | exact HK.out)) hk (.inl rfl)); have n2_ := Aside0.mk (hb); have n3_ := Aside0.mk (hi); clear BK200 HK HB HI0; have BK200 := n0_; have HK := n1_; have HB := n2_; have HI0 := n3_; clear n0_ n1_ n2_ n3_; (try clear hb); (try clear hb2); (try clear hk); (try clear hi)) | ((with_reducible refine gate_callee (f := 42) rfl ?_); refine goesL_ (some 16) rfl rfl Try.func42 (by kernel_rfl) rfl #[.int .i64 (wrap64 (1 + t201)), .int .i64 (wrap64 (1 + t204))] rfl sL_ ?_; (with_reducible refine (spec_l1Empty.calls (wrap64 (1 + t201)) (wrap64 (1 + t204)) t207 t208 t209 _ A5.out).mono ?_); rintro e w10 ⟨v210, rfl, ho0, hb⟩; refine ⟨_, rfl, ?_⟩; have n0_ := Aside0.mk (Kd.R_lower ho0 (keep_size (w := w) (g := g) (row := none) (by repeat (first | (with_reducible first | exact HK.out | apply KeepBut.set_ | apply keep_drewN | apply keep_drew | apply keep_alloc | refine keep_far ?_ GW200.out _) | exact HK.out)))); have n1_ := Aside0.mk (IsS70.below (by repeat (first | (with_reducible first | exact HI0.out | apply IsS70.alloc | apply IsS70.drewN | apply IsS70.drew | apply IsS70.set_1 | apply IsS70.set_2 | refine IsS70.far ?_ NB0_200.out _) | exact HI0.out)) hb); have n2_ := Aside0.mk (blk_below (sB_ BK200.out) hb); have n3_ := Aside0.mk (KeepBut.trans (by repeat (first | (with_reducible first | exact HK.out | apply KeepBut.set_ | apply keep_drewN | apply keep_drew | apply keep_alloc | refine keep_far ?_ GW200.out _) | exact HK.out)) (KeepBut.of_below hb g none) (.inl rfl)); have n4_ := Aside0.mk (below_step (by repeat (first | (with_reducible first | exact HB.out | apply below_alloc | apply pw_below_drewN | apply below_drew1 | refine below_set ?_ (IsS70.ge HI0.out) | refine below_set ?_ GE200.out) | exact HB.out)) hb); clear HI0 BK200 HK HB; have HO211 := n0_; have HI0 := n1_; have BK200 := n2_; have HK := n3_; have HB := n4_; clear n0_ n1_ n2_ n3_ n4_; (try clear hb); (try clear hb2); (try clear hk); (try clear hi); (try clear ho0)) | ((with_reducible refine gate_dst (N := 5) rfl ?_); refine box_event ?hg (N := 5) ?hd (cs := #[.int .i64 0, .int .i64 0, .slice none 0 0]) (t := 27) ?hr ?_; (case hd => rfl); (case hg => rfl); (case hr => first | (go_simp; done) | (go_simp; rfl)); intro gb212 hg w11 hbox hb; have n0_ := Aside0.mk (Kd.R_below (sR_ HO211.out) hb); have n1_ := Aside0.mk (IsS70.below (by repeat (first | (with_reducible first | exact HI0.out | apply IsS70.alloc | apply IsS70.drewN | apply IsS70.drew | apply IsS70.set_1 | apply IsS70.set_2 | refine IsS70.far ?_ NB0_200.out _) | exact HI0.out)) hb); have n2_ := Aside0.mk (blk_below (sB_ BK200.out) hb); have n3_ := Aside0.mk (KeepBut.trans (by repeat (first | (with_reducible first | exact HK.out | apply KeepBut.set_ | apply keep_drewN | apply keep_drew | apply keep_alloc | refine keep_far ?_ GW200.out _) | exact HK.out)) (KeepBut.of_below hb g none) (.inl rfl)); have n4_ := Aside0.mk (below_step (by repeat (first | (with_reducible first | exact HB.out | apply below_alloc | apply pw_below_drewN | apply below_drew1 | refine below_set ?_ (IsS70.ge HI0.out) | refine below_set ?_ GE200.out) | exact HB.out)) hb); have n5_ := Aside0.mk (hbox); have n6_ := Aside0.mk ((by rw [hg]; exact (keep_size (w := w) (g := g) (row := none) (by repeat (first | (with_reducible first | exact HK.out | apply KeepBut.set_ | apply keep_drewN | apply keep_drew | apply keep_alloc | refine keep_far ?_ GW200.out _) | exact HK.out))) : w.heap.size ≤ gb212)); have n7_ := Aside0.mk ((Nat.le_trans HW0.out (by rw [hg]; exact (keep_size (w := w) (g := g) (row := none) (by repeat (first | (with_reducible first | exact HK.out | apply KeepBut.set_ | apply keep_drewN | apply keep_drew | apply keep_alloc | refine keep_far ?_ GW200.out _) | exact HK.out))) : w.heap.size ≤ gb212) : w0.heap.size ≤ gb212)); have n8_ := Aside0.mk (sN_ hg (blk_lt (sB_ BK200.out))); have n9_ := Aside0.mk n8_.out.symm; have n10_ := Aside0.mk ((by rw [hg]; exact Nat.ne_of_lt (IsS70.lt (show IsS70 w0 _ g s0_0 t205 t206 from by repeat (first | (with_reducible first | exact HI0.out | apply IsS70.alloc | apply IsS70.drewN | apply IsS70.drew | apply IsS70.set_1 | apply IsS70.set_2 | refine IsS70.far ?_ NB0_200.out _) | exact HI0.out))) : g ≠ gb212)); have n11_ := Aside0.mk ((by rw [hg]; exact Nat.ne_of_gt (IsS70.lt (show IsS70 w0 _ g s0_0 t205 t206 from by repeat (first | (with_reducible first | exact HI0.out | apply IsS70.alloc | apply IsS70.drewN | apply IsS70.drew | apply IsS70.set_1 | apply IsS70.set_2 | refine IsS70.far ?_ NB0_200.out _) | exact HI0.out))) : gb212 ≠ g)); clear HO211 HI0 BK200 HK HB; have HO211 := n0_; have HI0 := n1_; have BK200 := n2_; have HK := n3_; have HB := n4_; have BK212 := n5_; have GW212 := n6_; have GE212 := n7_; have NB200_212 := n8_; have NB212_200 := n9_; have NB0_212 := n10_; have NB212_0 := n11_; clear n0_ n1_ n2_ n3_ n4_ n5_ n6_ n7_ n8_ n9_ n10_ n11_; clear hb hbox hg; have hnb12 := NB212_200.out; have hnc12 := NB200_212.out; have hnb13 := NB212_0.out; have hnc13 := NB0_212.out; obtain ⟨hcz14_0, hcz14_1, hcz14_2, hfz14_0, hfz14_1, hfz14_2⟩ := sZ_ BK212.out; obtain ⟨Ao15, co15, eo15⟩ := Kd.R_slice HO211.out; subst eo15) | ((with_reducible refine gate_callee (f := 51) rfl ?_); refine goesL_ (some 18) rfl rfl Try.func51 (by kernel_rfl) rfl #[.pointer (some ⟨g, 0, none⟩), .int .i64 4] rfl sL_ ?_; (with_reducible refine (spec_l01Below.calls g s0_0 t205 t206 4 t213 t214 t215 w0 _ ?side1 ?side2 A6.out).mono ?_); (case side1 => repeat (first | (with_reducible first | exact HI0.out | apply IsS70.alloc | apply IsS70.drewN | apply IsS70.drew | apply IsS70.set_1 | apply IsS70.set_2 | refine IsS70.far ?_ NB0_200.out _ | refine IsS70.far ?_ NB0_212.out _) | exact HI0.out)); (case side2 => repeat (first | (with_reducible first | exact HB.out | apply below_alloc | apply pw_below_drewN | apply below_drew1 | refine below_set ?_ (IsS70.ge HI0.out) | refine below_set ?_ GE200.out | refine below_set ?_ GE212.out) | exact HB.out)); rintro e w16 ⟨rfl, hi, hb, hk⟩; refine ⟨_, rfl, ?_⟩; have n0_ := Aside0.mk (KeepBut.blk hk (g' := gb200) (o := .cells #[.int .i64 0, .int .i64 0, .slice none 0 0] 27 (0, 0)) (by refine sB_ ?_; refine blk_far ?_ NB200_212.out _; refine sB_ ?_; refine blk_far ?_ NB200_212.out _; refine sB_ ?_; refine blk_far ?_ NB200_212.out _; refine sB_ ?_; exact BK200.out) NB200_0.out (by simp)); have n1_ := Aside0.mk (Kd.R_mono (Kd.R_keep (IsS70.apart (show IsS70 w0 _ g s0_0 t205 t206 from by repeat (first | (with_reducible first | exact HI0.out | apply IsS70.alloc | apply IsS70.drewN | apply IsS70.drew | apply IsS70.set_1 | apply IsS70.set_2 | refine IsS70.far ?_ NB0_200.out _ | refine IsS70.far ?_ NB0_212.out _) | exact HI0.out)) (by (with_reducible repeat (first | apply Kd.R_alloc | apply Kd.R_drewN | apply Kd.R_drew)); exact (sF_ HO211.out BK212.out (by decide))) (by decide)) hk (fun _ h => h.2)) (fun _ h => h.1)); have n2_ := Aside0.mk (KeepBut.blk hk (g' := gb212) (o := .cells #[.int .i64 t207, .int .i64 t208, .slice Ao15 t209.length co15] 27 (0, 0)) (by refine sB_ ?_; refine blk_put (cs := #[.int .i64 t207, .int .i64 t208, .slice none 0 0]) ?_ 2 _ rfl; refine sB_ ?_; refine blk_put (cs := #[.int .i64 t207, .int .i64 0, .slice none 0 0]) ?_ 1 _ rfl; refine sB_ ?_; refine blk_put (cs := #[.int .i64 0, .int .i64 0, .slice none 0 0]) ?_ 0 _ rfl; refine sB_ ?_; exact BK212.out) NB212_0.out (by simp)); have n3_ := Aside0.mk (KeepBut.trans (by repeat (first | (with_reducible first | exact HK.out | apply KeepBut.set_ | apply keep_drewN | apply keep_drew | apply keep_alloc | refine keep_far ?_ GW200.out _ | refine keep_far ?_ GW212.out _) | exact HK.out)) hk (.inl rfl)); have n4_ := Aside0.mk (hb); have n5_ := Aside0.mk (hi); clear BK200 HO211 BK212 HK HB HI0; have BK200 := n0_; have HO211 := n1_; have BK212 := n2_; have HK := n3_; have HB := n4_; have HI0 := n5_; clear n0_ n1_ n2_ n3_ n4_ n5_; (try clear hb); (try clear hb2); (try clear hk); (try clear hi); obtain ⟨hcz17_0, hcz17_1, hcz17_2, hfz17_0, hfz17_1, hfz17_2⟩ := sZ_ BK212.out))
 go_loopg [22] k (fun kq v22 w' => ∃ (x22_1 : Int) (x1001_1 : Int) (x1002_1 : Int) (x213002_1 : List Int) (u213002 : Value), v22 = .int .i64 x22_1 ∧ Aside0 (spec_l1Draw.l0 kq t213 (t209.length : Int) x22_1 s0_0 x1001_1 x1002_1 t207 t208 x213002_1 = some (r1, r2, r3, r4, r5)) ∧ Aside0 (kq ≤ k) ∧ Aside0 (Kd.R (Kd.int .i64) 3 w' w.heap.size (fun _ => True) u213002 x213002_1) ∧ Aside0 (w'.heap[gb200]? = some (.cells #[.int .i64 0, .int .i64 0, (.slice none 0 0)] 27 (0, 0))) ∧ Aside0 (w'.heap[gb212]? = some (.cells #[.int .i64 t207, .int .i64 t208, u213002] 27 (0, 0))) ∧ Aside0 (IsS70 w0 w' g s0_0 x1001_1 x1002_1) ∧ Aside0 (KeepBut w w' g none) ∧ Aside0 (Below w0.heap.size w0 w'))
 case atStart => exact ⟨(0), (t214), (t215), (t209), (.slice Ao15 t209.length co15), (by first | rfl | (simp; done) | (simp [*]; done)), H', ⟨Nat.le_refl _⟩, ⟨by (with_reducible repeat (first | apply Kd.R_alloc | apply Kd.R_drewN | apply Kd.R_drew)); exact HO211.out⟩, ⟨by refine sB_ ?_; exact BK200.out⟩, ⟨by refine sB_ ?_; exact BK212.out⟩, ⟨by repeat (first | (with_reducible first | exact HI0.out | apply IsS70.alloc | apply IsS70.drewN | apply IsS70.drew | apply IsS70.set_1 | apply IsS70.set_2 | refine IsS70.far ?_ NB0_200.out _ | refine IsS70.far ?_ NB0_212.out _) | exact HI0.out)⟩, ⟨by repeat (first | (with_reducible first | exact HK.out | apply KeepBut.set_ | apply keep_drewN | apply keep_drew | apply keep_alloc | refine keep_far ?_ GW200.out _ | refine keep_far ?_ GW212.out _) | exact HK.out)⟩, ⟨by repeat (first | (with_reducible first | exact HB.out | apply below_alloc | apply pw_below_drewN | apply below_drew1 | refine below_set ?_ (IsS70.ge HI0.out) | refine below_set ?_ GE200.out | refine below_set ?_ GE212.out) | exact HB.out)⟩⟩
 case round =>
  clear H'
  try clear c1
  try clear p2
  try clear c3
  try clear c4
  try clear c5
  try clear p6
  try clear c12
  try clear c13
  try clear hcz14_0
  try clear hcz14_1
  try clear hcz14_2
  try clear hcz17_0
  try clear hcz17_1
  try clear hcz17_2
  try clear hfz14_0
  try clear hfz14_1
  try clear hfz14_2
  try clear hfz17_0
  try clear hfz17_1
  try clear hfz17_2
  obtain ⟨x22_1, x1001_1, x1002_1, x213002_1, u213002, rfl, HA, HK1, HO_213002, BK200, BK212, HI0, HK, HB⟩ := hrel
  cases gk with
  | zero => exact absurd HA.out (by simp [spec_l1Draw.l0])
  | succ k1 =>
   have H := HA.out; clear HA
   simp only [spec_l1Draw.l0] at H
   by_cases c18 : x22_1 < (t209.length : Int)
   ·rw [if_pos c18] at H
    have c18b0 : decide (x22_1 < (t209.length : Int)) = true := decide_eq_true c18
    clear c18
    by_cases c19 : t213 = 0
    ·rw [if_pos c19] at H
     have c19b0 : (t213 == 0) = true := beq_iff_eq.mpr c19
     have c19b1 : (t213 != 0) = false := bne_eq_false_iff_eq.mpr c19
     clear c19
     replace H := Option.bind_eq_some_iff.mp H
     obtain ⟨⟨t216, t217, t218⟩, A200, H⟩ := H
     replace H : (if 0 ≤ x22_1 then (if x22_1 < (x213002_1.length : Int) then (spec_l1Draw.l0 k1 t213 (t209.length : Int) (wrap64 (x22_1 + 1)) s0_0 t217 t218 t207 t208 (x213002_1.set (x22_1 : Int).toNat t216)) else (none)) else (none)) = some (r1, r2, r3, r4, r5) := H
     have A20 := Aside0.mk A200
     clear A200
     by_cases c21 : 0 ≤ x22_1
     ·rw [if_pos c21] at H
      have c21b0 : decide (0 ≤ x22_1) = true := decide_eq_true c21
      clear c21
      by_cases c22 : x22_1 < (x213002_1.length : Int)
      ·rw [if_pos c22] at H
       have c22b0 : decide (x22_1 < (x213002_1.length : Int)) = true := decide_eq_true c22
       clear c22
       obtain ⟨y219, hy219⟩ : ∃ y_ : List Int, y_ = (x213002_1.set (x22_1 : Int).toNat t216) := ⟨_, rfl⟩
       replace H : (spec_l1Draw.l0 k1 t213 (t209.length : Int) (wrap64 (x22_1 + 1)) s0_0 t217 t218 t207 t208 y219) = some (r1, r2, r3, r4, r5) := by first | (rw [hy219]; with_reducible exact H) | (have H2_ := (Option.bind_some _ _).symm.trans H; rw [hy219]; with_reducible exact H2_) | (have H2_ := (Option.bind_some _ _).symm.trans H; with_reducible exact H2_) | with_reducible exact H | (rw [hy219]; exact H) | exact H
       have Ny219 := Aside0.mk hy219
       clear hy219
       have H' := Aside0.mk H
       clear H
       try go_wp2
       have n0_ := Aside0.mk (Kd.R_drew HO_213002.out)
       have n1_ := Aside0.mk (blk_drew BK200.out)
       have n2_ := Aside0.mk (blk_drew BK212.out)
       have n3_ := Aside0.mk (IsS70.drew HI0.out)
       have n4_ := Aside0.mk (keep_drew HK.out)
       have n5_ := Aside0.mk (below_drew1 HB.out)
       clear HO_213002 BK200 BK212 HI0 HK HB; have HO_213002 := n0_; have BK200 := n1_; have BK212 := n2_; have HI0 := n3_; have HK := n4_; have HB := n5_; clear n0_ n1_ n2_ n3_ n4_ n5_
       refine start_ (n := 7) (S := fun w' => w'.cell? ⟨gb212, 0, none⟩ = some (.int .i64 t207) ∧ w'.cell? ⟨gb212, 1, none⟩ = some (.int .i64 t208) ∧ w'.cell? ⟨gb212, 2, none⟩ = some (u213002)) (ds := [6]) #[false, false, false, false, false, false, false] (by kernel_rfl) rfl rfl ⟨(blk_cell BK212.out 0).trans rfl, (blk_cell BK212.out 1).trans rfl, (blk_cell BK212.out 2).trans rfl⟩ (fun hHeld => ?_)
       generalize wr.drew = w24 at HO_213002 BK200 BK212 HI0 HK HB hHeld ⊢
       refine pure_ (i := 0) (N := some 42) (v := ?_) (a' := ?_) #[true, false, false, false, false, false, false] rfl rfl (by kernel_rfl) (fun _ _ _ h => h) (Or.inl ⟨by rfl, ?_⟩) ?_ ?_
       rotate_left
       ·intro w'
        go_simp
        with_reducible rfl
       rotate_left
       ·simp only [Act.put, List.setIfInBounds_toArray, List.set_cons_zero, List.set_cons_succ, i64_w, i32_w]
        rfl
       refine pure_ (i := 2) (N := some 44) (v := ?_) (a' := ?_) #[true, false, true, false, false, false, false] rfl rfl (by kernel_rfl) (fun _ _ _ h => h) (Or.inl ⟨by rfl, ?_⟩) ?_ ?_
       rotate_left
       ·intro w'
        go_simp
        with_reducible rfl
       rotate_left
       ·simp only [Act.put, List.setIfInBounds_toArray, List.set_cons_zero, List.set_cons_succ, i64_w, i32_w]
        rfl
       refine pure_ (i := 3) (N := some 45) (v := ?_) (a' := ?_) #[true, false, true, true, false, false, false] rfl rfl (by kernel_rfl) (fun _ _ _ h => h) (Or.inl ⟨by rfl, ?_⟩) ?_ ?_
       rotate_left
       ·intro w'
        go_simp
        with_reducible rfl
       rotate_left
       ·simp only [Act.put, List.setIfInBounds_toArray, List.set_cons_zero, List.set_cons_succ, i64_w, i32_w]
        rfl
       refine take_ (i := 1) (N := some 43) (v := ?_) (a' := ?_) #[true, true, true, true, false, false, false] rfl rfl (by kernel_rfl) (fun _ _ _ h => h) (Or.inl ⟨by rfl, ?_⟩) hHeld ?_ ?_
       rotate_left
       ·rintro w' ⟨s0, s1, s2⟩
        go_simp
        with_reducible rfl
       rotate_left
       ·simp only [Act.put, List.setIfInBounds_toArray, List.set_cons_zero, List.set_cons_succ, i64_w, i32_w]
        rfl
       refine one_ (i := 4) (N := some 46) #[true, true, true, true, true, false, false] rfl rfl (by kernel_rfl) (by decide) (fun K hK => ?_)
       refine goes_ Try.func51 (by kernel_rfl) rfl #[.pointer (some ⟨g, 0, none⟩), .int .i64 256] (by rfl) rfl rfl sL_ ?_
       with_reducible refine (spec_l01Below.calls g s0_0 x1001_1 x1002_1 256 t216 t217 t218 w0 _ ?side1 ?side2 A20.out).mono ?_
       (case side1 => repeat (first | (with_reducible first | exact HI0.out | apply IsS70.alloc | apply IsS70.drewN | apply IsS70.drew | apply IsS70.set_1 | apply IsS70.set_2 | refine IsS70.far ?_ NB0_200.out _ | refine IsS70.far ?_ NB0_212.out _) | exact HI0.out))
       (case side2 => repeat (first | (with_reducible first | exact HB.out | apply below_alloc | apply pw_below_drewN | apply below_drew1 | refine below_set ?_ (IsS70.ge HI0.out) | refine below_set ?_ GE200.out | refine below_set ?_ GE212.out) | exact HB.out))
       rintro e w25 ⟨rfl, hi, hb, hk⟩
       refine ⟨_, rfl, ?_⟩
       have n0_ := Aside0.mk (Kd.R_mono (Kd.R_keep (IsS70.apart (show IsS70 w0 _ g s0_0 x1001_1 x1002_1 from by repeat (first | (with_reducible first | exact HI0.out | apply IsS70.alloc | apply IsS70.drewN | apply IsS70.drew | apply IsS70.set_1 | apply IsS70.set_2 | refine IsS70.far ?_ NB0_200.out _ | refine IsS70.far ?_ NB0_212.out _) | exact HI0.out)) (sR_ HO_213002.out) (by decide)) hk (fun _ h => h.2)) (fun _ h => h.1))
       have n1_ := Aside0.mk (KeepBut.blk hk (g' := gb200) (o := .cells #[.int .i64 0, .int .i64 0, .slice none 0 0] 27 (0, 0)) (sB_ BK200.out) NB200_0.out (by simp))
       have n2_ := Aside0.mk (KeepBut.blk hk (g' := gb212) (o := .cells #[.int .i64 t207, .int .i64 t208, u213002] 27 (0, 0)) (sB_ BK212.out) NB212_0.out (by simp))
       have n3_ := Aside0.mk (KeepBut.trans (by repeat (first | (with_reducible first | exact HK.out | apply KeepBut.set_ | apply keep_drewN | apply keep_drew | apply keep_alloc | refine keep_far ?_ GW200.out _ | refine keep_far ?_ GW212.out _) | exact HK.out)) hk (.inl rfl))
       have n4_ := Aside0.mk (hb)
       have n5_ := Aside0.mk (hi)
       clear HO_213002 BK200 BK212 HK HB HI0; have HO_213002 := n0_; have BK200 := n1_; have BK212 := n2_; have HK := n3_; have HB := n4_; have HI0 := n5_; clear n0_ n1_ n2_ n3_ n4_ n5_
       (try clear hb)
       (try clear hb2)
       (try clear hk)
       (try clear hi)
       have p23 : 0 ≤ (x22_1 : Int) := of_decide_eq_true (by first | (with_reducible assumption) | assumption)
       have q23 : (x22_1 : Int) < ((x213002_1.length : Int) : Int) := of_decide_eq_true (by first | (with_reducible assumption) | assumption)
       obtain ⟨go23, co23, eo23, gb23, gl23, cl23, HG23⟩ := Kd.R_form HO_213002.out (by omega)
       (first | cases eo23 | (injection eo23 with ea_ en_ ec_; (first | subst ea_ | (injection ea_ with ea_; subst ea_)); subst ec_; clear en_))
       have GB23 := Aside0.mk gb23
       have GG23 := Aside0.mk HG23
       clear gb23 gl23 HG23
       obtain ⟨hx23_0, hf23_0⟩ := Kd.R_celln 0 HO_213002.out (x22_1 : Int) p23 q23
       replace p23 := eq_true p23
       replace q23 := eq_true q23
       have HN0_go23 := Aside0.mk (show g ≠ go23 from by have h_ := IsS70.own_ne HI0.out HO_213002.out (by decide); intro e_; exact h_ (by rw [e_]; rfl))
       have HP26 := Kd.R_putn HO_213002.out (x22_1 : Int) t216
       rw [← Ny219.out] at HP26
       have HQ26 := Aside0.mk HP26
       clear HP26
       refine hK.out _ _ ⟨(blk_cell BK212.out 0).trans rfl, (blk_cell BK212.out 1).trans rfl, (blk_cell BK212.out 2).trans rfl⟩ (fun hHeld => ?_)
       clear hK K
       refine norm_ (a' := ?_) ?_ ?_
       rotate_left
       ·show Act.put _ (some 46) _ = _
        simp only [Act.put, List.setIfInBounds_toArray, List.set_cons_zero, List.set_cons_succ, i64_w, i32_w]
        rfl
       refine pure_ (i := 5) (N := some 47) (v := ?_) (a' := ?_) #[true, true, true, true, true, true, false] rfl rfl (by kernel_rfl) (fun _ _ _ h => h) (Or.inl ⟨by rfl, ?_⟩) ?_ ?_
       rotate_left
       ·intro w'
        go_simp
        with_reducible rfl
       rotate_left
       ·simp only [Act.put, List.setIfInBounds_toArray, List.set_cons_zero, List.set_cons_succ, i64_w, i32_w]
        rfl
       refine last_ (i := 6) (N := none) #[true, true, true, true, true, true, true] rfl rfl (by kernel_rfl) (by decide) (fun K hK => ?_)
       refine skip_ (w1 := ?_) (by rfl) rfl ?_ ?_
       rotate_left
       ·go_simp
        rfl
       refine hK.out _ _ ?_
       clear hK K
       refine done_ (by kernel_rfl) ?_
       try go_wp2
       go_roundg k1
       case measure => have := HK1.out; omega
       case rel => exact ⟨(wrap64 (x22_1 + 1)), (t217), (t218), (y219), (.slice (some ⟨go23, 0, none⟩) x213002_1.length co23), (by first | rfl | (simp; done) | (simp [*]; done)), H', ⟨by have := HK1.out; omega⟩, ⟨by (with_reducible repeat (first | apply Kd.R_alloc | apply Kd.R_drewN | apply Kd.R_drew)); exact HQ26.out⟩, ⟨by refine sB_ ?_; refine blk_far ?_ (by have h_ := Kd.R_ne HO_213002.out BK200.out (by decide); intro e_; exact h_ (by rw [e_]; rfl)) _; refine sB_ ?_; exact BK200.out⟩, ⟨by refine sB_ ?_; refine blk_far ?_ (by have h_ := Kd.R_ne HO_213002.out BK212.out (by decide); intro e_; exact h_ (by rw [e_]; rfl)) _; refine sB_ ?_; exact BK212.out⟩, ⟨by repeat (first | (with_reducible first | exact HI0.out | apply IsS70.alloc | apply IsS70.drewN | apply IsS70.drew | apply IsS70.set_1 | apply IsS70.set_2 | refine IsS70.far ?_ HN0_go23.out _ | refine IsS70.far ?_ NB0_200.out _ | refine IsS70.far ?_ NB0_212.out _) | exact HI0.out)⟩, ⟨by repeat (first | (with_reducible first | exact HK.out | apply KeepBut.set_ | apply keep_drewN | apply keep_drew | apply keep_alloc | refine keep_far ?_ GB23.out _ | refine keep_far ?_ GW200.out _ | refine keep_far ?_ GW212.out _) | exact HK.out)⟩, ⟨by repeat (first | (with_reducible first | exact HB.out | apply below_alloc | apply pw_below_drewN | apply below_drew1 | refine below_set ?_ (Nat.le_trans HL.out GB23.out) | refine below_set ?_ (IsS70.ge HI0.out) | refine below_set ?_ GE200.out | refine below_set ?_ GE212.out) | exact HB.out)⟩⟩
      rw [if_neg c22] at H
      exact absurd H (by simp)
     rw [if_neg c21] at H
     exact absurd H (by simp)
    rw [if_neg c19] at H
    have c19b0 : (t213 == 0) = false := beq_eq_false_iff_ne.mpr c19
    have c19b1 : (t213 != 0) = true := bne_iff_ne.mpr c19
    by_cases c27 : t213 = 1
    ·rw [if_pos c27] at H
     have c27b0 : (t213 == 1) = true := beq_iff_eq.mpr c27
     have c27b1 : (t213 != 1) = false := bne_eq_false_iff_eq.mpr c27
     clear c27
     obtain ⟨y220, hy220⟩ : ∃ y_ : List Int, y_ = (([0, 255, 128, 127, 1, 254] : List Int)) := ⟨_, rfl⟩
     replace H : ((spec_l01Int.f s0_0 x1001_1 x1002_1 y220).bind fun bt223 => (if 0 ≤ x22_1 then (if x22_1 < (x213002_1.length : Int) then (spec_l1Draw.l0 k1 t213 (t209.length : Int) (wrap64 (x22_1 + 1)) s0_0 bt223.2.1 bt223.2.2 t207 t208 (x213002_1.set (x22_1 : Int).toNat bt223.1)) else (none)) else (none))) = some (r1, r2, r3, r4, r5) := by first | (rw [hy220]; with_reducible exact H) | (have H2_ := (Option.bind_some _ _).symm.trans H; rw [hy220]; with_reducible exact H2_) | (have H2_ := (Option.bind_some _ _).symm.trans H; with_reducible exact H2_) | with_reducible exact H | (rw [hy220]; exact H) | exact H
     have Ny220 := Aside0.mk hy220
     clear hy220
     replace H := Option.bind_eq_some_iff.mp H
     obtain ⟨⟨t223, t224, t225⟩, A280, H⟩ := H
     replace H : (if 0 ≤ x22_1 then (if x22_1 < (x213002_1.length : Int) then (spec_l1Draw.l0 k1 t213 (t209.length : Int) (wrap64 (x22_1 + 1)) s0_0 t224 t225 t207 t208 (x213002_1.set (x22_1 : Int).toNat t223)) else (none)) else (none)) = some (r1, r2, r3, r4, r5) := H
     have A28 := Aside0.mk A280
     clear A280
     by_cases c29 : 0 ≤ x22_1
     ·rw [if_pos c29] at H
      have c29b0 : decide (0 ≤ x22_1) = true := decide_eq_true c29
      clear c29
      by_cases c30 : x22_1 < (x213002_1.length : Int)
      ·rw [if_pos c30] at H
       have c30b0 : decide (x22_1 < (x213002_1.length : Int)) = true := decide_eq_true c30
       clear c30
       obtain ⟨y226, hy226⟩ : ∃ y_ : List Int, y_ = (x213002_1.set (x22_1 : Int).toNat t223) := ⟨_, rfl⟩
       replace H : (spec_l1Draw.l0 k1 t213 (t209.length : Int) (wrap64 (x22_1 + 1)) s0_0 t224 t225 t207 t208 y226) = some (r1, r2, r3, r4, r5) := by first | (rw [hy226]; with_reducible exact H) | (have H2_ := (Option.bind_some _ _).symm.trans H; rw [hy226]; with_reducible exact H2_) | (have H2_ := (Option.bind_some _ _).symm.trans H; with_reducible exact H2_) | with_reducible exact H | (rw [hy226]; exact H) | exact H
       have Ny226 := Aside0.mk hy226
       clear hy226
       have H' := Aside0.mk H
       clear H
       try go_wp2
       have n0_ := Aside0.mk (Kd.R_drew HO_213002.out)
       have n1_ := Aside0.mk (blk_drew BK200.out)
       have n2_ := Aside0.mk (blk_drew BK212.out)
       have n3_ := Aside0.mk (IsS70.drew HI0.out)
       have n4_ := Aside0.mk (keep_drew HK.out)
       have n5_ := Aside0.mk (below_drew1 HB.out)
       clear HO_213002 BK200 BK212 HI0 HK HB; have HO_213002 := n0_; have BK200 := n1_; have BK212 := n2_; have HI0 := n3_; have HK := n4_; have HB := n5_; clear n0_ n1_ n2_ n3_ n4_ n5_
       refine start_ (n := 8) (S := fun w' => w'.cell? ⟨gb212, 0, none⟩ = some (.int .i64 t207) ∧ w'.cell? ⟨gb212, 1, none⟩ = some (.int .i64 t208) ∧ w'.cell? ⟨gb212, 2, none⟩ = some (u213002)) (ds := [7]) #[false, false, false, false, false, false, false, false] (by kernel_rfl) rfl rfl ⟨(blk_cell BK212.out 0).trans rfl, (blk_cell BK212.out 1).trans rfl, (blk_cell BK212.out 2).trans rfl⟩ (fun hHeld => ?_); refine with_tabW spec_l1Draw.tab11 spec_l1Draw.bits11 (fun HT_ HW_ => ?_)
       generalize wr.drew = w32 at HO_213002 BK200 BK212 HI0 HK HB hHeld ⊢
       refine pure_ (i := 0) (N := some 50) (v := ?_) (a' := ?_) #[true, false, false, false, false, false, false, false] rfl rfl (any_of HT_.out (by kernel_rfl)) (fun _ _ _ h => h) (Or.inl ⟨by rfl, ?_⟩) ?_ ?_
       rotate_left
       ·intro w'
        go_simp
        with_reducible rfl
       rotate_left
       ·simp only [Act.put, List.setIfInBounds_toArray, List.set_cons_zero, List.set_cons_succ, i64_w, i32_w]
        rfl
       refine pure_ (i := 2) (N := some 52) (v := ?_) (a' := ?_) #[true, false, true, false, false, false, false, false] rfl rfl (any_of HT_.out (by kernel_rfl)) (fun _ _ _ h => h) (Or.inl ⟨by rfl, ?_⟩) ?_ ?_
       rotate_left
       ·intro w'
        go_simp
        with_reducible rfl
       rotate_left
       ·simp only [Act.put, List.setIfInBounds_toArray, List.set_cons_zero, List.set_cons_succ, i64_w, i32_w]
        rfl
       refine pure_ (i := 3) (N := some 53) (v := ?_) (a' := ?_) #[true, false, true, true, false, false, false, false] rfl rfl (any_of HT_.out (by kernel_rfl)) (fun _ _ _ h => h) (Or.inl ⟨by rfl, ?_⟩) ?_ ?_
       rotate_left
       ·intro w'
        go_simp
        with_reducible rfl
       rotate_left
       ·simp only [Act.put, List.setIfInBounds_toArray, List.set_cons_zero, List.set_cons_succ, i64_w, i32_w]
        rfl
       refine take_ (i := 1) (N := some 51) (v := ?_) (a' := ?_) #[true, true, true, true, false, false, false, false] rfl rfl (take_ofW HT_.out HW_.out (by kernel_rfl)) (fun _ _ _ h => h) (Or.inl ⟨by rfl, ?_⟩) hHeld ?_ ?_
       rotate_left
       ·rintro w' ⟨s0, s1, s2⟩
        go_simp
        with_reducible rfl
       rotate_left
       ·simp only [Act.put, List.setIfInBounds_toArray, List.set_cons_zero, List.set_cons_succ, i64_w, i32_w]
        rfl
       refine one_ (i := 4) (N := some 54) #[true, true, true, true, true, false, false, false] rfl rfl (one_of HT_.out (by kernel_rfl)) (by decide) (fun K hK => ?_)
       refine Kd.R_lit_step (Kd.int .i64) _ 3 ?hg (N := 54) ?hd (xs := ([0, 255, 128, 127, 1, 254] : List Int)) (inner := [.int .i64 0, .int .i64 255, .int .i64 128, .int .i64 127, .int .i64 1, .int .i64 254]) (ok := fun _ => True) (okp := fun _ => True) ?hr ?hp (fun _ hk => hk) trivial (Below.refl _ _) (Nat.le_refl _) (by simp) ?_; (case hd => rfl); (case hg => rfl); (case hr => first | (go_simp; done) | (go_simp; rfl)); (case hp => exact (Reps.one (show Kd.M (Kd.int .i64) _ _ _ 0 [.int .i64 0] from rfl) (Reps.one (show Kd.M (Kd.int .i64) _ _ _ 255 [.int .i64 255] from rfl) (Reps.one (show Kd.M (Kd.int .i64) _ _ _ 128 [.int .i64 128] from rfl) (Reps.one (show Kd.M (Kd.int .i64) _ _ _ 127 [.int .i64 127] from rfl) (Reps.one (show Kd.M (Kd.int .i64) _ _ _ 1 [.int .i64 1] from rfl) (Reps.one (show Kd.M (Kd.int .i64) _ _ _ 254 [.int .i64 254] from rfl) (Reps.none _ _))))))))
       intro v221 w33 ho34 hb hg_ hnew_
       clear hg_ hnew_
       (first | rw [← Ny220.out] at ho34 | (simp only [Int.reduceToNat] at ho34; rw [← Ny220.out] at ho34))
       have n0_ := Aside0.mk (Kd.R_elder' (sR_ HO_213002.out) (Kd.R_base ho34) hb)
       have n1_ := Aside0.mk (Kd.R_lower (Kd.R_new' ho34 (Kd.R_lt (sR_ HO_213002.out))) (keep_size (w := w) (g := g) (row := none) (by repeat (first | (with_reducible first | exact HK.out | apply KeepBut.set_ | apply keep_drewN | apply keep_drew | apply keep_alloc | refine keep_far ?_ GW200.out _ | refine keep_far ?_ GW212.out _) | exact HK.out))))
       have n2_ := Aside0.mk (blk_below (sB_ BK200.out) hb)
       have n3_ := Aside0.mk (blk_below (sB_ BK212.out) hb)
       have n4_ := Aside0.mk (IsS70.below (by repeat (first | (with_reducible first | exact HI0.out | apply IsS70.alloc | apply IsS70.drewN | apply IsS70.drew | apply IsS70.set_1 | apply IsS70.set_2 | refine IsS70.far ?_ NB0_200.out _ | refine IsS70.far ?_ NB0_212.out _) | exact HI0.out)) hb)
       have n5_ := Aside0.mk (KeepBut.trans (by repeat (first | (with_reducible first | exact HK.out | apply KeepBut.set_ | apply keep_drewN | apply keep_drew | apply keep_alloc | refine keep_far ?_ GW200.out _ | refine keep_far ?_ GW212.out _) | exact HK.out)) (KeepBut.of_below hb g none) (.inl rfl))
       have n6_ := Aside0.mk (below_step (by repeat (first | (with_reducible first | exact HB.out | apply below_alloc | apply pw_below_drewN | apply below_drew1 | refine below_set ?_ (IsS70.ge HI0.out) | refine below_set ?_ GE200.out | refine below_set ?_ GE212.out) | exact HB.out)) hb)
       clear HO_213002 BK200 BK212 HI0 HK HB; have HO_213002 := n0_; have HO222 := n1_; have BK200 := n2_; have BK212 := n3_; have HI0 := n4_; have HK := n5_; have HB := n6_; clear n0_ n1_ n2_ n3_ n4_ n5_ n6_ hb ho34
       obtain ⟨Ao35, co35, eo35⟩ := Kd.R_slice HO222.out
       (first | subst eo35 | (injection eo35 with f1_ f2_ f3_; have f4_ := f1_.symm; have f5_ := f3_.symm; clear f1_ f2_ f3_; subst f4_; subst f5_))
       refine hK.out _ _ ⟨(blk_cell BK212.out 0).trans rfl, (blk_cell BK212.out 1).trans rfl, (blk_cell BK212.out 2).trans rfl⟩ (fun hHeld => ?_)
       clear hK K
       refine norm_ (a' := ?_) ?_ ?_
       rotate_left
       ·show Act.put _ (some 54) _ = _
        simp only [Act.put, List.setIfInBounds_toArray, List.set_cons_zero, List.set_cons_succ, i64_w, i32_w]
        rfl
       refine one_ (i := 5) (N := some 55) #[true, true, true, true, true, true, false, false] rfl rfl (one_of HT_.out (by kernel_rfl)) (by decide) (fun K hK => ?_)
       refine goes_ Try.func54 (by kernel_rfl) rfl #[.pointer (some ⟨g, 0, none⟩), .slice Ao35 y220.length co35] (by rfl) rfl rfl sL_ ?_
       with_reducible refine (spec_l01Int.calls g s0_0 x1001_1 x1002_1 _ _ y220 t223 t224 t225 w0 _ ?side1 ?side2 ?side3 ?side4 ?side5 A28.out).mono ?_
       (case side1 => repeat (first | (with_reducible first | exact HI0.out | apply IsS70.alloc | apply IsS70.drewN | apply IsS70.drew | apply IsS70.set_1 | apply IsS70.set_2 | refine IsS70.far ?_ NB0_200.out _ | refine IsS70.far ?_ NB0_212.out _) | exact HI0.out))
       (case side2 => repeat (first | (with_reducible first | exact HB.out | apply below_alloc | apply pw_below_drewN | apply below_drew1 | refine below_set ?_ (IsS70.ge HI0.out) | refine below_set ?_ GE200.out | refine below_set ?_ GE212.out) | exact HB.out))
       (case side3 => repeat (first | exact (Kd.R_reads' HO222.out).2.2 | (with_reducible refine Kd.C_alloc ?_ _) | (with_reducible refine Kd.C_drewN ?_ _) | (with_reducible refine Kd.C_drew ?_)))
       (case side4 => exact (Kd.R_reads' HO222.out).2.1)
       (case side5 => exact far_slice (IsS70.own_ne HI0.out HO222.out (by decide)))
       rintro e w36 ⟨rfl, hi, hb, hk⟩
       refine ⟨_, rfl, ?_⟩
       have n0_ := Aside0.mk (Kd.R_mono (Kd.R_keep (IsS70.apart (show IsS70 w0 _ g s0_0 x1001_1 x1002_1 from by repeat (first | (with_reducible first | exact HI0.out | apply IsS70.alloc | apply IsS70.drewN | apply IsS70.drew | apply IsS70.set_1 | apply IsS70.set_2 | refine IsS70.far ?_ NB0_200.out _ | refine IsS70.far ?_ NB0_212.out _) | exact HI0.out)) (sR_ HO_213002.out) (by decide)) hk (fun _ h => h.2)) (fun _ h => h.1))
       have n1_ := Aside0.mk (KeepBut.blk hk (g' := gb200) (o := .cells #[.int .i64 0, .int .i64 0, .slice none 0 0] 27 (0, 0)) (sB_ BK200.out) NB200_0.out (by simp))
       have n2_ := Aside0.mk (KeepBut.blk hk (g' := gb212) (o := .cells #[.int .i64 t207, .int .i64 t208, u213002] 27 (0, 0)) (sB_ BK212.out) NB212_0.out (by simp))
       have n3_ := Aside0.mk (Kd.R_mono (Kd.R_keep (IsS70.apart (show IsS70 w0 _ g s0_0 x1001_1 x1002_1 from by repeat (first | (with_reducible first | exact HI0.out | apply IsS70.alloc | apply IsS70.drewN | apply IsS70.drew | apply IsS70.set_1 | apply IsS70.set_2 | refine IsS70.far ?_ NB0_200.out _ | refine IsS70.far ?_ NB0_212.out _) | exact HI0.out)) (sR_ HO222.out) (by decide)) hk (fun _ h => h.2)) (fun _ h => h.1))
       have n4_ := Aside0.mk (KeepBut.trans (by repeat (first | (with_reducible first | exact HK.out | apply KeepBut.set_ | apply keep_drewN | apply keep_drew | apply keep_alloc | refine keep_far ?_ GW200.out _ | refine keep_far ?_ GW212.out _) | exact HK.out)) hk (.inl rfl))
       have n5_ := Aside0.mk (hb)
       have n6_ := Aside0.mk (hi)
       clear HO_213002 BK200 BK212 HO222 HK HB HI0; have HO_213002 := n0_; have BK200 := n1_; have BK212 := n2_; have HO222 := n3_; have HK := n4_; have HB := n5_; have HI0 := n6_; clear n0_ n1_ n2_ n3_ n4_ n5_ n6_
       (try clear hb)
       (try clear hb2)
       (try clear hk)
       (try clear hi)
       have p31 : 0 ≤ (x22_1 : Int) := of_decide_eq_true (by first | (with_reducible assumption) | assumption)
       have q31 : (x22_1 : Int) < ((x213002_1.length : Int) : Int) := of_decide_eq_true (by first | (with_reducible assumption) | assumption)
       obtain ⟨go31, co31, eo31, gb31, gl31, cl31, HG31⟩ := Kd.R_form HO_213002.out (by omega)
       (first | cases eo31 | (injection eo31 with ea_ en_ ec_; (first | subst ea_ | (injection ea_ with ea_; subst ea_)); subst ec_; clear en_))
       have GB31 := Aside0.mk gb31
       have GG31 := Aside0.mk HG31
       clear gb31 gl31 HG31
       obtain ⟨hx31_0, hf31_0⟩ := Kd.R_celln 0 HO_213002.out (x22_1 : Int) p31 q31
       replace p31 := eq_true p31
       replace q31 := eq_true q31
       have HN0_go31 := Aside0.mk (show g ≠ go31 from by have h_ := IsS70.own_ne HI0.out HO_213002.out (by decide); intro e_; exact h_ (by rw [e_]; rfl))
       have HP37 := Kd.R_putn HO_213002.out (x22_1 : Int) t223
       rw [← Ny226.out] at HP37
       have HQ37 := Aside0.mk HP37
       clear HP37
       refine hK.out _ _ ⟨(blk_cell BK212.out 0).trans rfl, (blk_cell BK212.out 1).trans rfl, (blk_cell BK212.out 2).trans rfl⟩ (fun hHeld => ?_)
       clear hK K
       refine norm_ (a' := ?_) ?_ ?_
       rotate_left
       ·show Act.put _ (some 55) _ = _
        simp only [Act.put, List.setIfInBounds_toArray, List.set_cons_zero, List.set_cons_succ, i64_w, i32_w]
        rfl
       refine pure_ (i := 6) (N := some 56) (v := ?_) (a' := ?_) #[true, true, true, true, true, true, true, false] rfl rfl (any_of HT_.out (by kernel_rfl)) (fun _ _ _ h => h) (Or.inl ⟨by rfl, ?_⟩) ?_ ?_
       rotate_left
       ·intro w'
        go_simp
        with_reducible rfl
       rotate_left
       ·simp only [Act.put, List.setIfInBounds_toArray, List.set_cons_zero, List.set_cons_succ, i64_w, i32_w]
        rfl
       refine last_ (i := 7) (N := none) #[true, true, true, true, true, true, true, true] rfl rfl (one_of HT_.out (by kernel_rfl)) (by decide) (fun K hK => ?_)
       refine skip_ (w1 := ?_) (by rfl) rfl ?_ ?_
       rotate_left
       ·go_simp
        rfl
       refine hK.out _ _ ?_
       clear hK K
       refine done_ (done_of HT_.out (by kernel_rfl)) ?_
       try go_wp2
       go_roundg k1
       case measure => have := HK1.out; omega
       case rel => exact ⟨(wrap64 (x22_1 + 1)), (t224), (t225), (y226), (.slice (some ⟨go31, 0, none⟩) x213002_1.length co31), (by first | rfl | (simp; done) | (simp [*]; done)), H', ⟨by have := HK1.out; omega⟩, ⟨by (with_reducible repeat (first | apply Kd.R_alloc | apply Kd.R_drewN | apply Kd.R_drew)); exact Kd.R_mono HQ37.out (fun _ hk => trivial)⟩, ⟨by refine sB_ ?_; refine blk_far ?_ (by have h_ := Kd.R_ne HO_213002.out BK200.out (by decide); intro e_; exact h_ (by rw [e_]; rfl)) _; refine sB_ ?_; exact BK200.out⟩, ⟨by refine sB_ ?_; refine blk_far ?_ (by have h_ := Kd.R_ne HO_213002.out BK212.out (by decide); intro e_; exact h_ (by rw [e_]; rfl)) _; refine sB_ ?_; exact BK212.out⟩, ⟨by repeat (first | (with_reducible first | exact HI0.out | apply IsS70.alloc | apply IsS70.drewN | apply IsS70.drew | apply IsS70.set_1 | apply IsS70.set_2 | refine IsS70.far ?_ HN0_go31.out _ | refine IsS70.far ?_ NB0_200.out _ | refine IsS70.far ?_ NB0_212.out _) | exact HI0.out)⟩, ⟨by repeat (first | (with_reducible first | exact HK.out | apply KeepBut.set_ | apply keep_drewN | apply keep_drew | apply keep_alloc | refine keep_far ?_ GB31.out _ | refine keep_far ?_ GW200.out _ | refine keep_far ?_ GW212.out _) | exact HK.out)⟩, ⟨by repeat (first | (with_reducible first | exact HB.out | apply below_alloc | apply pw_below_drewN | apply below_drew1 | refine below_set ?_ (Nat.le_trans HL.out GB31.out) | refine below_set ?_ (IsS70.ge HI0.out) | refine below_set ?_ GE200.out | refine below_set ?_ GE212.out) | exact HB.out)⟩⟩
      rw [if_neg c30] at H
      exact absurd H (by simp)
     rw [if_neg c29] at H
     exact absurd H (by simp)
    rw [if_neg c27] at H
    have c27b0 : (t213 == 1) = false := beq_eq_false_iff_ne.mpr c27
    have c27b1 : (t213 != 1) = true := bne_iff_ne.mpr c27
    by_cases c38 : t213 = 2
    ·rw [if_pos c38] at H
     have c38b0 : (t213 == 2) = true := beq_iff_eq.mpr c38
     have c38b1 : (t213 != 2) = false := bne_eq_false_iff_eq.mpr c38
     clear c38
     replace H := Option.bind_eq_some_iff.mp H
     obtain ⟨⟨t227, t228, t229⟩, A390, H⟩ := H
     replace H : (if 0 ≤ x22_1 then (if x22_1 < (x213002_1.length : Int) then (spec_l1Draw.l0 k1 t213 (t209.length : Int) (wrap64 (x22_1 + 1)) s0_0 t228 t229 t207 t208 (x213002_1.set (x22_1 : Int).toNat t227)) else (none)) else (none)) = some (r1, r2, r3, r4, r5) := H
     have A39 := Aside0.mk A390
     clear A390
     by_cases c40 : 0 ≤ x22_1
     ·rw [if_pos c40] at H
      have c40b0 : decide (0 ≤ x22_1) = true := decide_eq_true c40
      clear c40
      by_cases c41 : x22_1 < (x213002_1.length : Int)
      ·rw [if_pos c41] at H
       have c41b0 : decide (x22_1 < (x213002_1.length : Int)) = true := decide_eq_true c41
       clear c41
       obtain ⟨y230, hy230⟩ : ∃ y_ : List Int, y_ = (x213002_1.set (x22_1 : Int).toNat t227) := ⟨_, rfl⟩
       replace H : (spec_l1Draw.l0 k1 t213 (t209.length : Int) (wrap64 (x22_1 + 1)) s0_0 t228 t229 t207 t208 y230) = some (r1, r2, r3, r4, r5) := by first | (rw [hy230]; with_reducible exact H) | (have H2_ := (Option.bind_some _ _).symm.trans H; rw [hy230]; with_reducible exact H2_) | (have H2_ := (Option.bind_some _ _).symm.trans H; with_reducible exact H2_) | with_reducible exact H | (rw [hy230]; exact H) | exact H
       have Ny230 := Aside0.mk hy230
       clear hy230
       have H' := Aside0.mk H
       clear H
       try go_wp2
       have n0_ := Aside0.mk (Kd.R_drew HO_213002.out)
       have n1_ := Aside0.mk (blk_drew BK200.out)
       have n2_ := Aside0.mk (blk_drew BK212.out)
       have n3_ := Aside0.mk (IsS70.drew HI0.out)
       have n4_ := Aside0.mk (keep_drew HK.out)
       have n5_ := Aside0.mk (below_drew1 HB.out)
       clear HO_213002 BK200 BK212 HI0 HK HB; have HO_213002 := n0_; have BK200 := n1_; have BK212 := n2_; have HI0 := n3_; have HK := n4_; have HB := n5_; clear n0_ n1_ n2_ n3_ n4_ n5_
       refine start_ (n := 7) (S := fun w' => w'.cell? ⟨gb212, 0, none⟩ = some (.int .i64 t207) ∧ w'.cell? ⟨gb212, 1, none⟩ = some (.int .i64 t208) ∧ w'.cell? ⟨gb212, 2, none⟩ = some (u213002)) (ds := [6]) #[false, false, false, false, false, false, false] (by kernel_rfl) rfl rfl ⟨(blk_cell BK212.out 0).trans rfl, (blk_cell BK212.out 1).trans rfl, (blk_cell BK212.out 2).trans rfl⟩ (fun hHeld => ?_)
       generalize wr.drew = w43 at HO_213002 BK200 BK212 HI0 HK HB hHeld ⊢
       refine pure_ (i := 0) (N := some 59) (v := ?_) (a' := ?_) #[true, false, false, false, false, false, false] rfl rfl (by kernel_rfl) (fun _ _ _ h => h) (Or.inl ⟨by rfl, ?_⟩) ?_ ?_
       rotate_left
       ·intro w'
        go_simp
        with_reducible rfl
       rotate_left
       ·simp only [Act.put, List.setIfInBounds_toArray, List.set_cons_zero, List.set_cons_succ, i64_w, i32_w]
        rfl
       refine pure_ (i := 2) (N := some 61) (v := ?_) (a' := ?_) #[true, false, true, false, false, false, false] rfl rfl (by kernel_rfl) (fun _ _ _ h => h) (Or.inl ⟨by rfl, ?_⟩) ?_ ?_
       rotate_left
       ·intro w'
        go_simp
        with_reducible rfl
       rotate_left
       ·simp only [Act.put, List.setIfInBounds_toArray, List.set_cons_zero, List.set_cons_succ, i64_w, i32_w]
        rfl
       refine pure_ (i := 3) (N := some 62) (v := ?_) (a' := ?_) #[true, false, true, true, false, false, false] rfl rfl (by kernel_rfl) (fun _ _ _ h => h) (Or.inl ⟨by rfl, ?_⟩) ?_ ?_
       rotate_left
       ·intro w'
        go_simp
        with_reducible rfl
       rotate_left
       ·simp only [Act.put, List.setIfInBounds_toArray, List.set_cons_zero, List.set_cons_succ, i64_w, i32_w]
        rfl
       refine take_ (i := 1) (N := some 60) (v := ?_) (a' := ?_) #[true, true, true, true, false, false, false] rfl rfl (by kernel_rfl) (fun _ _ _ h => h) (Or.inl ⟨by rfl, ?_⟩) hHeld ?_ ?_
       rotate_left
       ·rintro w' ⟨s0, s1, s2⟩
        go_simp
        with_reducible rfl
       rotate_left
       ·simp only [Act.put, List.setIfInBounds_toArray, List.set_cons_zero, List.set_cons_succ, i64_w, i32_w]
        rfl
       refine one_ (i := 4) (N := some 63) #[true, true, true, true, true, false, false] rfl rfl (by kernel_rfl) (by decide) (fun K hK => ?_)
       refine goes_ Try.func51 (by kernel_rfl) rfl #[.pointer (some ⟨g, 0, none⟩), .int .i64 2] (by rfl) rfl rfl sL_ ?_
       with_reducible refine (spec_l01Below.calls g s0_0 x1001_1 x1002_1 2 t227 t228 t229 w0 _ ?side1 ?side2 A39.out).mono ?_
       (case side1 => repeat (first | (with_reducible first | exact HI0.out | apply IsS70.alloc | apply IsS70.drewN | apply IsS70.drew | apply IsS70.set_1 | apply IsS70.set_2 | refine IsS70.far ?_ NB0_200.out _ | refine IsS70.far ?_ NB0_212.out _) | exact HI0.out))
       (case side2 => repeat (first | (with_reducible first | exact HB.out | apply below_alloc | apply pw_below_drewN | apply below_drew1 | refine below_set ?_ (IsS70.ge HI0.out) | refine below_set ?_ GE200.out | refine below_set ?_ GE212.out) | exact HB.out))
       rintro e w44 ⟨rfl, hi, hb, hk⟩
       refine ⟨_, rfl, ?_⟩
       have n0_ := Aside0.mk (Kd.R_mono (Kd.R_keep (IsS70.apart (show IsS70 w0 _ g s0_0 x1001_1 x1002_1 from by repeat (first | (with_reducible first | exact HI0.out | apply IsS70.alloc | apply IsS70.drewN | apply IsS70.drew | apply IsS70.set_1 | apply IsS70.set_2 | refine IsS70.far ?_ NB0_200.out _ | refine IsS70.far ?_ NB0_212.out _) | exact HI0.out)) (sR_ HO_213002.out) (by decide)) hk (fun _ h => h.2)) (fun _ h => h.1))
       have n1_ := Aside0.mk (KeepBut.blk hk (g' := gb200) (o := .cells #[.int .i64 0, .int .i64 0, .slice none 0 0] 27 (0, 0)) (sB_ BK200.out) NB200_0.out (by simp))
       have n2_ := Aside0.mk (KeepBut.blk hk (g' := gb212) (o := .cells #[.int .i64 t207, .int .i64 t208, u213002] 27 (0, 0)) (sB_ BK212.out) NB212_0.out (by simp))
       have n3_ := Aside0.mk (KeepBut.trans (by repeat (first | (with_reducible first | exact HK.out | apply KeepBut.set_ | apply keep_drewN | apply keep_drew | apply keep_alloc | refine keep_far ?_ GW200.out _ | refine keep_far ?_ GW212.out _) | exact HK.out)) hk (.inl rfl))
       have n4_ := Aside0.mk (hb)
       have n5_ := Aside0.mk (hi)
       clear HO_213002 BK200 BK212 HK HB HI0; have HO_213002 := n0_; have BK200 := n1_; have BK212 := n2_; have HK := n3_; have HB := n4_; have HI0 := n5_; clear n0_ n1_ n2_ n3_ n4_ n5_
       (try clear hb)
       (try clear hb2)
       (try clear hk)
       (try clear hi)
       have p42 : 0 ≤ (x22_1 : Int) := of_decide_eq_true (by first | (with_reducible assumption) | assumption)
       have q42 : (x22_1 : Int) < ((x213002_1.length : Int) : Int) := of_decide_eq_true (by first | (with_reducible assumption) | assumption)
       obtain ⟨go42, co42, eo42, gb42, gl42, cl42, HG42⟩ := Kd.R_form HO_213002.out (by omega)
       (first | cases eo42 | (injection eo42 with ea_ en_ ec_; (first | subst ea_ | (injection ea_ with ea_; subst ea_)); subst ec_; clear en_))
       have GB42 := Aside0.mk gb42
       have GG42 := Aside0.mk HG42
       clear gb42 gl42 HG42
       obtain ⟨hx42_0, hf42_0⟩ := Kd.R_celln 0 HO_213002.out (x22_1 : Int) p42 q42
       replace p42 := eq_true p42
       replace q42 := eq_true q42
       have HN0_go42 := Aside0.mk (show g ≠ go42 from by have h_ := IsS70.own_ne HI0.out HO_213002.out (by decide); intro e_; exact h_ (by rw [e_]; rfl))
       have HP45 := Kd.R_putn HO_213002.out (x22_1 : Int) t227
       rw [← Ny230.out] at HP45
       have HQ45 := Aside0.mk HP45
       clear HP45
       refine hK.out _ _ ⟨(blk_cell BK212.out 0).trans rfl, (blk_cell BK212.out 1).trans rfl, (blk_cell BK212.out 2).trans rfl⟩ (fun hHeld => ?_)
       clear hK K
       refine norm_ (a' := ?_) ?_ ?_
       rotate_left
       ·show Act.put _ (some 63) _ = _
        simp only [Act.put, List.setIfInBounds_toArray, List.set_cons_zero, List.set_cons_succ, i64_w, i32_w]
        rfl
       refine pure_ (i := 5) (N := some 64) (v := ?_) (a' := ?_) #[true, true, true, true, true, true, false] rfl rfl (by kernel_rfl) (fun _ _ _ h => h) (Or.inl ⟨by rfl, ?_⟩) ?_ ?_
       rotate_left
       ·intro w'
        go_simp
        with_reducible rfl
       rotate_left
       ·simp only [Act.put, List.setIfInBounds_toArray, List.set_cons_zero, List.set_cons_succ, i64_w, i32_w]
        rfl
       refine last_ (i := 6) (N := none) #[true, true, true, true, true, true, true] rfl rfl (by kernel_rfl) (by decide) (fun K hK => ?_)
       refine skip_ (w1 := ?_) (by rfl) rfl ?_ ?_
       rotate_left
       ·go_simp
        rfl
       refine hK.out _ _ ?_
       clear hK K
       refine done_ (by kernel_rfl) ?_
       try go_wp2
       go_roundg k1
       case measure => have := HK1.out; omega
       case rel => exact ⟨(wrap64 (x22_1 + 1)), (t228), (t229), (y230), (.slice (some ⟨go42, 0, none⟩) x213002_1.length co42), (by first | rfl | (simp; done) | (simp [*]; done)), H', ⟨by have := HK1.out; omega⟩, ⟨by (with_reducible repeat (first | apply Kd.R_alloc | apply Kd.R_drewN | apply Kd.R_drew)); exact HQ45.out⟩, ⟨by refine sB_ ?_; refine blk_far ?_ (by have h_ := Kd.R_ne HO_213002.out BK200.out (by decide); intro e_; exact h_ (by rw [e_]; rfl)) _; refine sB_ ?_; exact BK200.out⟩, ⟨by refine sB_ ?_; refine blk_far ?_ (by have h_ := Kd.R_ne HO_213002.out BK212.out (by decide); intro e_; exact h_ (by rw [e_]; rfl)) _; refine sB_ ?_; exact BK212.out⟩, ⟨by repeat (first | (with_reducible first | exact HI0.out | apply IsS70.alloc | apply IsS70.drewN | apply IsS70.drew | apply IsS70.set_1 | apply IsS70.set_2 | refine IsS70.far ?_ HN0_go42.out _ | refine IsS70.far ?_ NB0_200.out _ | refine IsS70.far ?_ NB0_212.out _) | exact HI0.out)⟩, ⟨by repeat (first | (with_reducible first | exact HK.out | apply KeepBut.set_ | apply keep_drewN | apply keep_drew | apply keep_alloc | refine keep_far ?_ GB42.out _ | refine keep_far ?_ GW200.out _ | refine keep_far ?_ GW212.out _) | exact HK.out)⟩, ⟨by repeat (first | (with_reducible first | exact HB.out | apply below_alloc | apply pw_below_drewN | apply below_drew1 | refine below_set ?_ (Nat.le_trans HL.out GB42.out) | refine below_set ?_ (IsS70.ge HI0.out) | refine below_set ?_ GE200.out | refine below_set ?_ GE212.out) | exact HB.out)⟩⟩
      rw [if_neg c41] at H
      exact absurd H (by simp)
     rw [if_neg c40] at H
     exact absurd H (by simp)
    rw [if_neg c38] at H
    have c38b0 : (t213 == 2) = false := beq_eq_false_iff_ne.mpr c38
    have c38b1 : (t213 != 2) = true := bne_iff_ne.mpr c38
    by_cases c46 : t207 = 0
    ·rw [if_pos c46] at H
     exact absurd H (by simp)
    rw [if_neg c46] at H
    have c46b0 : (t207 == 0) = false := beq_eq_false_iff_ne.mpr c46
    have c46b1 : (t207 != 0) = true := bne_iff_ne.mpr c46
    obtain ⟨ji47, hji47⟩ : ∃ j_ : Int, (mx 1 (wrap64 (t207 - 1))) = j_ := ⟨_, rfl⟩
    replace H : (if (ji47) = 0 then (none) else (if 0 ≤ x22_1 then (if x22_1 < (x213002_1.length : Int) then (spec_l1Draw.l0 k1 t213 (t209.length : Int) (wrap64 (x22_1 + 1)) s0_0 x1001_1 x1002_1 t207 t208 (x213002_1.set (x22_1 : Int).toNat (wrap64 (Int.tdiv (wrap64 ((Int.tmod x22_1 t207) * 255)) (ji47))))) else (none)) else (none))) = some (r1, r2, r3, r4, r5) := by first | (rw [hji47] at H; exact H) | (simp only [hji47] at H ⊢; exact H)
    have hji47_ : (if 1 < (wrap64 (t207 - 1)) then (wrap64 (t207 - 1)) else 1) = ji47 := hji47
    by_cases c48 : (ji47) = 0
    ·rw [if_pos c48] at H
     exact absurd H (by simp)
    rw [if_neg c48] at H
    have c48b0 : ((ji47) == 0) = false := beq_eq_false_iff_ne.mpr c48
    have c48b1 : ((ji47) != 0) = true := bne_iff_ne.mpr c48
    by_cases c49 : 0 ≤ x22_1
    ·rw [if_pos c49] at H
     have c49b0 : decide (0 ≤ x22_1) = true := decide_eq_true c49
     clear c49
     by_cases c50 : x22_1 < (x213002_1.length : Int)
     ·rw [if_pos c50] at H
      have c50b0 : decide (x22_1 < (x213002_1.length : Int)) = true := decide_eq_true c50
      clear c50
      obtain ⟨y231, hy231⟩ : ∃ y_ : List Int, y_ = (x213002_1.set (x22_1 : Int).toNat (wrap64 (Int.tdiv (wrap64 ((Int.tmod x22_1 t207) * 255)) (ji47)))) := ⟨_, rfl⟩
      replace H : (spec_l1Draw.l0 k1 t213 (t209.length : Int) (wrap64 (x22_1 + 1)) s0_0 x1001_1 x1002_1 t207 t208 y231) = some (r1, r2, r3, r4, r5) := by first | (rw [hy231]; with_reducible exact H) | (have H2_ := (Option.bind_some _ _).symm.trans H; rw [hy231]; with_reducible exact H2_) | (have H2_ := (Option.bind_some _ _).symm.trans H; with_reducible exact H2_) | with_reducible exact H | (rw [hy231]; exact H) | exact H
      have Ny231 := Aside0.mk hy231
      clear hy231
      have H' := Aside0.mk H
      clear H
      try go_wp2
      have n0_ := Aside0.mk (Kd.R_drew HO_213002.out)
      have n1_ := Aside0.mk (blk_drew BK200.out)
      have n2_ := Aside0.mk (blk_drew BK212.out)
      have n3_ := Aside0.mk (IsS70.drew HI0.out)
      have n4_ := Aside0.mk (keep_drew HK.out)
      have n5_ := Aside0.mk (below_drew1 HB.out)
      clear HO_213002 BK200 BK212 HI0 HK HB; have HO_213002 := n0_; have BK200 := n1_; have BK212 := n2_; have HI0 := n3_; have HK := n4_; have HB := n5_; clear n0_ n1_ n2_ n3_ n4_ n5_
      have p51 : 0 ≤ (x22_1 : Int) := of_decide_eq_true (by first | (with_reducible assumption) | assumption)
      have q51 : (x22_1 : Int) < ((x213002_1.length : Int) : Int) := of_decide_eq_true (by first | (with_reducible assumption) | assumption)
      obtain ⟨go51, co51, eo51, gb51, gl51, cl51, HG51⟩ := Kd.R_form HO_213002.out (by omega)
      (first | cases eo51 | (injection eo51 with ea_ en_ ec_; (first | subst ea_ | (injection ea_ with ea_; subst ea_)); subst ec_; clear en_))
      have GB51 := Aside0.mk gb51
      have GG51 := Aside0.mk HG51
      clear gb51 gl51 HG51
      obtain ⟨hx51_0, hf51_0⟩ := Kd.R_celln 0 HO_213002.out (x22_1 : Int) p51 q51
      replace p51 := eq_true p51
      replace q51 := eq_true q51
      have HN0_go51 := Aside0.mk (show g ≠ go51 from by have h_ := IsS70.own_ne HI0.out HO_213002.out (by decide); intro e_; exact h_ (by rw [e_]; rfl))
      have HP53 := Kd.R_putn HO_213002.out (x22_1 : Int) (wrap64 (Int.tdiv (wrap64 ((Int.tmod x22_1 t207) * 255)) (ji47)))
      rw [← Ny231.out] at HP53
      have HQ53 := Aside0.mk HP53
      clear HP53
      refine start_ (n := 15) (S := fun w' => w'.cell? ⟨gb212, 0, none⟩ = some (.int .i64 t207) ∧ w'.cell? ⟨gb212, 1, none⟩ = some (.int .i64 t208) ∧ w'.cell? ⟨gb212, 2, none⟩ = some (.slice (some ⟨go51, 0, none⟩) x213002_1.length co51)) (ds := [14]) #[false, false, false, false, false, false, false, false, false, false, false, false, false, false, false] (by kernel_rfl) rfl rfl ⟨(blk_cell BK212.out 0).trans rfl, (blk_cell BK212.out 1).trans rfl, (blk_cell BK212.out 2).trans rfl⟩ (fun hHeld => ?_); refine with_tabW spec_l1Draw.tab7 spec_l1Draw.bits7 (fun HT_ HW_ => ?_)
      generalize wr.drew = w52 at HO_213002 BK200 BK212 HI0 HK HB GG51 HQ53 hf51_0 hx51_0 hHeld ⊢
      refine pure_ (i := 0) (N := some 26) (v := ?_) (a' := ?_) #[true, false, false, false, false, false, false, false, false, false, false, false, false, false, false] rfl rfl (any_of HT_.out (by kernel_rfl)) (fun _ _ _ h => h) (Or.inl ⟨by rfl, ?_⟩) ?_ ?_
      rotate_left
      ·intro w'
       go_simp
       with_reducible rfl
      rotate_left
      ·simp only [Act.put, List.setIfInBounds_toArray, List.set_cons_zero, List.set_cons_succ, i64_w, i32_w]
       rfl
      refine pure_ (i := 2) (N := some 28) (v := ?_) (a' := ?_) #[true, false, true, false, false, false, false, false, false, false, false, false, false, false, false] rfl rfl (any_of HT_.out (by kernel_rfl)) (fun _ _ _ h => h) (Or.inl ⟨by rfl, ?_⟩) ?_ ?_
      rotate_left
      ·intro w'
       go_simp
       with_reducible rfl
      rotate_left
      ·simp only [Act.put, List.setIfInBounds_toArray, List.set_cons_zero, List.set_cons_succ, i64_w, i32_w]
       rfl
      refine pure_ (i := 3) (N := some 29) (v := ?_) (a' := ?_) #[true, false, true, true, false, false, false, false, false, false, false, false, false, false, false] rfl rfl (any_of HT_.out (by kernel_rfl)) (fun _ _ _ h => h) (Or.inl ⟨by rfl, ?_⟩) ?_ ?_
      rotate_left
      ·intro w'
       go_simp
       with_reducible rfl
      rotate_left
      ·simp only [Act.put, List.setIfInBounds_toArray, List.set_cons_zero, List.set_cons_succ, i64_w, i32_w]
       rfl
      refine pure_ (i := 4) (N := some 30) (v := ?_) (a' := ?_) #[true, false, true, true, true, false, false, false, false, false, false, false, false, false, false] rfl rfl (any_of HT_.out (by kernel_rfl)) (fun _ _ _ h => h) (Or.inl ⟨by rfl, ?_⟩) ?_ ?_
      rotate_left
      ·intro w'
       go_simp
       with_reducible rfl
      rotate_left
      ·simp only [Act.put, List.setIfInBounds_toArray, List.set_cons_zero, List.set_cons_succ, i64_w, i32_w]
       rfl
      refine pure_ (i := 8) (N := some 34) (v := ?_) (a' := ?_) #[true, false, true, true, true, false, false, false, true, false, false, false, false, false, false] rfl rfl (any_of HT_.out (by kernel_rfl)) (fun _ _ _ h => h) (Or.inl ⟨by rfl, ?_⟩) ?_ ?_
      rotate_left
      ·intro w'
       go_simp
       with_reducible rfl
      rotate_left
      ·simp only [Act.put, List.setIfInBounds_toArray, List.set_cons_zero, List.set_cons_succ, i64_w, i32_w]
       rfl
      refine take_ (i := 1) (N := some 27) (v := ?_) (a' := ?_) #[true, true, true, true, true, false, false, false, true, false, false, false, false, false, false] rfl rfl (take_ofW HT_.out HW_.out (by kernel_rfl)) (fun _ _ _ h => h) (Or.inl ⟨by rfl, ?_⟩) hHeld ?_ ?_
      rotate_left
      ·rintro w' ⟨s0, s1, s2⟩
       go_simp
       with_reducible rfl
      rotate_left
      ·simp only [Act.put, List.setIfInBounds_toArray, List.set_cons_zero, List.set_cons_succ, i64_w, i32_w]
       rfl
      refine take_ (i := 5) (N := some 31) (v := ?_) (a' := ?_) #[true, true, true, true, true, true, false, false, true, false, false, false, false, false, false] rfl rfl (take_ofW HT_.out HW_.out (by kernel_rfl)) (fun _ _ _ h => h) (Or.inl ⟨by rfl, ?_⟩) hHeld ?_ ?_
      rotate_left
      ·rintro w' ⟨s0, s1, s2⟩
       go_simp
       with_reducible rfl
      rotate_left
      ·simp only [Act.put, List.setIfInBounds_toArray, List.set_cons_zero, List.set_cons_succ, i64_w, i32_w]
       rfl
      refine pure_ (i := 6) (N := some 32) (v := ?_) (a' := ?_) #[true, true, true, true, true, true, true, false, true, false, false, false, false, false, false] rfl rfl (any_of HT_.out (by kernel_rfl)) (fun _ _ _ h => h) (Or.inl ⟨by rfl, ?_⟩) ?_ ?_
      rotate_left
      ·intro w'
       go_simp
       with_reducible rfl
      rotate_left
      ·simp only [Act.put, List.setIfInBounds_toArray, List.set_cons_zero, List.set_cons_succ, i64_w, i32_w]
       rfl
      refine pure_ (i := 7) (N := some 33) (v := ?_) (a' := ?_) #[true, true, true, true, true, true, true, true, true, false, false, false, false, false, false] rfl rfl (any_of HT_.out (by kernel_rfl)) (fun _ _ _ h => h) (Or.inl ⟨by rfl, ?_⟩) ?_ ?_
      rotate_left
      ·intro w'
       go_simp
       with_reducible rfl
      rotate_left
      ·simp only [Act.put, List.setIfInBounds_toArray, List.set_cons_zero, List.set_cons_succ, i64_w, i32_w]
       rfl
      refine take_ (i := 9) (N := some 35) (v := ?_) (a' := ?_) #[true, true, true, true, true, true, true, true, true, true, false, false, false, false, false] rfl rfl (take_ofW HT_.out HW_.out (by kernel_rfl)) (fun _ _ _ h => h) (Or.inl ⟨by rfl, ?_⟩) hHeld ?_ ?_
      rotate_left
      ·rintro w' ⟨s0, s1, s2⟩
       go_simp
       with_reducible rfl
      rotate_left
      ·simp only [Act.put, List.setIfInBounds_toArray, List.set_cons_zero, List.set_cons_succ, i64_w, i32_w]
       rfl
      refine pure_ (i := 10) (N := some 36) (v := ?_) (a' := ?_) #[true, true, true, true, true, true, true, true, true, true, true, false, false, false, false] rfl rfl (any_of HT_.out (by kernel_rfl)) (fun _ _ _ h => h) (Or.inl ⟨by rfl, ?_⟩) ?_ ?_
      rotate_left
      ·intro w'
       go_simp
       with_reducible rfl
      rotate_left
      ·simp only [Act.put, List.setIfInBounds_toArray, List.set_cons_zero, List.set_cons_succ, i64_w, i32_w]
       rfl
      refine pure_ (i := 11) (N := some 37) (v := ?_) (a' := ?_) #[true, true, true, true, true, true, true, true, true, true, true, true, false, false, false] rfl rfl (any_of HT_.out (by kernel_rfl)) (fun _ _ _ h => h) (Or.inl ⟨by rfl, ?_⟩) ?_ ?_
      rotate_left
      ·intro w'
       go_simp
       with_reducible rfl
      rotate_left
      ·simp only [Act.put, List.setIfInBounds_toArray, List.set_cons_zero, List.set_cons_succ, i64_w, i32_w]
       rfl
      refine pure_ (i := 12) (N := some 38) (v := ?_) (a' := ?_) #[true, true, true, true, true, true, true, true, true, true, true, true, true, false, false] rfl rfl (any_of HT_.out (by kernel_rfl)) (fun _ _ _ h => h) (Or.inl ⟨by rfl, ?_⟩) ?_ ?_
      rotate_left
      ·intro w'
       go_simp
       with_reducible rfl
      rotate_left
      ·simp only [Act.put, List.setIfInBounds_toArray, List.set_cons_zero, List.set_cons_succ, i64_w, i32_w]
       rfl
      refine pure_ (i := 13) (N := some 39) (v := ?_) (a' := ?_) #[true, true, true, true, true, true, true, true, true, true, true, true, true, true, false] rfl rfl (any_of HT_.out (by kernel_rfl)) (fun _ _ _ h => h) (Or.inl ⟨by rfl, ?_⟩) ?_ ?_
      rotate_left
      ·intro w'
       go_simp
       with_reducible rfl
      rotate_left
      ·simp only [Act.put, List.setIfInBounds_toArray, List.set_cons_zero, List.set_cons_succ, i64_w, i32_w]
       rfl
      refine last_ (i := 14) (N := none) #[true, true, true, true, true, true, true, true, true, true, true, true, true, true, true] rfl rfl (one_of HT_.out (by kernel_rfl)) (by decide) (fun K hK => ?_)
      refine skip_ (w1 := ?_) (by rfl) rfl ?_ ?_
      rotate_left
      ·go_simp
       rfl
      refine hK.out _ _ ?_
      clear hK K
      refine done_ (done_of HT_.out (by kernel_rfl)) ?_
      try go_wp2
      go_roundg k1
      case measure => have := HK1.out; omega
      case rel => exact ⟨(wrap64 (x22_1 + 1)), (x1001_1), (x1002_1), (y231), (.slice (some ⟨go51, 0, none⟩) x213002_1.length co51), (by first | rfl | (simp; done) | (simp [*]; done)), H', ⟨by have := HK1.out; omega⟩, ⟨by (with_reducible repeat (first | apply Kd.R_alloc | apply Kd.R_drewN | apply Kd.R_drew)); exact HQ53.out⟩, ⟨by refine sB_ ?_; refine blk_far ?_ (by have h_ := Kd.R_ne HO_213002.out BK200.out (by decide); intro e_; exact h_ (by rw [e_]; rfl)) _; refine sB_ ?_; exact BK200.out⟩, ⟨by refine sB_ ?_; refine blk_far ?_ (by have h_ := Kd.R_ne HO_213002.out BK212.out (by decide); intro e_; exact h_ (by rw [e_]; rfl)) _; refine sB_ ?_; exact BK212.out⟩, ⟨by repeat (first | (with_reducible first | exact HI0.out | apply IsS70.alloc | apply IsS70.drewN | apply IsS70.drew | apply IsS70.set_1 | apply IsS70.set_2 | refine IsS70.far ?_ HN0_go51.out _ | refine IsS70.far ?_ NB0_200.out _ | refine IsS70.far ?_ NB0_212.out _) | exact HI0.out)⟩, ⟨by repeat (first | (with_reducible first | exact HK.out | apply KeepBut.set_ | apply keep_drewN | apply keep_drew | apply keep_alloc | refine keep_far ?_ GB51.out _ | refine keep_far ?_ GW200.out _ | refine keep_far ?_ GW212.out _) | exact HK.out)⟩, ⟨by repeat (first | (with_reducible first | exact HB.out | apply below_alloc | apply pw_below_drewN | apply below_drew1 | refine below_set ?_ (Nat.le_trans HL.out GB51.out) | refine below_set ?_ (IsS70.ge HI0.out) | refine below_set ?_ GE200.out | refine below_set ?_ GE212.out) | exact HB.out)⟩⟩
     rw [if_neg c50] at H
     exact absurd H (by simp)
    rw [if_neg c49] at H
    exact absurd H (by simp)
   rw [if_neg c18] at H
   have c18b0 : decide (x22_1 < (t209.length : Int)) = false := decide_eq_false c18
   clear c18
   simp only [Option.some.injEq, Prod.mk.injEq] at H
   obtain ⟨rfl, rfl, rfl, rfl, rfl⟩ := H
   have hnb54 := NB212_200.out; have hnc54 := NB200_212.out; have hnb55 := NB212_0.out; have hnc55 := NB0_212.out
   obtain ⟨hcz56_0, hcz56_1, hcz56_2, hfz56_0, hfz56_1, hfz56_2⟩ := sZ_ BK212.out
   have hnb57 := NB200_0.out; have hnc57 := NB0_200.out
   obtain ⟨hcz58_0, hcz58_1, hcz58_2, hfz58_0, hfz58_1, hfz58_2⟩ := sZ_ BK200.out
   obtain ⟨Ao59, co59, eo59⟩ := Kd.R_slice HO_213002.out
   subst eo59
   go_wp2
   refine bodyPost_ret (results_cell_row rfl _ _ gb200 27 #[.int .i64 t207, .int .i64 t208, .slice Ao59 x213002_1.length co59] (0, 0) _ rfl (by refine sB_ ?_; refine blk_put (cs := #[.int .i64 t207, .int .i64 t208, .slice none 0 0]) ?_ 2 _ rfl; refine sB_ ?_; refine blk_put (cs := #[.int .i64 t207, .int .i64 0, .slice none 0 0]) ?_ 1 _ rfl; refine sB_ ?_; refine blk_put (cs := #[.int .i64 0, .int .i64 0, .slice none 0 0]) ?_ 0 _ rfl; refine sB_ ?_; exact BK200.out) Try.underlying27 rfl (by kernel_rfl)) rfl ?_
   exact ⟨_, by first | rfl | (simp [errW_none, errW_some] <;> rfl) | (simp [*, errW_none, errW_some] <;> rfl), by (with_reducible repeat (first | apply Kd.R_alloc | apply Kd.R_drewN | apply Kd.R_drew)); exact Kd.R_mono (Kd.R_far (p := ⟨gb200, 2, none⟩) (Kd.R_far (p := ⟨gb200, 1, none⟩) (Kd.R_far (p := ⟨gb200, 0, none⟩) (Kd.R_types HO_213002.out BK200.out (by decide)) (fun _ hk => hk.2) (.int .i64 t207)) (fun _ hk => hk.2) (.int .i64 t208)) (fun _ hk => hk.2) (.slice Ao59 x213002_1.length co59)) (fun _ hk => trivial), by repeat (first | (with_reducible first | exact HI0.out | apply IsS70.alloc | apply IsS70.drewN | apply IsS70.drew | apply IsS70.set_1 | apply IsS70.set_2 | refine IsS70.far ?_ NB0_200.out _ | refine IsS70.far ?_ NB0_212.out _) | exact HI0.out), by repeat (first | (with_reducible first | exact HB.out | apply below_alloc | apply pw_below_drewN | apply below_drew1 | refine below_set ?_ (IsS70.ge HI0.out) | refine below_set ?_ GE200.out | refine below_set ?_ GE212.out) | exact HB.out), by repeat (first | (with_reducible first | exact HK.out | apply KeepBut.set_ | apply keep_drewN | apply keep_drew | apply keep_alloc | refine keep_far ?_ GW200.out _ | refine keep_far ?_ GW212.out _) | exact HK.out)⟩

end Go.Proofs.Ytndnklicfibkeaa.P
