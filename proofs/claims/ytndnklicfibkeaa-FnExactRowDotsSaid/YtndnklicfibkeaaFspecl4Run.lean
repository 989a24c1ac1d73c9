-- Written by tools/seatprint.py (over the kit's print, changed in memory). Not trusted: Lean checks it.
import Derived.Test.YtndnklicfibkeaaP0
import Derived.Test.YtndnklicfibkeaaFspecl1In
import Derived.Test.YtndnklicfibkeaaFspecWeightOf
import Derived.Test.YtndnklicfibkeaaFspecl4Shares
namespace Go.Proofs.Ytndnklicfibkeaa.P
open Go.RowKit Go.Proofs.YtndnklicfibkeaaW.PrintWords Go.Proofs.YtndnklicfibkeaaW.PrintLast Go.Proofs.YtndnklicfibkeaaW.PrintMore
attribute [local go_sem] max2_int min2_int max_two min_two max_three min_three max_four min_four   -- for this text's walks alone
set_option linter.unusedVariables false
set_option linter.unusedSimpArgs false

/-! ### spec_l4Run: function 49 -/
mutual
def spec_l4Run.l0 : Nat → List (S68) → Bool → List Int → List Int → List Int → Int → Int → Int → Int → Int → Int → List Int → Option (List Int × List Int × Int)
  | 0, _, _, _, _, _, _, _, _, _, _, _, _ => none
  | k + 1, x0, x2, x9, x10, x11, x12, x13, x37, x38, x577000, x577001, x577002 => if x38 < x37 then (if x577000 = 0 then (none) else (if x2 = true then (spec_l4Run.j1 k x0 x2 x9 x10 x11 x12 x13 (wrap64 (Int.tdiv x38 x577000)) (Int.tmod x38 x577000) 1 x37 x38 ((Int.tmod (wrap64 (Int.tdiv x38 x577000)) 2) == 1) x577000 x577001 x577002) else (spec_l4Run.j1 k x0 x2 x9 x10 x11 x12 x13 (wrap64 (Int.tdiv x38 x577000)) (Int.tmod x38 x577000) 1 x37 x38 false x577000 x577001 x577002))) else (some (x10, x11, x13))
def spec_l4Run.j1 : Nat → List (S68) → Bool → List Int → List Int → List Int → Int → Int → Int → Int → Int → Int → Int → Bool → Int → Int → List Int → Option (List Int × List Int × Int)
  | 0, _, _, _, _, _, _, _, _, _, _, _, _, _, _, _, _ => none
  | k + 1, x0, x2, x9, x10, x11, x12, x13, x15, x16, x17, x37, x38, x54, x577000, x577001, x577002 => if x54 = true then (spec_l4Run.j2 k x0 x2 x9 x10 x11 x12 x13 x15 (wrap64 ((wrap64 (x577000 - 1)) - x16)) (-1) x37 x38 x577000 x577001 x577002) else (spec_l4Run.j2 k x0 x2 x9 x10 x11 x12 x13 x15 x16 x17 x37 x38 x577000 x577001 x577002)
def spec_l4Run.j2 : Nat → List (S68) → Bool → List Int → List Int → List Int → Int → Int → Int → Int → Int → Int → Int → Int → Int → List Int → Option (List Int × List Int × Int)
  | 0, _, _, _, _, _, _, _, _, _, _, _, _, _, _, _ => none
  | k + 1, x0, x2, x9, x10, x11, x12, x13, x15, x16, x17, x37, x38, x577000, x577001, x577002 => if 0 ≤ (wrap64 ((wrap64 (x15 * x577000)) + x16)) then (if (wrap64 ((wrap64 (x15 * x577000)) + x16)) < (x9.length : Int) then (if (rd x9 (wrap64 ((wrap64 (x15 * x577000)) + x16))) ≥ 128 then (if (wrap64 ((wrap64 (x15 * x577000)) + x16)) < (x10.length : Int) then (spec_l4Run.j3 k x0 x2 x9 (x10.set ((wrap64 ((wrap64 (x15 * x577000)) + x16)) : Int).toNat 1) x11 x12 x13 x15 x16 x17 (wrap64 ((wrap64 (x15 * x577000)) + x16)) (wrap64 ((rd x9 (wrap64 ((wrap64 (x15 * x577000)) + x16))) - 255)) x37 x38 x577000 x577001 x577002) else (none)) else (spec_l4Run.j3 k x0 x2 x9 x10 x11 x12 x13 x15 x16 x17 (wrap64 ((wrap64 (x15 * x577000)) + x16)) (rd x9 (wrap64 ((wrap64 (x15 * x577000)) + x16))) x37 x38 x577000 x577001 x577002)) else (none)) else (none)
def spec_l4Run.j3 : Nat → List (S68) → Bool → List Int → List Int → List Int → Int → Int → Int → Int → Int → Int → Int → Int → Int → Int → Int → List Int → Option (List Int × List Int × Int)
  | 0, _, _, _, _, _, _, _, _, _, _, _, _, _, _, _, _, _ => none
  | k + 1, x0, x2, x9, x10, x11, x12, x13, x15, x16, x17, x18, x19, x37, x38, x577000, x577001, x577002 => if 0 ≤ x18 then (if x18 < (x11.length : Int) then ((spec_l4Shares.f k x0 x12 x19).bind fun t593 => (spec_l4Run.l1 k x0 x2 x9 x10 (x11.set (x18 : Int).toNat x19) x12 x13 x15 x16 x17 x37 x38 t593 (t593.length : Int) 0 x577000 x577001 x577002)) else (none)) else (none)
def spec_l4Run.l1 : Nat → List (S68) → Bool → List Int → List Int → List Int → Int → Int → Int → Int → Int → Int → Int → List Int → Int → Int → Int → Int → List Int → Option (List Int × List Int × Int)
  | 0, _, _, _, _, _, _, _, _, _, _, _, _, _, _, _, _, _, _ => none
  | k + 1, x0, x2, x9, x10, x11, x12, x13, x15, x16, x17, x37, x38, x84, x85, x86, x577000, x577001, x577002 => if x86 < x85 then (if 0 ≤ x86 then (if x86 < (x84.length : Int) then (if x86 < (x0.length : Int) then ((spec_l1In.f (wrap64 (x16 + (wrap64 (x17 * ((rd_T68 x0 x86).f0))))) 0 (wrap64 (x577000 - 1))).bind fun t599 => (if t599 = true then (if (wrap64 (x15 + ((rd_T68 x0 x86).f1))) < x577001 then (if 0 ≤ (wrap64 ((wrap64 ((wrap64 (x15 + ((rd_T68 x0 x86).f1))) * x577000)) + (wrap64 (x16 + (wrap64 (x17 * ((rd_T68 x0 x86).f0))))))) then (if (wrap64 ((wrap64 ((wrap64 (x15 + ((rd_T68 x0 x86).f1))) * x577000)) + (wrap64 (x16 + (wrap64 (x17 * ((rd_T68 x0 x86).f0))))))) < (x9.length : Int) then (spec_l4Run.l1 k x0 x2 (x9.set ((wrap64 ((wrap64 ((wrap64 (x15 + ((rd_T68 x0 x86).f1))) * x577000)) + (wrap64 (x16 + (wrap64 (x17 * ((rd_T68 x0 x86).f0))))))) : Int).toNat (wrap64 ((rd x9 (wrap64 ((wrap64 ((wrap64 (x15 + ((rd_T68 x0 x86).f1))) * x577000)) + (wrap64 (x16 + (wrap64 (x17 * ((rd_T68 x0 x86).f0)))))))) + (rd x84 x86)))) x10 x11 x12 x13 x15 x16 x17 x37 x38 x84 x85 (wrap64 (x86 + 1)) x577000 x577001 x577002) else (none)) else (none)) else (spec_l4Run.l1 k x0 x2 x9 x10 x11 x12 (wrap64 (x13 + (rd x84 x86))) x15 x16 x17 x37 x38 x84 x85 (wrap64 (x86 + 1)) x577000 x577001 x577002)) else (spec_l4Run.l1 k x0 x2 x9 x10 x11 x12 (wrap64 (x13 + (rd x84 x86))) x15 x16 x17 x37 x38 x84 x85 (wrap64 (x86 + 1)) x577000 x577001 x577002))) else (none)) else (none)) else (none)) else (spec_l4Run.l0 k x0 x2 x9 x10 x11 x12 x13 x37 (wrap64 (x38 + 1)) x577000 x577001 x577002)
end
def spec_l4Run.f (k : Nat) (l0 : List (S68)) (a1_0 : Int) (a1_1 : Int) (l1_2 : List Int) (a2 : Bool) : Option (List Int × List Int × Int) := (some (([] : List Int) : List Int)).bind fun y577 => (if y577.length + l1_2.length < 17592186044416 then ((some (y577 ++ l1_2 : List Int)).bind fun y580 => (if 0 ≤ (y580.length : Int) then (if ((y580.length : Int) : Int).toNat ≤ 35184372088832 then ((spec_WeightOf.f k l0).bind fun t589 => (spec_l4Run.l0 k l0 a2 y580 (List.replicate ((y580.length : Int) : Int).toNat 0) (List.replicate ((y580.length : Int) : Int).toNat 0) t589 0 (y580.length : Int) 0 a1_0 a1_1 l1_2)) else (none)) else (none))) else (none))
theorem spec_l4Run.mono_l : ∀ k, (∀ y0 y1 y2 y3 y4 y5 y6 y7 y8 y9 y10 y11, LeO (spec_l4Run.l0 k y0 y1 y2 y3 y4 y5 y6 y7 y8 y9 y10 y11) (spec_l4Run.l0 (k + 1) y0 y1 y2 y3 y4 y5 y6 y7 y8 y9 y10 y11)) ∧ (∀ y0 y1 y2 y3 y4 y5 y6 y7 y8 y9 y10 y11 y12 y13 y14 y15, LeO (spec_l4Run.j1 k y0 y1 y2 y3 y4 y5 y6 y7 y8 y9 y10 y11 y12 y13 y14 y15) (spec_l4Run.j1 (k + 1) y0 y1 y2 y3 y4 y5 y6 y7 y8 y9 y10 y11 y12 y13 y14 y15)) ∧ (∀ y0 y1 y2 y3 y4 y5 y6 y7 y8 y9 y10 y11 y12 y13 y14, LeO (spec_l4Run.j2 k y0 y1 y2 y3 y4 y5 y6 y7 y8 y9 y10 y11 y12 y13 y14) (spec_l4Run.j2 (k + 1) y0 y1 y2 y3 y4 y5 y6 y7 y8 y9 y10 y11 y12 y13 y14)) ∧ (∀ y0 y1 y2 y3 y4 y5 y6 y7 y8 y9 y10 y11 y12 y13 y14 y15 y16, LeO (spec_l4Run.j3 k y0 y1 y2 y3 y4 y5 y6 y7 y8 y9 y10 y11 y12 y13 y14 y15 y16) (spec_l4Run.j3 (k + 1) y0 y1 y2 y3 y4 y5 y6 y7 y8 y9 y10 y11 y12 y13 y14 y15 y16)) ∧ (∀ y0 y1 y2 y3 y4 y5 y6 y7 y8 y9 y10 y11 y12 y13 y14 y15 y16 y17, LeO (spec_l4Run.l1 k y0 y1 y2 y3 y4 y5 y6 y7 y8 y9 y10 y11 y12 y13 y14 y15 y16 y17) (spec_l4Run.l1 (k + 1) y0 y1 y2 y3 y4 y5 y6 y7 y8 y9 y10 y11 y12 y13 y14 y15 y16 y17))
  | 0 => ⟨fun _ _ _ _ _ _ _ _ _ _ _ _ r h => by simp [spec_l4Run.l0] at h, fun _ _ _ _ _ _ _ _ _ _ _ _ _ _ _ _ r h => by simp [spec_l4Run.j1] at h, fun _ _ _ _ _ _ _ _ _ _ _ _ _ _ _ r h => by simp [spec_l4Run.j2] at h, fun _ _ _ _ _ _ _ _ _ _ _ _ _ _ _ _ _ r h => by simp [spec_l4Run.j3] at h, fun _ _ _ _ _ _ _ _ _ _ _ _ _ _ _ _ _ _ r h => by simp [spec_l4Run.l1] at h⟩
  | k + 1 => by
    obtain ⟨ih0, ih1, ih2, ih3, ih4⟩ := spec_l4Run.mono_l k
    refine ⟨?_, ?_, ?_, ?_, ?_⟩
    · intro y0 y1 y2 y3 y4 y5 y6 y7 y8 y9 y10 y11
      unfold spec_l4Run.l0
      repeat' first
      | (with_reducible exact ih0 _ _ _ _ _ _ _ _ _ _ _ _)
      | (with_reducible exact ih1 _ _ _ _ _ _ _ _ _ _ _ _ _ _ _ _)
      | (with_reducible exact ih2 _ _ _ _ _ _ _ _ _ _ _ _ _ _ _)
      | (with_reducible exact ih3 _ _ _ _ _ _ _ _ _ _ _ _ _ _ _ _ _)
      | (with_reducible exact ih4 _ _ _ _ _ _ _ _ _ _ _ _ _ _ _ _ _ _)
      | (with_reducible exact spec_WeightOf.mono _ _)
      | (with_reducible exact spec_l4Shares.mono _ _ _ _)
      | (with_reducible exact LeO.refl _)
      | (with_reducible exact LeO.none _)
      | (with_reducible refine LeO.ite ?_ ?_)
      | (with_reducible refine LeO.bind ?_ (fun _ => ?_))
      | exact ih0 _ _ _ _ _ _ _ _ _ _ _ _
      | exact ih1 _ _ _ _ _ _ _ _ _ _ _ _ _ _ _ _
      | exact ih2 _ _ _ _ _ _ _ _ _ _ _ _ _ _ _
      | exact ih3 _ _ _ _ _ _ _ _ _ _ _ _ _ _ _ _ _
      | exact ih4 _ _ _ _ _ _ _ _ _ _ _ _ _ _ _ _ _ _
      | exact spec_WeightOf.mono _ _
      | exact spec_l4Shares.mono _ _ _ _
      | exact LeO.none _
      | refine LeO.ite ?_ ?_
      | refine LeO.bind ?_ (fun _ => ?_)
    · intro y0 y1 y2 y3 y4 y5 y6 y7 y8 y9 y10 y11 y12 y13 y14 y15
      unfold spec_l4Run.j1
      repeat' first
      | (with_reducible exact ih0 _ _ _ _ _ _ _ _ _ _ _ _)
      | (with_reducible exact ih1 _ _ _ _ _ _ _ _ _ _ _ _ _ _ _ _)
      | (with_reducible exact ih2 _ _ _ _ _ _ _ _ _ _ _ _ _ _ _)
      | (with_reducible exact ih3 _ _ _ _ _ _ _ _ _ _ _ _ _ _ _ _ _)
      | (with_reducible exact ih4 _ _ _ _ _ _ _ _ _ _ _ _ _ _ _ _ _ _)
      | (with_reducible exact spec_WeightOf.mono _ _)
      | (with_reducible exact spec_l4Shares.mono _ _ _ _)
      | (with_reducible exact LeO.refl _)
      | (with_reducible exact LeO.none _)
      | (with_reducible refine LeO.ite ?_ ?_)
      | (with_reducible refine LeO.bind ?_ (fun _ => ?_))
      | exact ih0 _ _ _ _ _ _ _ _ _ _ _ _
      | exact ih1 _ _ _ _ _ _ _ _ _ _ _ _ _ _ _ _
      | exact ih2 _ _ _ _ _ _ _ _ _ _ _ _ _ _ _
      | exact ih3 _ _ _ _ _ _ _ _ _ _ _ _ _ _ _ _ _
      | exact ih4 _ _ _ _ _ _ _ _ _ _ _ _ _ _ _ _ _ _
      | exact spec_WeightOf.mono _ _
      | exact spec_l4Shares.mono _ _ _ _
      | exact LeO.none _
      | refine LeO.ite ?_ ?_
      | refine LeO.bind ?_ (fun _ => ?_)
    · intro y0 y1 y2 y3 y4 y5 y6 y7 y8 y9 y10 y11 y12 y13 y14
      unfold spec_l4Run.j2
      repeat' first
      | (with_reducible exact ih0 _ _ _ _ _ _ _ _ _ _ _ _)
      | (with_reducible exact ih1 _ _ _ _ _ _ _ _ _ _ _ _ _ _ _ _)
      | (with_reducible exact ih2 _ _ _ _ _ _ _ _ _ _ _ _ _ _ _)
      | (with_reducible exact ih3 _ _ _ _ _ _ _ _ _ _ _ _ _ _ _ _ _)
      | (with_reducible exact ih4 _ _ _ _ _ _ _ _ _ _ _ _ _ _ _ _ _ _)
      | (with_reducible exact spec_WeightOf.mono _ _)
      | (with_reducible exact spec_l4Shares.mono _ _ _ _)
      | (with_reducible exact LeO.refl _)
      | (with_reducible exact LeO.none _)
      | (with_reducible refine LeO.ite ?_ ?_)
      | (with_reducible refine LeO.bind ?_ (fun _ => ?_))
      | exact ih0 _ _ _ _ _ _ _ _ _ _ _ _
      | exact ih1 _ _ _ _ _ _ _ _ _ _ _ _ _ _ _ _
      | exact ih2 _ _ _ _ _ _ _ _ _ _ _ _ _ _ _
      | exact ih3 _ _ _ _ _ _ _ _ _ _ _ _ _ _ _ _ _
      | exact ih4 _ _ _ _ _ _ _ _ _ _ _ _ _ _ _ _ _ _
      | exact spec_WeightOf.mono _ _
      | exact spec_l4Shares.mono _ _ _ _
      | exact LeO.none _
      | refine LeO.ite ?_ ?_
      | refine LeO.bind ?_ (fun _ => ?_)
    · intro y0 y1 y2 y3 y4 y5 y6 y7 y8 y9 y10 y11 y12 y13 y14 y15 y16
      unfold spec_l4Run.j3
      repeat' first
      | (with_reducible exact ih0 _ _ _ _ _ _ _ _ _ _ _ _)
      | (with_reducible exact ih1 _ _ _ _ _ _ _ _ _ _ _ _ _ _ _ _)
      | (with_reducible exact ih2 _ _ _ _ _ _ _ _ _ _ _ _ _ _ _)
      | (with_reducible exact ih3 _ _ _ _ _ _ _ _ _ _ _ _ _ _ _ _ _)
      | (with_reducible exact ih4 _ _ _ _ _ _ _ _ _ _ _ _ _ _ _ _ _ _)
      | (with_reducible exact spec_WeightOf.mono _ _)
      | (with_reducible exact spec_l4Shares.mono _ _ _ _)
      | (with_reducible exact LeO.refl _)
      | (with_reducible exact LeO.none _)
      | (with_reducible refine LeO.ite ?_ ?_)
      | (with_reducible refine LeO.bind ?_ (fun _ => ?_))
      | exact ih0 _ _ _ _ _ _ _ _ _ _ _ _
      | exact ih1 _ _ _ _ _ _ _ _ _ _ _ _ _ _ _ _
      | exact ih2 _ _ _ _ _ _ _ _ _ _ _ _ _ _ _
      | exact ih3 _ _ _ _ _ _ _ _ _ _ _ _ _ _ _ _ _
      | exact ih4 _ _ _ _ _ _ _ _ _ _ _ _ _ _ _ _ _ _
      | exact spec_WeightOf.mono _ _
      | exact spec_l4Shares.mono _ _ _ _
      | exact LeO.none _
      | refine LeO.ite ?_ ?_
      | refine LeO.bind ?_ (fun _ => ?_)
    · intro y0 y1 y2 y3 y4 y5 y6 y7 y8 y9 y10 y11 y12 y13 y14 y15 y16 y17
      unfold spec_l4Run.l1
      repeat' first
      | (with_reducible exact ih0 _ _ _ _ _ _ _ _ _ _ _ _)
      | (with_reducible exact ih1 _ _ _ _ _ _ _ _ _ _ _ _ _ _ _ _)
      | (with_reducible exact ih2 _ _ _ _ _ _ _ _ _ _ _ _ _ _ _)
      | (with_reducible exact ih3 _ _ _ _ _ _ _ _ _ _ _ _ _ _ _ _ _)
      | (with_reducible exact ih4 _ _ _ _ _ _ _ _ _ _ _ _ _ _ _ _ _ _)
      | (with_reducible exact spec_WeightOf.mono _ _)
      | (with_reducible exact spec_l4Shares.mono _ _ _ _)
      | (with_reducible exact LeO.refl _)
      | (with_reducible exact LeO.none _)
      | (with_reducible refine LeO.ite ?_ ?_)
      | (with_reducible refine LeO.bind ?_ (fun _ => ?_))
      | exact ih0 _ _ _ _ _ _ _ _ _ _ _ _
      | exact ih1 _ _ _ _ _ _ _ _ _ _ _ _ _ _ _ _
      | exact ih2 _ _ _ _ _ _ _ _ _ _ _ _ _ _ _
      | exact ih3 _ _ _ _ _ _ _ _ _ _ _ _ _ _ _ _ _
      | exact ih4 _ _ _ _ _ _ _ _ _ _ _ _ _ _ _ _ _ _
      | exact spec_WeightOf.mono _ _
      | exact spec_l4Shares.mono _ _ _ _
      | exact LeO.none _
      | refine LeO.ite ?_ ?_
      | refine LeO.bind ?_ (fun _ => ?_)
theorem spec_l4Run.mono : ∀ a0 a1 a2 a3 a4 k, LeO (spec_l4Run.f k a0 a1 a2 a3 a4) (spec_l4Run.f (k + 1) a0 a1 a2 a3 a4) := by
  intro a0 a1 a2 a3 a4 k
  obtain ⟨ih0, ih1, ih2, ih3, ih4⟩ := spec_l4Run.mono_l k
  unfold spec_l4Run.f
  repeat' first
      | (with_reducible exact ih0 _ _ _ _ _ _ _ _ _ _ _ _)
      | (with_reducible exact ih1 _ _ _ _ _ _ _ _ _ _ _ _ _ _ _ _)
      | (with_reducible exact ih2 _ _ _ _ _ _ _ _ _ _ _ _ _ _ _)
      | (with_reducible exact ih3 _ _ _ _ _ _ _ _ _ _ _ _ _ _ _ _ _)
      | (with_reducible exact ih4 _ _ _ _ _ _ _ _ _ _ _ _ _ _ _ _ _ _)
      | (with_reducible exact spec_WeightOf.mono _ _)
      | (with_reducible exact spec_l4Shares.mono _ _ _ _)
      | (with_reducible exact LeO.refl _)
      | (with_reducible exact LeO.none _)
      | (with_reducible refine LeO.ite ?_ ?_)
      | (with_reducible refine LeO.bind ?_ (fun _ => ?_))
      | exact ih0 _ _ _ _ _ _ _ _ _ _ _ _
      | exact ih1 _ _ _ _ _ _ _ _ _ _ _ _ _ _ _ _
      | exact ih2 _ _ _ _ _ _ _ _ _ _ _ _ _ _ _
      | exact ih3 _ _ _ _ _ _ _ _ _ _ _ _ _ _ _ _ _
      | exact ih4 _ _ _ _ _ _ _ _ _ _ _ _ _ _ _ _ _ _
      | exact spec_WeightOf.mono _ _
      | exact spec_l4Shares.mono _ _ _ _
      | exact LeO.none _
      | refine LeO.ite ?_ ?_
      | refine LeO.bind ?_ (fun _ => ?_)
def spec_l4Run.T27 : Bool × List (List Nat × List Nat) := (true, [([], []), ([], []), ([], []), ([2], [2]), ([1, 3], [1, 3]), ([], []), ([4, 5], [4, 5]), ([], []), ([], []), ([], []), ([9], [9]), ([8, 10], [8, 10]), ([], []), ([11, 12], [11, 12]), ([7, 13], [7, 13]), ([14], [14]), ([], []), ([15, 16], [15, 16]), ([0, 6, 0, 1, 2, 3, 4, 5, 6, 7, 8, 9, 10, 11, 12, 13, 14, 15, 16, 17], [0, 6]), ([18, 17, 0, 1, 2, 3, 4, 5, 6, 7, 8, 9, 10, 11, 12, 13, 14, 15, 16, 17], [17, 18])])
def spec_l4Run.B27 : List Nat := [0, 0, 0, 4, 14, 0, 62, 0, 0, 0, 512, 1792, 0, 7936, 16256, 32640, 0, 130944, 262143, 524287]
theorem spec_l4Run.tab27 : rtab .any (opsOf Try.f49 27) = spec_l4Run.T27 := by kernel_rfl
theorem spec_l4Run.bits27 : waitsOk spec_l4Run.T27.2 spec_l4Run.B27 = true := by kernel_rfl
set_option maxHeartbeats 8000000 in
set_option maxRecDepth 100000 in
theorem spec_l4Run.calls (k : Nat) (A0 : Option Addr) (c0 : Nat) (l0 : List (S68)) (a1_0 : Int) (a1_1 : Int) (A1_2 : Option Addr) (c1_2 : Nat) (l1_2 : List Int) (a2 : Bool) (r1 : List Int) (r2 : List Int) (r3 : Int) (w : World) (hr0 : Kd.C k68 w A0 l0.length l0) (hc0 : l0.length ≤ c0) (hr1_2 : Kd.C (Kd.int .i64) w A1_2 l1_2.length l1_2) (hc1_2 : l1_2.length ≤ c1_2) (h : spec_l4Run.f k l0 a1_0 a1_1 l1_2 a2 = some (r1, r2, r3)) :
  Calls Try.prog 49 #[.slice A0 l0.length c0, .agg #[.int .i64 a1_0, .int .i64 a1_1, .slice A1_2 l1_2.length c1_2], .bool a2] w fun e w' => ∃ v0_ v1_ : Value, e = .returned (.tuple #[v0_, v1_, .int .i64 r3]) ∧ Kd.R (Kd.int .i64) 3 w' w.heap.size (fun k_ => some k_ ≠ (v1_ : Value).ownBlock) v0_ r1 ∧ Kd.R (Kd.int .i64) 3 w' w.heap.size (fun k_ => some k_ ≠ (v0_ : Value).ownBlock) v1_ r2 ∧ Below w.heap.size w w' := by
 have hu27 := Try.underlying27
 have HR0 := Aside0.mk hr0
 have HC0 := Aside0.mk hc0
 clear hr0 hc0
 have HR1_2 := Aside0.mk hr1_2
 have HC1_2 := Aside0.mk hc1_2
 clear hr1_2 hc1_2
 have HB := Aside0.mk (Below.refl w.heap.size w)
 have H : ((some (([] : List Int) : List Int)).bind fun y577 => (if y577.length + l1_2.length < 17592186044416 then ((some (y577 ++ l1_2 : List Int)).bind fun y580 => (if 0 ≤ (y580.length : Int) then (if ((y580.length : Int) : Int).toNat ≤ 35184372088832 then ((spec_WeightOf.f k l0).bind fun t589 => (spec_l4Run.l0 k l0 a2 y580 (List.replicate ((y580.length : Int) : Int).toNat 0) (List.replicate ((y580.length : Int) : Int).toNat 0) t589 0 (y580.length : Int) 0 a1_0 a1_1 l1_2)) else (none)) else (none))) else (none))) = some (r1, r2, r3) := h
 clear h
 obtain ⟨y577, hy577⟩ : ∃ y_ : List Int, y_ = (([] : List Int)) := ⟨_, rfl⟩
 replace H : (if y577.length + l1_2.length < 17592186044416 then ((some (y577 ++ l1_2 : List Int)).bind fun y580 => (if 0 ≤ (y580.length : Int) then (if ((y580.length : Int) : Int).toNat ≤ 35184372088832 then ((spec_WeightOf.f k l0).bind fun t589 => (spec_l4Run.l0 k l0 a2 y580 (List.replicate ((y580.length : Int) : Int).toNat 0) (List.replicate ((y580.length : Int) : Int).toNat 0) t589 0 (y580.length : Int) 0 a1_0 a1_1 l1_2)) else (none)) else (none))) else (none)) = some (r1, r2, r3) := by first | (rw [hy577]; with_reducible exact H) | (have H2_ := (Option.bind_some _ _).symm.trans H; rw [hy577]; with_reducible exact H2_) | (have H2_ := (Option.bind_some _ _).symm.trans H; with_reducible exact H2_) | with_reducible exact H | (rw [hy577]; exact H) | exact H
 have Ny577 := Aside0.mk hy577
 clear hy577
 by_cases c4 : y577.length + l1_2.length < 17592186044416
 ·rw [if_pos c4] at H
  have LMc4 := Aside0.mk c4
  clear c4
  obtain ⟨y580, hy580⟩ : ∃ y_ : List Int, y_ = (y577 ++ l1_2) := ⟨_, rfl⟩
  replace H : (if 0 ≤ (y580.length : Int) then (if ((y580.length : Int) : Int).toNat ≤ 35184372088832 then ((spec_WeightOf.f k l0).bind fun t589 => (spec_l4Run.l0 k l0 a2 y580 (List.replicate ((y580.length : Int) : Int).toNat 0) (List.replicate ((y580.length : Int) : Int).toNat 0) t589 0 (y580.length : Int) 0 a1_0 a1_1 l1_2)) else (none)) else (none)) = some (r1, r2, r3) := by first | (rw [hy580]; with_reducible exact H) | (have H2_ := (Option.bind_some _ _).symm.trans H; rw [hy580]; with_reducible exact H2_) | (have H2_ := (Option.bind_some _ _).symm.trans H; with_reducible exact H2_) | with_reducible exact H | (rw [hy580]; exact H) | exact H
  have Ny580 := Aside0.mk hy580
  clear hy580
  by_cases c5 : 0 ≤ (y580.length : Int)
  ·rw [if_pos c5] at H
   have c5b0 := eq_true c5
   have c5b1 : decide (0 ≤ (y580.length : Int)) = true := decide_eq_true c5
   (try (have c5b1_hl11_5 := c5b1; simp only [hl11_5] at c5b1_hl11_5))
   (try (have c5b1_hl9_1 := c5b1; simp only [hl9_1] at c5b1_hl9_1))
   (try (have c5b1_hl9_5 := c5b1; simp only [hl9_5] at c5b1_hl9_5))
   clear c5
   by_cases c6 : ((y580.length : Int) : Int).toNat ≤ 35184372088832
   ·rw [if_pos c6] at H
    have c6b0 := eq_true c6
    have c6b1 : decide (((y580.length : Int) : Int).toNat ≤ 35184372088832) = true := decide_eq_true c6
    (try (have c6b1_hl11_5 := c6b1; simp only [hl11_5] at c6b1_hl11_5))
    (try (have c6b1_hl9_1 := c6b1; simp only [hl9_1] at c6b1_hl9_1))
    (try (have c6b1_hl9_5 := c6b1; simp only [hl9_5] at c6b1_hl9_5))
    clear c6
    obtain ⟨y583, hy583⟩ : ∃ y_ : List Int, y_ = (List.replicate ((y580.length : Int) : Int).toNat 0) := ⟨_, rfl⟩
    replace H : ((spec_WeightOf.f k l0).bind fun t589 => (spec_l4Run.l0 k l0 a2 y580 y583 (List.replicate ((y580.length : Int) : Int).toNat 0) t589 0 (y580.length : Int) 0 a1_0 a1_1 l1_2)) = some (r1, r2, r3) := by first | (rw [hy583]; with_reducible exact H) | (have H2_ := (Option.bind_some _ _).symm.trans H; rw [hy583]; with_reducible exact H2_) | (have H2_ := (Option.bind_some _ _).symm.trans H; with_reducible exact H2_) | with_reducible exact H | (rw [hy583]; exact H) | exact H
    have Ny583 := Aside0.mk hy583
    clear hy583
    obtain ⟨y586, hy586⟩ : ∃ y_ : List Int, y_ = (List.replicate ((y580.length : Int) : Int).toNat 0) := ⟨_, rfl⟩
    replace H : ((spec_WeightOf.f k l0).bind fun t589 => (spec_l4Run.l0 k l0 a2 y580 y583 y586 t589 0 (y580.length : Int) 0 a1_0 a1_1 l1_2)) = some (r1, r2, r3) := by first | (rw [hy586]; with_reducible exact H) | (have H2_ := (Option.bind_some _ _).symm.trans H; rw [hy586]; with_reducible exact H2_) | (have H2_ := (Option.bind_some _ _).symm.trans H; with_reducible exact H2_) | with_reducible exact H | (rw [hy586]; exact H) | exact H
    have Ny586 := Aside0.mk hy586
    clear hy586
    replace H := Option.bind_eq_some_iff.mp H
    obtain ⟨t589, A70, H⟩ := H
    replace H : (spec_l4Run.l0 k l0 a2 y580 y583 y586 t589 0 (y580.length : Int) 0 a1_0 a1_1 l1_2) = some (r1, r2, r3) := H
    have A7 := Aside0.mk A70
    clear A70
    have H' := Aside0.mk H
    clear H
    go_enter Try.func49, Try.ntmps49
    go_wp2_with (first | ((with_reducible refine gate_dst (N := 4) rfl ?_); refine box_event ?hg (N := 4) ?hd (cs := #[.int .i64 a1_0, .int .i64 a1_1, .slice A1_2 l1_2.length c1_2]) (t := 27) ?hr ?_; (case hd => rfl); (case hg => rfl); (case hr => first | (go_simp; done) | (go_simp; rfl)); intro gb576 hg w8 hbox hb; have n0_ := Aside0.mk (below_step (sW_ HB.out) hb); have n1_ := Aside0.mk (hbox); have n2_ := Aside0.mk ((by rw [hg]; exact (below_size (sW_ HB.out)) : w.heap.size ≤ gb576)); have n3_ := n2_; clear HB; have HB := n0_; have BK576 := n1_; have GW576 := n2_; have GE576 := n3_; clear n0_ n1_ n2_ n3_; clear hb hbox hg) | ((with_reducible refine gate_dst (N := 24) rfl ?_); refine Kd.R_lit (Kd.int .i64) _ 3 ?hg (N := 24) ?hd (xs := ([] : List Int)) (inner := []) (ok := fun _ => True) (okp := fun _ => True) ?hr ?hp (fun _ hk => hk) trivial (Below.refl _ _) (Nat.le_refl _) (by simp) ?_; (case hd => rfl); (case hg => rfl); (case hr => first | (go_simp; done) | (go_simp; rfl)); (case hp => exact (Reps.none _ _)); intro v578 w9 ho10 hb hg_ hnew_; clear hg_ hnew_; (first | rw [← Ny577.out] at ho10 | (simp only [Int.reduceToNat] at ho10; rw [← Ny577.out] at ho10)); have n0_ := Aside0.mk (Kd.R_lower ho10 (below_size (sW_ HB.out))); have n1_ := Aside0.mk (blk_below (sB_ BK576.out) hb); have n2_ := Aside0.mk (below_step (sW_ HB.out) hb); clear BK576 HB; have HO579 := n0_; have BK576 := n1_; have HB := n2_; clear n0_ n1_ n2_; clear hb ho10; obtain ⟨hcz11_0, hcz11_1, hcz11_2, hfz11_0, hfz11_1, hfz11_2⟩ := sZ_ BK576.out) | ((with_reducible refine gate_builtin (b := .append) (xs := #[.tmp 24, .tmp 26]) rfl ?_); at_builtin; refine Kd.R_append_rows (Kd.int .i64) (w0 := w) w.heap.size rfl (.tmp 24) (.tmp 26) 25 3 (.int .i64 0) 8 rfl Try.underlying25 info3 rfl (by decide) (by omega) v578 y577 l1_2 _ _ _ (fun _ => True) (fun _ => False) rfl rfl ?aO ?aR (fun _ _ h => h) (fun _ h => h.elim) ?aF ?aB ?aS ?aL ?_; (case aR => repeat (first | exact (Kd.C_below HR1_2.out HB.out) | (with_reducible refine Kd.C_alloc ?_ _) | (with_reducible refine Kd.C_drewN ?_ _) | (with_reducible refine Kd.C_drew ?_))); (case aB => exact (sW_ HB.out)); (case aF => exact (fun _ _ => trivial)); (case aO => exact (sR_ HO579.out)); (case aS => exact (below_size (sW_ HB.out))); (case aL => have := LMc4.out; omega); intro v581 w12 ho hb hg hat; rw [← Ny580.out] at ho; have n0_ := Aside0.mk (blk_grown (sB_ BK576.out) hg (Kd.R_ne HO579.out BK576.out (by decide))); have n1_ := Aside0.mk (hb); have n2_ := Aside0.mk (ho); clear BK576 HB HO579; have BK576 := n0_; have HB := n1_; have HO582 := n2_; clear n0_ n1_ n2_; clear ho hb hg hat; obtain ⟨Ao13, co13, eo13⟩ := Kd.R_slice HO582.out; subst eo13) | ((with_reducible refine gate_dst (N := 30) rfl ?_); refine Kd.R_make (Kd.int .i64) _ 3 rfl (N := 30) rfl 25 _ _ rfl (y580.length : Int) rfl rfl Try.underlying25 (.int .i64 0) 8 info3 rfl (by decide) (by omega) 0 (ok := fun _ => True) (okp := fun _ => True) rfl (fun _ hk => hk) trivial (of_decide_eq_true (by first | (with_reducible assumption) | assumption)) (Nat.le_trans (Nat.mul_le_mul_right _ (of_decide_eq_true (by first | (with_reducible assumption) | assumption) : (y580.length : Int).toNat ≤ 35184372088832)) (by omega)) (Below.refl _ _) (Nat.le_refl _) ?_; intro v584 w14 ho15 hb hg_ hnew_; clear hg_ hnew_; (first | rw [← Ny583.out] at ho15 | (simp only [Int.reduceToNat] at ho15; rw [← Ny583.out] at ho15)); have n0_ := Aside0.mk (Kd.R_elder' (sR_ HO582.out) (Kd.R_base ho15) hb); have n1_ := Aside0.mk (Kd.R_lower (Kd.R_new' ho15 (Kd.R_lt (sR_ HO582.out))) (below_size (sW_ HB.out))); have n2_ := Aside0.mk (blk_below (sB_ BK576.out) hb); have n3_ := Aside0.mk (below_step (sW_ HB.out) hb); clear HO582 BK576 HB; have HO582 := n0_; have HO585 := n1_; have BK576 := n2_; have HB := n3_; clear n0_ n1_ n2_ n3_; clear hb ho15) | ((with_reducible refine gate_dst (N := 33) rfl ?_); refine Kd.R_make (Kd.int .i64) _ 3 rfl (N := 33) rfl 25 _ _ rfl (y580.length : Int) rfl rfl Try.underlying25 (.int .i64 0) 8 info3 rfl (by decide) (by omega) 0 (ok := fun _ => True) (okp := fun _ => True) rfl (fun _ hk => hk) trivial (of_decide_eq_true (by first | (with_reducible assumption) | assumption)) (Nat.le_trans (Nat.mul_le_mul_right _ (of_decide_eq_true (by first | (with_reducible assumption) | assumption) : (y580.length : Int).toNat ≤ 35184372088832)) (by omega)) (Below.refl _ _) (Nat.le_refl _) ?_; intro v587 w16 ho17 hb hg_ hnew_; clear hg_ hnew_; (first | rw [← Ny586.out] at ho17 | (simp only [Int.reduceToNat] at ho17; rw [← Ny586.out] at ho17)); have n0_ := Aside0.mk (Kd.R_elder' (sR_ HO582.out) (Kd.R_base ho17) hb); have n1_ := Aside0.mk (Kd.R_elder' (sR_ HO585.out) (Kd.R_base ho17) hb); have n2_ := Aside0.mk (Kd.R_lower (Kd.R_new' (Kd.R_new' ho17 (Kd.R_lt (sR_ HO582.out))) (Kd.R_lt (sR_ HO585.out))) (below_size (sW_ HB.out))); have n3_ := Aside0.mk (blk_below (sB_ BK576.out) hb); have n4_ := Aside0.mk (below_step (sW_ HB.out) hb); clear HO582 HO585 BK576 HB; have HO582 := n0_; have HO585 := n1_; have HO588 := n2_; have BK576 := n3_; have HB := n4_; clear n0_ n1_ n2_ n3_ n4_; clear hb ho17) | ((with_reducible refine gate_callee (f := 61) rfl ?_); refine goesL_ (some 35) rfl rfl Try.func61 (by kernel_rfl) rfl #[.slice A0 l0.length c0] rfl sL_ ?_; (with_reducible refine (spec_WeightOf.calls k _ _ l0 t589 _ ?side1 ?side2 A7.out).mono ?_); (case side1 => repeat (first | exact (Kd.C_below HR0.out HB.out) | (with_reducible refine Kd.C_alloc ?_ _) | (with_reducible refine Kd.C_drewN ?_ _) | (with_reducible refine Kd.C_drew ?_))); (case side2 => exact HC0.out); rintro e w18 ⟨rfl, hb⟩; refine ⟨_, rfl, ?_⟩; have n0_ := Aside0.mk (Kd.R_below (sR_ HO582.out) hb); have n1_ := Aside0.mk (Kd.R_below (sR_ HO585.out) hb); have n2_ := Aside0.mk (Kd.R_below (sR_ HO588.out) hb); have n3_ := Aside0.mk (blk_below (sB_ BK576.out) hb); have n4_ := Aside0.mk (below_step (sW_ HB.out) hb); clear HO582 HO585 HO588 BK576 HB; have HO582 := n0_; have HO585 := n1_; have HO588 := n2_; have BK576 := n3_; have HB := n4_; clear n0_ n1_ n2_ n3_ n4_; (try clear hb); (try clear hb2); (try clear hk); (try clear hi)))
    go_loopg [13, 38] k (fun kq v13 v38 w' => ∃ (x9_1 : List Int) (x10_1 : List Int) (x11_1 : List Int) (x13_1 : Int) (x38_1 : Int), v13 = .int .i64 x13_1 ∧ v38 = .int .i64 x38_1 ∧ Aside0 (spec_l4Run.l0 kq l0 a2 x9_1 x10_1 x11_1 t589 x13_1 (y580.length : Int) x38_1 a1_0 a1_1 l1_2 = some (r1, r2, r3)) ∧ Aside0 (kq ≤ k) ∧ Aside0 (Kd.R (Kd.int .i64) 3 w' w.heap.size (fun k_ => some k_ ≠ (v584 : Value).ownBlock ∧ some k_ ≠ (v587 : Value).ownBlock) (.slice Ao13 y580.length co13) x9_1) ∧ Aside0 (Kd.R (Kd.int .i64) 3 w' w.heap.size (fun k_ => some k_ ≠ ((.slice Ao13 y580.length co13) : Value).ownBlock ∧ some k_ ≠ (v587 : Value).ownBlock) v584 x10_1) ∧ Aside0 (Kd.R (Kd.int .i64) 3 w' w.heap.size (fun k_ => some k_ ≠ ((.slice Ao13 y580.length co13) : Value).ownBlock ∧ some k_ ≠ (v584 : Value).ownBlock) v587 x11_1) ∧ Aside0 (w'.heap[gb576]? = some (.cells #[.int .i64 a1_0, .int .i64 a1_1, (.slice A1_2 l1_2.length c1_2)] 27 (0, 0))) ∧ Aside0 (Below w.heap.size w w'))
    case atStart => exact ⟨(y580), (y583), (y586), (0), (0), (by first | rfl | (simp; done) | (simp [*]; done)), (by first | rfl | (simp; done) | (simp [*]; done)), H', ⟨Nat.le_refl _⟩, ⟨by (with_reducible repeat (first | apply Kd.R_alloc | apply Kd.R_drewN | apply Kd.R_drew)); exact Kd.R_mono HO582.out (fun _ hk => ⟨hk.1.2, hk.2⟩)⟩, ⟨by (with_reducible repeat (first | apply Kd.R_alloc | apply Kd.R_drewN | apply Kd.R_drew)); exact Kd.R_mono HO585.out (fun _ hk => ⟨hk.1.2, hk.2⟩)⟩, ⟨by (with_reducible repeat (first | apply Kd.R_alloc | apply Kd.R_drewN | apply Kd.R_drew)); exact Kd.R_mono HO588.out (fun _ hk => ⟨hk.1.2, hk.2⟩)⟩, ⟨by refine sB_ ?_; exact BK576.out⟩, ⟨by repeat (first | (with_reducible first | exact HB.out | apply below_alloc | apply pw_below_drewN | apply below_drew1 | refine below_set ?_ GE576.out) | exact HB.out)⟩⟩
    case round =>
     clear H'
     try clear c1
     try clear p2
     try clear c4
     try clear c5
     try clear c5b0
     try clear c5b1
     try clear c6
     try clear c6b0
     try clear c6b1
     try clear hcz11_0
     try clear hcz11_1
     try clear hcz11_2
     try clear hfz11_0
     try clear hfz11_1
     try clear hfz11_2
     obtain ⟨x9_1, x10_1, x11_1, x13_1, x38_1, rfl, rfl, HA, HK1, HO_9, HO_10, HO_11, BK576, HB⟩ := hrel
     have hl9_1 := (Kd.R_reads' HO_9.out).1
     rw [hl9_1] at HO_9
     (try simp only [hl9_1])
     (try simp only [hl9_1] at BK576)
     (try simp only [hl9_1] at HO_10)
     (try simp only [hl9_1] at HO_11)
     cases gk with
     | zero => exact absurd HA.out (by simp [spec_l4Run.l0])
     | succ k1 =>
      have H := HA.out; clear HA
      simp only [spec_l4Run.l0] at H
      by_cases c19 : x38_1 < (y580.length : Int)
      ·rw [if_pos c19] at H
       have c19b0 : decide (x38_1 < (y580.length : Int)) = true := decide_eq_true c19
       (try (have c19b0_hl11_5 := c19b0; simp only [hl11_5] at c19b0_hl11_5))
       (try (have c19b0_hl9_1 := c19b0; simp only [hl9_1] at c19b0_hl9_1))
       (try (have c19b0_hl9_5 := c19b0; simp only [hl9_5] at c19b0_hl9_5))
       clear c19
       by_cases c20 : a1_0 = 0
       ·rw [if_pos c20] at H
        exact absurd H (by simp)
       rw [if_neg c20] at H
       have c20b0 : (a1_0 == 0) = false := beq_eq_false_iff_ne.mpr c20
       have c20b1 : (a1_0 != 0) = true := bne_iff_ne.mpr c20
       have HC21 := Aside0.mk H
       clear H
       obtain ⟨hcz22_0, hcz22_1, hcz22_2, hfz22_0, hfz22_1, hfz22_2⟩ := sZ_ BK576.out
       go_upto_region 12 with (fail)
       go_cut [54] (fun v54 wc => ∃ (kq : Nat) (x54_20 : Bool), v54 = .bool x54_20 ∧ Aside0 (spec_l4Run.j1 kq l0 a2 x9_1 x10_1 x11_1 t589 x13_1 (wrap64 (Int.tdiv x38_1 a1_0)) (Int.tmod x38_1 a1_0) 1 (y580.length : Int) x38_1 x54_20 a1_0 a1_1 l1_2 = some (r1, r2, r3)) ∧ Aside0 (kq ≤ k1) ∧ Aside0 (Kd.R (Kd.int .i64) 3 wc w.heap.size (fun k_ => some k_ ≠ (v584 : Value).ownBlock ∧ some k_ ≠ (v587 : Value).ownBlock) (.slice Ao13 x9_1.length co13) x9_1) ∧ Aside0 (Kd.R (Kd.int .i64) 3 wc w.heap.size (fun k_ => some k_ ≠ ((.slice Ao13 x9_1.length co13) : Value).ownBlock ∧ some k_ ≠ (v587 : Value).ownBlock) v584 x10_1) ∧ Aside0 (Kd.R (Kd.int .i64) 3 wc w.heap.size (fun k_ => some k_ ≠ ((.slice Ao13 x9_1.length co13) : Value).ownBlock ∧ some k_ ≠ (v584 : Value).ownBlock) v587 x11_1) ∧ Aside0 (wc.heap[gb576]? = some (.cells #[.int .i64 a1_0, .int .i64 a1_1, (.slice A1_2 l1_2.length c1_2)] 27 (0, 0))) ∧ Aside0 (Below w.heap.size w wc))
       case first =>
        have H := HC21.out; clear HC21
        by_cases c23 : a2 = true
        ·subst c23
         have H1 : (spec_l4Run.j1 k1 l0 true x9_1 x10_1 x11_1 t589 x13_1 (wrap64 (Int.tdiv x38_1 a1_0)) (Int.tmod x38_1 a1_0) 1 (y580.length : Int) x38_1 ((Int.tmod (wrap64 (Int.tdiv x38_1 a1_0)) 2) == 1) a1_0 a1_1 l1_2) = some (r1, r2, r3) := by rw [if_pos rfl] at H; exact H
         clear H; have H := H1; clear H1
         have H' := Aside0.mk H
         clear H
         go_wp2
         go_meet
         case rel => exact ⟨_, (((Int.tmod (wrap64 (Int.tdiv x38_1 a1_0)) 2) == 1)), (by first | rfl | (simp; done) | (simp [*]; done)), H', ⟨by have := HK1.out; first | omega | exact Nat.le_refl _⟩, ⟨by (try simp only [hl9_1]); (with_reducible repeat (first | apply Kd.R_alloc | apply Kd.R_drewN | apply Kd.R_drew)); exact HO_9.out⟩, ⟨by (try simp only [hl9_1]); (with_reducible repeat (first | apply Kd.R_alloc | apply Kd.R_drewN | apply Kd.R_drew)); exact HO_10.out⟩, ⟨by (try simp only [hl9_1]); (with_reducible repeat (first | apply Kd.R_alloc | apply Kd.R_drewN | apply Kd.R_drew)); exact HO_11.out⟩, ⟨by (try simp only [hl9_1]); refine sB_ ?_; exact BK576.out⟩, ⟨by repeat (first | (with_reducible first | exact HB.out | apply below_alloc | apply pw_below_drewN | apply below_drew1 | refine below_set ?_ GE576.out) | exact HB.out)⟩⟩
        replace c23 := Bool.eq_false_iff.mpr c23
        subst c23
        have H1 : (spec_l4Run.j1 k1 l0 false x9_1 x10_1 x11_1 t589 x13_1 (wrap64 (Int.tdiv x38_1 a1_0)) (Int.tmod x38_1 a1_0) 1 (y580.length : Int) x38_1 false a1_0 a1_1 l1_2) = some (r1, r2, r3) := by rw [if_neg (show ¬ (false = true) by decide)] at H; exact H
        clear H; have H := H1; clear H1
        have H' := Aside0.mk H
        clear H
        go_wp2
        go_meet
        case rel => exact ⟨_, (false), (by first | rfl | (simp; done) | (simp [*]; done)), H', ⟨by have := HK1.out; first | omega | exact Nat.le_refl _⟩, ⟨by (try simp only [hl9_1]); (with_reducible repeat (first | apply Kd.R_alloc | apply Kd.R_drewN | apply Kd.R_drew)); exact HO_9.out⟩, ⟨by (try simp only [hl9_1]); (with_reducible repeat (first | apply Kd.R_alloc | apply Kd.R_drewN | apply Kd.R_drew)); exact HO_10.out⟩, ⟨by (try simp only [hl9_1]); (with_reducible repeat (first | apply Kd.R_alloc | apply Kd.R_drewN | apply Kd.R_drew)); exact HO_11.out⟩, ⟨by (try simp only [hl9_1]); refine sB_ ?_; exact BK576.out⟩, ⟨by repeat (first | (with_reducible first | exact HB.out | apply below_alloc | apply pw_below_drewN | apply below_drew1 | refine below_set ?_ GE576.out) | exact HB.out)⟩⟩
       case rest =>
        clear HC21
        try clear c1
        try clear c2
        try clear p2
        try clear c4
        try clear c5
        try clear c5b0
        try clear c5b1
        try clear c6
        try clear c6b0
        try clear c6b1
        try clear p6
        try clear c19
        try clear c19b0
        try clear c20
        try clear c20b0
        try clear c20b1
        try clear c23
        try clear hcz11_0
        try clear hcz11_1
        try clear hcz11_2
        try clear hcz22_0
        try clear hcz22_1
        try clear hcz22_2
        try clear hfz11_0
        try clear hfz11_1
        try clear hfz11_2
        try clear hfz22_0
        try clear hfz22_1
        try clear hfz22_2
        try clear p2
        obtain ⟨kq, x54_20, rfl, HA, HJ20, HO_9, HO_10, HO_11, BK576, HB⟩ := hcut
        cases kq with
        | zero => exact absurd HA.out (by simp [spec_l4Run.j1])
        | succ kj20 =>
         have H := HA.out; clear HA
         simp only [spec_l4Run.j1] at H
         have HC24 := Aside0.mk H
         clear H
         go_upto_if 54 with (fail)
         go_cut [16, 17] (fun v16 v17 wc => ∃ (kq : Nat) (x16_23 : Int) (x17_23 : Int), v16 = .int .i64 x16_23 ∧ v17 = .int .i64 x17_23 ∧ Aside0 (spec_l4Run.j2 kq l0 a2 x9_1 x10_1 x11_1 t589 x13_1 (wrap64 (Int.tdiv x38_1 a1_0)) x16_23 x17_23 (y580.length : Int) x38_1 a1_0 a1_1 l1_2 = some (r1, r2, r3)) ∧ Aside0 (kq ≤ kj20) ∧ Aside0 (Kd.R (Kd.int .i64) 3 wc w.heap.size (fun k_ => some k_ ≠ (v584 : Value).ownBlock ∧ some k_ ≠ (v587 : Value).ownBlock) (.slice Ao13 x9_1.length co13) x9_1) ∧ Aside0 (Kd.R (Kd.int .i64) 3 wc w.heap.size (fun k_ => some k_ ≠ ((.slice Ao13 x9_1.length co13) : Value).ownBlock ∧ some k_ ≠ (v587 : Value).ownBlock) v584 x10_1) ∧ Aside0 (Kd.R (Kd.int .i64) 3 wc w.heap.size (fun k_ => some k_ ≠ ((.slice Ao13 x9_1.length co13) : Value).ownBlock ∧ some k_ ≠ (v584 : Value).ownBlock) v587 x11_1) ∧ Aside0 (wc.heap[gb576]? = some (.cells #[.int .i64 a1_0, .int .i64 a1_1, (.slice A1_2 l1_2.length c1_2)] 27 (0, 0))) ∧ Aside0 (Below w.heap.size w wc))
         case first =>
          have H := HC24.out; clear HC24
          by_cases c25 : x54_20 = true
          ·subst c25
           have H1 : (spec_l4Run.j2 kj20 l0 a2 x9_1 x10_1 x11_1 t589 x13_1 (wrap64 (Int.tdiv x38_1 a1_0)) (wrap64 ((wrap64 (a1_0 - 1)) - (Int.tmod x38_1 a1_0))) (-1) (y580.length : Int) x38_1 a1_0 a1_1 l1_2) = some (r1, r2, r3) := by rw [if_pos rfl] at H; exact H
           clear H; have H := H1; clear H1
           have H' := Aside0.mk H
           clear H
           obtain ⟨hcz26_0, hcz26_1, hcz26_2, hfz26_0, hfz26_1, hfz26_2⟩ := sZ_ BK576.out
           go_wp2
           go_meet
           case rel => exact ⟨_, (wrap64 ((wrap64 (a1_0 - 1)) - (Int.tmod x38_1 a1_0))), ((-1)), (by first | rfl | (simp; done) | (simp [*]; done)), (by first | rfl | (simp; done) | (simp [*]; done)), H', ⟨by have := HK1.out; have := HJ20.out; first | omega | exact Nat.le_refl _⟩, ⟨by (try simp only [hl9_1]); (with_reducible repeat (first | apply Kd.R_alloc | apply Kd.R_drewN | apply Kd.R_drew)); exact HO_9.out⟩, ⟨by (try simp only [hl9_1]); (with_reducible repeat (first | apply Kd.R_alloc | apply Kd.R_drewN | apply Kd.R_drew)); exact HO_10.out⟩, ⟨by (try simp only [hl9_1]); (with_reducible repeat (first | apply Kd.R_alloc | apply Kd.R_drewN | apply Kd.R_drew)); exact HO_11.out⟩, ⟨by (try simp only [hl9_1]); refine sB_ ?_; exact BK576.out⟩, ⟨by repeat (first | (with_reducible first | exact HB.out | apply below_alloc | apply pw_below_drewN | apply below_drew1 | refine below_set ?_ GE576.out) | exact HB.out)⟩⟩
          replace c25 := Bool.eq_false_iff.mpr c25
          subst c25
          have H1 : (spec_l4Run.j2 kj20 l0 a2 x9_1 x10_1 x11_1 t589 x13_1 (wrap64 (Int.tdiv x38_1 a1_0)) (Int.tmod x38_1 a1_0) 1 (y580.length : Int) x38_1 a1_0 a1_1 l1_2) = some (r1, r2, r3) := by rw [if_neg (show ¬ (false = true) by decide)] at H; exact H
          clear H; have H := H1; clear H1
          have H' := Aside0.mk H
          clear H
          go_wp2
          go_meet
          case rel => exact ⟨_, ((Int.tmod x38_1 a1_0)), (1), (by first | rfl | (simp; done) | (simp [*]; done)), (by first | rfl | (simp; done) | (simp [*]; done)), H', ⟨by have := HK1.out; have := HJ20.out; first | omega | exact Nat.le_refl _⟩, ⟨by (try simp only [hl9_1]); (with_reducible repeat (first | apply Kd.R_alloc | apply Kd.R_drewN | apply Kd.R_drew)); exact HO_9.out⟩, ⟨by (try simp only [hl9_1]); (with_reducible repeat (first | apply Kd.R_alloc | apply Kd.R_drewN | apply Kd.R_drew)); exact HO_10.out⟩, ⟨by (try simp only [hl9_1]); (with_reducible repeat (first | apply Kd.R_alloc | apply Kd.R_drewN | apply Kd.R_drew)); exact HO_11.out⟩, ⟨by (try simp only [hl9_1]); refine sB_ ?_; exact BK576.out⟩, ⟨by repeat (first | (with_reducible first | exact HB.out | apply below_alloc | apply pw_below_drewN | apply below_drew1 | refine below_set ?_ GE576.out) | exact HB.out)⟩⟩
         case rest =>
          clear HC24
          try clear c1
          try clear c2
          try clear p2
          try clear c4
          try clear c5
          try clear c5b0
          try clear c5b1
          try clear c6
          try clear c6b0
          try clear c6b1
          try clear p6
          try clear c19
          try clear c19b0
          try clear c20
          try clear c20b0
          try clear c20b1
          try clear c23
          try clear c25
          try clear hcz11_0
          try clear hcz11_1
          try clear hcz11_2
          try clear hcz22_0
          try clear hcz22_1
          try clear hcz22_2
          try clear hcz26_0
          try clear hcz26_1
          try clear hcz26_2
          try clear hfz11_0
          try clear hfz11_1
          try clear hfz11_2
          try clear hfz22_0
          try clear hfz22_1
          try clear hfz22_2
          try clear hfz26_0
          try clear hfz26_1
          try clear hfz26_2
          try clear p2
          try clear p6
          obtain ⟨kq, x16_23, x17_23, rfl, rfl, HA, HJ23, HO_9, HO_10, HO_11, BK576, HB⟩ := hcut
          cases kq with
          | zero => exact absurd HA.out (by simp [spec_l4Run.j2])
          | succ kj23 =>
           have H := HA.out; clear HA
           simp only [spec_l4Run.j2] at H
           obtain ⟨ji27, hji27⟩ : ∃ j_ : Int, (wrap64 ((wrap64 ((wrap64 (Int.tdiv x38_1 a1_0)) * a1_0)) + x16_23)) = j_ := ⟨_, rfl⟩
           replace H : (if 0 ≤ (ji27) then (if (ji27) < (x9_1.length : Int) then (if (rd x9_1 (ji27)) ≥ 128 then (if (ji27) < (x10_1.length : Int) then (spec_l4Run.j3 kj23 l0 a2 x9_1 (x10_1.set ((ji27) : Int).toNat 1) x11_1 t589 x13_1 (wrap64 (Int.tdiv x38_1 a1_0)) x16_23 x17_23 ji27 (wrap64 ((rd x9_1 (ji27)) - 255)) (y580.length : Int) x38_1 a1_0 a1_1 l1_2) else (none)) else (spec_l4Run.j3 kj23 l0 a2 x9_1 x10_1 x11_1 t589 x13_1 (wrap64 (Int.tdiv x38_1 a1_0)) x16_23 x17_23 ji27 (rd x9_1 (ji27)) (y580.length : Int) x38_1 a1_0 a1_1 l1_2)) else (none)) else (none)) = some (r1, r2, r3) := by first | (rw [hji27] at H; exact H) | (simp only [hji27] at H ⊢; exact H)
           have hji27w : (IntKind.i64.wrap ((wrap64 ((wrap64 (Int.tdiv x38_1 a1_0)) * a1_0)) + x16_23)) = ji27 := (i64_w _).trans hji27
           have hji27n : (IntKind.i64.wrap ((IntKind.i64.wrap ((IntKind.i64.wrap (Int.tdiv x38_1 a1_0)) * a1_0)) + x16_23)) = ji27 := by first | (simpa only [i64_w] using hji27) | (simp only [i64_w]; exact hji27)
           by_cases c28 : 0 ≤ (ji27)
           ·rw [if_pos c28] at H
            have c28b0 : decide (0 ≤ (ji27)) = true := decide_eq_true c28
            clear c28
            by_cases c29 : (ji27) < (x9_1.length : Int)
            ·rw [if_pos c29] at H
             have c29b0 : decide ((ji27) < (x9_1.length : Int)) = true := decide_eq_true c29
             (try (have c29b0_hl11_5 := c29b0; simp only [hl11_5] at c29b0_hl11_5))
             (try (have c29b0_hl9_1 := c29b0; simp only [hl9_1] at c29b0_hl9_1))
             (try (have c29b0_hl9_5 := c29b0; simp only [hl9_5] at c29b0_hl9_5))
             clear c29
             have HC30 := Aside0.mk H
             clear H
             obtain ⟨hcz31_0, hcz31_1, hcz31_2, hfz31_0, hfz31_1, hfz31_2⟩ := sZ_ BK576.out
             have p590 : 0 ≤ ((ji27) : Int) := of_decide_eq_true (by first | (with_reducible assumption) | assumption)
             have q590 : (ji27) < (x9_1.length : Int) := of_decide_eq_true (by first | (with_reducible assumption) | assumption)
             obtain ⟨ad590, e590, hx590_0⟩ := Kd.at_int (Kd.R_reads' HO_9.out).2.2 (ji27) p590 q590
             cases e590
             replace p590 := eq_true p590
             replace q590 := eq_true q590
             go_upto_if 71 with (fail)
             go_cut [19] (fun v19 wc => ∃ (kq : Nat) (x10_29 : List Int) (x19_29 : Int), v19 = .int .i64 x19_29 ∧ Aside0 (spec_l4Run.j3 kq l0 a2 x9_1 x10_29 x11_1 t589 x13_1 (wrap64 (Int.tdiv x38_1 a1_0)) x16_23 x17_23 ji27 x19_29 (y580.length : Int) x38_1 a1_0 a1_1 l1_2 = some (r1, r2, r3)) ∧ Aside0 (kq ≤ kj23) ∧ Aside0 (Kd.R (Kd.int .i64) 3 wc w.heap.size (fun k_ => some k_ ≠ (v584 : Value).ownBlock ∧ some k_ ≠ (v587 : Value).ownBlock) (.slice (some ad590) x9_1.length co13) x9_1) ∧ Aside0 (Kd.R (Kd.int .i64) 3 wc w.heap.size (fun k_ => some k_ ≠ ((.slice (some ad590) x9_1.length co13) : Value).ownBlock ∧ some k_ ≠ (v587 : Value).ownBlock) v584 x10_29) ∧ Aside0 (Kd.R (Kd.int .i64) 3 wc w.heap.size (fun k_ => some k_ ≠ ((.slice (some ad590) x9_1.length co13) : Value).ownBlock ∧ some k_ ≠ (v584 : Value).ownBlock) v587 x11_1) ∧ Aside0 (wc.heap[gb576]? = some (.cells #[.int .i64 a1_0, .int .i64 a1_1, (.slice A1_2 l1_2.length c1_2)] 27 (0, 0))) ∧ Aside0 (Below w.heap.size w wc))
             case first =>
              have H := HC30.out; clear HC30
              by_cases c32 : (rd x9_1 (ji27)) ≥ 128
              ·rw [if_pos c32] at H
               have c32b0 : decide (128 ≤ (rd x9_1 (ji27))) = true := decide_eq_true c32
               clear c32
               (first | rw [c32b0] | (simp only [i64_w, i32_w]; rw [c32b0]) | skip)
               by_cases c33 : (ji27) < (x10_1.length : Int)
               ·rw [if_pos c33] at H
                have c33b0 : decide ((ji27) < (x10_1.length : Int)) = true := decide_eq_true c33
                (try (have c33b0_hl11_5 := c33b0; simp only [hl11_5] at c33b0_hl11_5))
                (try (have c33b0_hl9_1 := c33b0; simp only [hl9_1] at c33b0_hl9_1))
                (try (have c33b0_hl9_5 := c33b0; simp only [hl9_5] at c33b0_hl9_5))
                clear c33
                obtain ⟨y591, hy591⟩ : ∃ y_ : List Int, y_ = (x10_1.set ((ji27) : Int).toNat 1) := ⟨_, rfl⟩
                replace H : (spec_l4Run.j3 kj23 l0 a2 x9_1 y591 x11_1 t589 x13_1 (wrap64 (Int.tdiv x38_1 a1_0)) x16_23 x17_23 ji27 (wrap64 ((rd x9_1 (ji27)) - 255)) (y580.length : Int) x38_1 a1_0 a1_1 l1_2) = some (r1, r2, r3) := by first | (rw [hy591]; with_reducible exact H) | (have H2_ := (Option.bind_some _ _).symm.trans H; rw [hy591]; with_reducible exact H2_) | (have H2_ := (Option.bind_some _ _).symm.trans H; with_reducible exact H2_) | with_reducible exact H | (rw [hy591]; exact H) | exact H
                have Ny591 := Aside0.mk hy591
                clear hy591
                have H' := Aside0.mk H
                clear H
                have p34 : 0 ≤ ((ji27) : Int) := of_decide_eq_true (by first | (with_reducible assumption) | assumption)
                have q34 : ((ji27) : Int) < ((x10_1.length : Int) : Int) := of_decide_eq_true (by first | (with_reducible assumption) | assumption)
                obtain ⟨go34, co34, eo34, gb34, gl34, cl34, HG34⟩ := Kd.R_form HO_10.out (by omega)
                (first | cases eo34 | (injection eo34 with ea_ en_ ec_; (first | subst ea_ | (injection ea_ with ea_; subst ea_)); subst ec_; clear en_))
                have GB34 := Aside0.mk gb34
                have GG34 := Aside0.mk HG34
                clear gb34 gl34 HG34
                obtain ⟨hx34_0, hf34_0⟩ := Kd.R_celln 0 HO_10.out ((ji27) : Int) p34 q34
                replace p34 := eq_true p34
                replace q34 := eq_true q34
                have HP35 := Kd.R_putg HO_10.out ((ji27) : Int) 1
                go_wp2_with (first | ((with_reducible refine gate_store (t := 3) (p := 74) rfl ?_); refine store_event (t := 3) (p := 74) (v := ?vo_w36) (w1 := (wc.setCell ⟨go34, ((ji27) : Int).toNat, none⟩ (.int .i64 1))) ?hg ?ho ?hn ?hr ?_; (case ho => rfl); (case hg => rfl); (case hn => rfl); (case hr => first | (go_simp; done) | (go_simp; rfl)); intro w36 hw; have hg : wc.grownBy w36 (some go34) := (by rw [hw]; exact HP35.2); have hp_ : Kd.R (Kd.int .i64) 3 w36 w.heap.size (fun k_ => some k_ ≠ (.slice (some ad590) x9_1.length co13 : Value).ownBlock ∧ some k_ ≠ (v587 : Value).ownBlock) (.slice (some ⟨go34, 0, none⟩) x10_1.length co34) y591 := (by rw [hw, Ny591.out]; exact HP35.1); clear HP35; have n0_ := Aside0.mk (Kd.R_after (v := (.slice (some ⟨go34, 0, none⟩) x10_1.length co34)) (v1 := (.slice (some ⟨go34, 0, none⟩) x10_1.length co34)) (ok := (fun k_ => some k_ ≠ (v587 : Value).ownBlock)) (by (with_reducible repeat (first | apply Kd.R_alloc | apply Kd.R_drewN | apply Kd.R_drew)); exact Kd.R_mono HO_9.out (fun _ hk => ⟨hk.2, hk.1⟩)) hg (.inl rfl)); have n1_ := Aside0.mk (hp_); have n2_ := Aside0.mk (Kd.R_after (v := (.slice (some ⟨go34, 0, none⟩) x10_1.length co34)) (v1 := (.slice (some ⟨go34, 0, none⟩) x10_1.length co34)) (ok := (fun k_ => some k_ ≠ (.slice (some ad590) x9_1.length co13 : Value).ownBlock)) (sR_ HO_11.out) hg (.inl rfl)); have n3_ := Aside0.mk (blk_grown (sB_ BK576.out) hg (Kd.R_ne HO_10.out BK576.out (by decide))); have n4_ := Aside0.mk ((by rw [hw]; exact below_set (HB.out) GB34.out : Below w.heap.size w w36)); clear HO_9 HO_10 HO_11 BK576 HB; have HO_9 := n0_; have HO_10 := n1_; have HO_11 := n2_; have BK576 := n3_; have HB := n4_; clear n0_ n1_ n2_ n3_ n4_; clear hg hw hp_))
                go_meet
                case rel => exact ⟨_, (y591), (wrap64 ((rd x9_1 (ji27)) - 255)), (by first | rfl | (simp; done) | (simp only [← hji27] <;> (first | rfl | simp)) | (simp [*]; done)), H', ⟨by have := HK1.out; have := HJ20.out; have := HJ23.out; first | omega | exact Nat.le_refl _⟩, ⟨by (try simp only [hl9_1]); (with_reducible repeat (first | apply Kd.R_alloc | apply Kd.R_drewN | apply Kd.R_drew)); exact Kd.R_mono HO_9.out (fun _ hk => ⟨hk.2, hk.1⟩)⟩, ⟨by (try simp only [hl9_1]); (with_reducible repeat (first | apply Kd.R_alloc | apply Kd.R_drewN | apply Kd.R_drew)); exact HO_10.out⟩, ⟨by (try simp only [hl9_1]); (with_reducible repeat (first | apply Kd.R_alloc | apply Kd.R_drewN | apply Kd.R_drew)); exact HO_11.out⟩, ⟨by (try simp only [hl9_1]); refine sB_ ?_; exact BK576.out⟩, ⟨by repeat (first | (with_reducible first | exact HB.out | apply below_alloc | apply pw_below_drewN | apply below_drew1 | refine below_set ?_ GE576.out) | exact HB.out)⟩⟩
               rw [if_neg c33] at H
               exact absurd H (by simp)
              rw [if_neg c32] at H
              have c32b0 : decide (128 ≤ (rd x9_1 (ji27))) = false := decide_eq_false c32
              clear c32
              (first | rw [c32b0] | (simp only [i64_w, i32_w]; rw [c32b0]) | skip)
              have H' := Aside0.mk H
              clear H
              go_wp2
              go_meet
              case rel => exact ⟨_, (x10_1), (rd x9_1 (ji27)), (by first | rfl | (simp; done) | (simp only [← hji27] <;> (first | rfl | simp)) | (simp [*]; done)), H', ⟨by have := HK1.out; have := HJ20.out; have := HJ23.out; first | omega | exact Nat.le_refl _⟩, ⟨by (try simp only [hl9_1]); (with_reducible repeat (first | apply Kd.R_alloc | apply Kd.R_drewN | apply Kd.R_drew)); exact HO_9.out⟩, ⟨by (try simp only [hl9_1]); (with_reducible repeat (first | apply Kd.R_alloc | apply Kd.R_drewN | apply Kd.R_drew)); exact HO_10.out⟩, ⟨by (try simp only [hl9_1]); (with_reducible repeat (first | apply Kd.R_alloc | apply Kd.R_drewN | apply Kd.R_drew)); exact HO_11.out⟩, ⟨by (try simp only [hl9_1]); refine sB_ ?_; exact BK576.out⟩, ⟨by repeat (first | (with_reducible first | exact HB.out | apply below_alloc | apply pw_below_drewN | apply below_drew1 | refine below_set ?_ GE576.out) | exact HB.out)⟩⟩
             case rest =>
              clear HC30
              try clear c1
              try clear c2
              try clear p2
              try clear c3
              try clear p3
              try clear q3
              try clear hx3
              try clear hf3
              try clear c4
              try clear c5
              try clear c5b0
              try clear c5b1
              try clear p5
              try clear q5
              try clear hx5
              try clear c6
              try clear c6b0
              try clear c6b1
              try clear p6
              try clear c19
              try clear c19b0
              try clear c20
              try clear c20b0
              try clear c20b1
              try clear c23
              try clear c25
              try clear c28
              try clear c28b0
              try clear c29
              try clear c29b0
              try clear c32
              try clear c32b0
              try clear c33
              try clear c33b0
              try clear p34
              try clear q34
              try clear hx34
              try clear hf34
              try clear hcz11_0
              try clear hcz11_1
              try clear hcz11_2
              try clear hcz22_0
              try clear hcz22_1
              try clear hcz22_2
              try clear hcz26_0
              try clear hcz26_1
              try clear hcz26_2
              try clear hcz31_0
              try clear hcz31_1
              try clear hcz31_2
              try clear hfz11_0
              try clear hfz11_1
              try clear hfz11_2
              try clear hfz22_0
              try clear hfz22_1
              try clear hfz22_2
              try clear hfz26_0
              try clear hfz26_1
              try clear hfz26_2
              try clear hfz31_0
              try clear hfz31_1
              try clear hfz31_2
              try clear hx34_0
              try clear hx590_0
              try clear p2
              try clear p34
              try clear p590
              try clear p6
              try clear q34
              try clear q590
              obtain ⟨kq, x10_29, x19_29, rfl, HA, HJ29, HO_9, HO_10, HO_11, BK576, HB⟩ := hcut
              cases kq with
              | zero => exact absurd HA.out (by simp [spec_l4Run.j3])
              | succ kj29 =>
               have H := HA.out; clear HA
               simp only [spec_l4Run.j3] at H
               by_cases c37 : 0 ≤ ji27
               ·rw [if_pos c37] at H
                have c37b0 : decide (0 ≤ ji27) = true := decide_eq_true c37
                clear c37
                by_cases c38 : ji27 < (x11_1.length : Int)
                ·rw [if_pos c38] at H
                 have c38b0 : decide (ji27 < (x11_1.length : Int)) = true := decide_eq_true c38
                 (try (have c38b0_hl11_5 := c38b0; simp only [hl11_5] at c38b0_hl11_5))
                 (try (have c38b0_hl9_1 := c38b0; simp only [hl9_1] at c38b0_hl9_1))
                 (try (have c38b0_hl9_5 := c38b0; simp only [hl9_5] at c38b0_hl9_5))
                 clear c38
                 obtain ⟨y592, hy592⟩ : ∃ y_ : List Int, y_ = (x11_1.set (ji27 : Int).toNat x19_29) := ⟨_, rfl⟩
                 replace H : ((spec_l4Shares.f kj29 l0 t589 x19_29).bind fun t593 => (spec_l4Run.l1 kj29 l0 a2 x9_1 x10_29 y592 t589 x13_1 (wrap64 (Int.tdiv x38_1 a1_0)) x16_23 x17_23 (y580.length : Int) x38_1 t593 (t593.length : Int) 0 a1_0 a1_1 l1_2)) = some (r1, r2, r3) := by first | (rw [hy592]; with_reducible exact H) | (have H2_ := (Option.bind_some _ _).symm.trans H; rw [hy592]; with_reducible exact H2_) | (have H2_ := (Option.bind_some _ _).symm.trans H; with_reducible exact H2_) | with_reducible exact H | (rw [hy592]; exact H) | exact H
                 have Ny592 := Aside0.mk hy592
                 clear hy592
                 replace H := Option.bind_eq_some_iff.mp H
                 obtain ⟨t593, A400, H⟩ := H
                 replace H : (spec_l4Run.l1 kj29 l0 a2 x9_1 x10_29 y592 t589 x13_1 (wrap64 (Int.tdiv x38_1 a1_0)) x16_23 x17_23 (y580.length : Int) x38_1 t593 (t593.length : Int) 0 a1_0 a1_1 l1_2) = some (r1, r2, r3) := H
                 have A40 := Aside0.mk A400
                 clear A400
                 have H' := Aside0.mk H
                 clear H
                 have p39 : 0 ≤ (ji27 : Int) := of_decide_eq_true (by first | (with_reducible assumption) | assumption)
                 have q39 : (ji27 : Int) < ((x11_1.length : Int) : Int) := of_decide_eq_true (by first | (with_reducible assumption) | assumption)
                 obtain ⟨go39, co39, eo39, gb39, gl39, cl39, HG39⟩ := Kd.R_form HO_11.out (by omega)
                 (first | cases eo39 | (injection eo39 with ea_ en_ ec_; (first | subst ea_ | (injection ea_ with ea_; subst ea_)); subst ec_; clear en_))
                 have GB39 := Aside0.mk gb39
                 have GG39 := Aside0.mk HG39
                 clear gb39 gl39 HG39
                 obtain ⟨hx39_0, hf39_0⟩ := Kd.R_celln 0 HO_11.out (ji27 : Int) p39 q39
                 replace p39 := eq_true p39
                 replace q39 := eq_true q39
                 have HP41 := Kd.R_putg HO_11.out (ji27 : Int) x19_29
                 go_wp2_with (first | ((with_reducible refine gate_store (t := 3) (p := 80) rfl ?_); refine store_event (t := 3) (p := 80) (v := ?vo_w42) (w1 := (wc.setCell ⟨go39, (ji27 : Int).toNat, none⟩ (.int .i64 x19_29))) ?hg ?ho ?hn ?hr ?_; (case ho => rfl); (case hg => rfl); (case hn => rfl); (case hr => first | (go_simp; done) | (go_simp; rfl)); intro w42 hw; have hg : wc.grownBy w42 (some go39) := (by rw [hw]; exact HP41.2); have hp_ : Kd.R (Kd.int .i64) 3 w42 w.heap.size (fun k_ => some k_ ≠ (.slice (some ad590) x9_1.length co13 : Value).ownBlock ∧ some k_ ≠ (v584 : Value).ownBlock) (.slice (some ⟨go39, 0, none⟩) x11_1.length co39) y592 := (by rw [hw, Ny592.out]; exact HP41.1); clear HP41; have n0_ := Aside0.mk (Kd.R_after (v := (.slice (some ⟨go39, 0, none⟩) x11_1.length co39)) (v1 := (.slice (some ⟨go39, 0, none⟩) x11_1.length co39)) (ok := (fun k_ => some k_ ≠ (v584 : Value).ownBlock)) (sR_ HO_9.out) hg (.inl rfl)); have n1_ := Aside0.mk (Kd.R_after (v := (.slice (some ⟨go39, 0, none⟩) x11_1.length co39)) (v1 := (.slice (some ⟨go39, 0, none⟩) x11_1.length co39)) (ok := (fun k_ => some k_ ≠ (.slice (some ad590) x9_1.length co13 : Value).ownBlock)) (sR_ HO_10.out) hg (.inl rfl)); have n2_ := Aside0.mk (hp_); have n3_ := Aside0.mk (blk_grown (sB_ BK576.out) hg (Kd.R_ne HO_11.out BK576.out (by decide))); have n4_ := Aside0.mk ((by rw [hw]; exact below_set (HB.out) GB39.out : Below w.heap.size w w42)); clear HO_9 HO_10 HO_11 BK576 HB; have HO_9 := n0_; have HO_10 := n1_; have HO_11 := n2_; have BK576 := n3_; have HB := n4_; clear n0_ n1_ n2_ n3_ n4_; clear hg hw hp_) | ((with_reducible refine gate_callee (f := 62) rfl ?_); refine goesL_ (some 84) rfl rfl Try.func62 (by kernel_rfl) rfl #[.slice A0 l0.length c0, .int .i64 t589, .int .i64 x19_29] rfl sL_ ?_; (with_reducible refine (spec_l4Shares.calls kj29 _ _ l0 t589 x19_29 t593 _ ?side1 ?side2 A40.out).mono ?_); (case side1 => repeat (first | exact (Kd.C_below HR0.out HB.out) | (with_reducible refine Kd.C_alloc ?_ _) | (with_reducible refine Kd.C_drewN ?_ _) | (with_reducible refine Kd.C_drew ?_))); (case side2 => exact HC0.out); rintro e w43 ⟨v594, rfl, ho0, hb⟩; refine ⟨_, rfl, ?_⟩; have n0_ := Aside0.mk (Kd.R_elder' (sR_ HO_9.out) (Kd.R_base ho0) hb); have n1_ := Aside0.mk (Kd.R_elder' (sR_ HO_10.out) (Kd.R_base ho0) hb); have n2_ := Aside0.mk (Kd.R_elder' (sR_ HO_11.out) (Kd.R_base ho0) hb); have n3_ := Aside0.mk (Kd.R_lower (Kd.R_new' (Kd.R_new' (Kd.R_new' ho0 (Kd.R_lt (sR_ HO_9.out))) (Kd.R_lt (sR_ HO_10.out))) (Kd.R_lt (sR_ HO_11.out))) (below_size (sW_ HB.out))); have n4_ := Aside0.mk (blk_below (sB_ BK576.out) hb); have n5_ := Aside0.mk (below_step (sW_ HB.out) hb); clear HO_9 HO_10 HO_11 BK576 HB; have HO_9 := n0_; have HO_10 := n1_; have HO_11 := n2_; have HO595 := n3_; have BK576 := n4_; have HB := n5_; clear n0_ n1_ n2_ n3_ n4_ n5_; (try clear hb); (try clear hb2); (try clear hk); (try clear hi); (try clear ho0); obtain ⟨Ao44, co44, eo44⟩ := Kd.R_slice HO595.out; subst eo44))
                 go_loopg [13, 86] kj29 (fun kq v13 v86 w' => ∃ (x9_5 : List Int) (x13_5 : Int) (x86_5 : Int), v13 = .int .i64 x13_5 ∧ v86 = .int .i64 x86_5 ∧ Aside0 (spec_l4Run.l1 kq l0 a2 x9_5 x10_29 y592 t589 x13_5 (wrap64 (Int.tdiv x38_1 a1_0)) x16_23 x17_23 (y580.length : Int) x38_1 t593 (t593.length : Int) x86_5 a1_0 a1_1 l1_2 = some (r1, r2, r3)) ∧ Aside0 (kq ≤ kj29) ∧ Aside0 (Kd.R (Kd.int .i64) 3 w' w.heap.size (fun k_ => some k_ ≠ (v584 : Value).ownBlock ∧ some k_ ≠ ((.slice (some ⟨go39, 0, none⟩) x11_1.length co39) : Value).ownBlock ∧ some k_ ≠ ((.slice Ao44 t593.length co44) : Value).ownBlock) (.slice (some ad590) x9_1.length co13) x9_5) ∧ Aside0 (Kd.R (Kd.int .i64) 3 w' w.heap.size (fun k_ => some k_ ≠ ((.slice (some ad590) x9_1.length co13) : Value).ownBlock ∧ some k_ ≠ ((.slice (some ⟨go39, 0, none⟩) x11_1.length co39) : Value).ownBlock ∧ some k_ ≠ ((.slice Ao44 t593.length co44) : Value).ownBlock) v584 x10_29) ∧ Aside0 (Kd.R (Kd.int .i64) 3 w' w.heap.size (fun k_ => some k_ ≠ ((.slice (some ad590) x9_1.length co13) : Value).ownBlock ∧ some k_ ≠ (v584 : Value).ownBlock ∧ some k_ ≠ ((.slice Ao44 t593.length co44) : Value).ownBlock) (.slice (some ⟨go39, 0, none⟩) x11_1.length co39) y592) ∧ Aside0 (Kd.R (Kd.int .i64) 3 w' w.heap.size (fun k_ => some k_ ≠ ((.slice (some ad590) x9_1.length co13) : Value).ownBlock ∧ some k_ ≠ (v584 : Value).ownBlock ∧ some k_ ≠ ((.slice (some ⟨go39, 0, none⟩) x11_1.length co39) : Value).ownBlock) (.slice Ao44 t593.length co44) t593) ∧ Aside0 (w'.heap[gb576]? = some (.cells #[.int .i64 a1_0, .int .i64 a1_1, (.slice A1_2 l1_2.length c1_2)] 27 (0, 0))) ∧ Aside0 (Below w.heap.size w w'))
                 case atStart => exact ⟨(x9_1), (x13_1), (0), (by first | rfl | (simp; done) | (simp [*]; done)), (by first | rfl | (simp; done) | (simp [*]; done)), H', ⟨Nat.le_refl _⟩, ⟨by (try simp only [hl9_1]); (with_reducible repeat (first | apply Kd.R_alloc | apply Kd.R_drewN | apply Kd.R_drew)); exact Kd.R_mono HO_9.out (fun _ hk => ⟨hk.1.1, ⟨hk.1.2, hk.2⟩⟩)⟩, ⟨by (try simp only [hl9_1]); (with_reducible repeat (first | apply Kd.R_alloc | apply Kd.R_drewN | apply Kd.R_drew)); exact Kd.R_mono HO_10.out (fun _ hk => ⟨hk.1.1, ⟨hk.1.2, hk.2⟩⟩)⟩, ⟨by (try simp only [hl9_1]); (with_reducible repeat (first | apply Kd.R_alloc | apply Kd.R_drewN | apply Kd.R_drew)); exact Kd.R_mono HO_11.out (fun _ hk => ⟨hk.1.1, ⟨hk.1.2, hk.2⟩⟩)⟩, ⟨by (try simp only [hl9_1]); (with_reducible repeat (first | apply Kd.R_alloc | apply Kd.R_drewN | apply Kd.R_drew)); exact Kd.R_mono HO595.out (fun _ hk => ⟨hk.1.1.2, ⟨hk.1.2, hk.2⟩⟩)⟩, ⟨by (try simp only [hl9_1]); refine sB_ ?_; exact BK576.out⟩, ⟨by repeat (first | (with_reducible first | exact HB.out | apply below_alloc | apply pw_below_drewN | apply below_drew1 | refine below_set ?_ GE576.out) | exact HB.out)⟩⟩
                 case round =>
                  clear H'
                  try clear c1
                  try clear c2
                  try clear p2
                  try clear c3
                  try clear p3
                  try clear q3
                  try clear hx3
                  try clear hf3
                  try clear c4
                  try clear c5
                  try clear c5b0
                  try clear c5b1
                  try clear p5
                  try clear q5
                  try clear hx5
                  try clear c6
                  try clear c6b0
                  try clear c6b1
                  try clear p6
                  try clear c19
                  try clear c19b0
                  try clear c20
                  try clear c20b0
                  try clear c20b1
                  try clear c23
                  try clear c25
                  try clear c28
                  try clear c28b0
                  try clear c29
                  try clear c29b0
                  try clear c32
                  try clear c32b0
                  try clear c33
                  try clear c33b0
                  try clear p34
                  try clear q34
                  try clear hx34
                  try clear hf34
                  try clear c37
                  try clear c37b0
                  try clear c38
                  try clear c38b0
                  try clear p39
                  try clear q39
                  try clear hx39
                  try clear hf39
                  try clear hcz11_0
                  try clear hcz11_1
                  try clear hcz11_2
                  try clear hcz22_0
                  try clear hcz22_1
                  try clear hcz22_2
                  try clear hcz26_0
                  try clear hcz26_1
                  try clear hcz26_2
                  try clear hcz31_0
                  try clear hcz31_1
                  try clear hcz31_2
                  try clear hfz11_0
                  try clear hfz11_1
                  try clear hfz11_2
                  try clear hfz22_0
                  try clear hfz22_1
                  try clear hfz22_2
                  try clear hfz26_0
                  try clear hfz26_1
                  try clear hfz26_2
                  try clear hfz31_0
                  try clear hfz31_1
                  try clear hfz31_2
                  try clear hx34_0
                  try clear hx39_0
                  try clear hx590_0
                  try clear p2
                  try clear p3
                  try clear p34
                  try clear p39
                  try clear p5
                  try clear p590
                  try clear p6
                  try clear q3
                  try clear q34
                  try clear q39
                  try clear q5
                  try clear q590
                  obtain ⟨x9_5, x13_5, x86_5, rfl, rfl, HA, HK5, HO_9, HO_10, HO_11, HO_84, BK576, HB⟩ := hrel
                  have hl9_5 := (Kd.R_reads' HO_9.out).1
                  rw [hl9_5] at HO_9
                  (try simp only [hl9_5])
                  (try simp only [hl9_5] at BK576)
                  (try simp only [hl9_5] at HO_10)
                  (try simp only [hl9_5] at HO_11)
                  (try simp only [hl9_5] at HO_84)
                  have hl11_5 := (Kd.R_reads' HO_11.out).1
                  rw [hl11_5] at HO_11
                  (try simp only [hl11_5])
                  (try simp only [hl11_5] at BK576)
                  (try simp only [hl11_5] at HO_9)
                  (try simp only [hl11_5] at HO_10)
                  (try simp only [hl11_5] at HO_84)
                  cases gk with
                  | zero => exact absurd HA.out (by simp [spec_l4Run.l1])
                  | succ k5 =>
                   have H := HA.out; clear HA
                   simp only [spec_l4Run.l1] at H
                   by_cases c45 : x86_5 < (t593.length : Int)
                   ·rw [if_pos c45] at H
                    have c45b0 : decide (x86_5 < (t593.length : Int)) = true := decide_eq_true c45
                    (try (have c45b0_hl11_5 := c45b0; simp only [hl11_5] at c45b0_hl11_5))
                    (try (have c45b0_hl9_1 := c45b0; simp only [hl9_1] at c45b0_hl9_1))
                    (try (have c45b0_hl9_5 := c45b0; simp only [hl9_5] at c45b0_hl9_5))
                    clear c45
                    by_cases c46 : 0 ≤ x86_5
                    ·rw [if_pos c46] at H
                     have c46b0 : decide (0 ≤ x86_5) = true := decide_eq_true c46
                     clear c46
                     by_cases c47 : x86_5 < (t593.length : Int)
                     ·rw [if_pos c47] at H
                      have c47b0 : decide (x86_5 < (t593.length : Int)) = true := decide_eq_true c47
                      (try (have c47b0_hl11_5 := c47b0; simp only [hl11_5] at c47b0_hl11_5))
                      (try (have c47b0_hl9_1 := c47b0; simp only [hl9_1] at c47b0_hl9_1))
                      (try (have c47b0_hl9_5 := c47b0; simp only [hl9_5] at c47b0_hl9_5))
                      clear c47
                      by_cases c48 : x86_5 < (l0.length : Int)
                      ·rw [if_pos c48] at H
                       have c48b0 : decide (x86_5 < (l0.length : Int)) = true := decide_eq_true c48
                       (try (have c48b0_hl11_5 := c48b0; simp only [hl11_5] at c48b0_hl11_5))
                       (try (have c48b0_hl9_1 := c48b0; simp only [hl9_1] at c48b0_hl9_1))
                       (try (have c48b0_hl9_5 := c48b0; simp only [hl9_5] at c48b0_hl9_5))
                       clear c48
                       replace H := Option.bind_eq_some_iff.mp H
                       obtain ⟨t599, A490, H⟩ := H
                       replace H : (if t599 = true then (if (wrap64 ((wrap64 (Int.tdiv x38_1 a1_0)) + ((rd_T68 l0 x86_5).f1))) < a1_1 then (if 0 ≤ (wrap64 ((wrap64 ((wrap64 ((wrap64 (Int.tdiv x38_1 a1_0)) + ((rd_T68 l0 x86_5).f1))) * a1_0)) + (wrap64 (x16_23 + (wrap64 (x17_23 * ((rd_T68 l0 x86_5).f0))))))) then (if (wrap64 ((wrap64 ((wrap64 ((wrap64 (Int.tdiv x38_1 a1_0)) + ((rd_T68 l0 x86_5).f1))) * a1_0)) + (wrap64 (x16_23 + (wrap64 (x17_23 * ((rd_T68 l0 x86_5).f0))))))) < (x9_5.length : Int) then (spec_l4Run.l1 k5 l0 a2 (x9_5.set ((wrap64 ((wrap64 ((wrap64 ((wrap64 (Int.tdiv x38_1 a1_0)) + ((rd_T68 l0 x86_5).f1))) * a1_0)) + (wrap64 (x16_23 + (wrap64 (x17_23 * ((rd_T68 l0 x86_5).f0))))))) : Int).toNat (wrap64 ((rd x9_5 (wrap64 ((wrap64 ((wrap64 ((wrap64 (Int.tdiv x38_1 a1_0)) + ((rd_T68 l0 x86_5).f1))) * a1_0)) + (wrap64 (x16_23 + (wrap64 (x17_23 * ((rd_T68 l0 x86_5).f0)))))))) + (rd t593 x86_5)))) x10_29 y592 t589 x13_5 (wrap64 (Int.tdiv x38_1 a1_0)) x16_23 x17_23 (y580.length : Int) x38_1 t593 (t593.length : Int) (wrap64 (x86_5 + 1)) a1_0 a1_1 l1_2) else (none)) else (none)) else (spec_l4Run.l1 k5 l0 a2 x9_5 x10_29 y592 t589 (wrap64 (x13_5 + (rd t593 x86_5))) (wrap64 (Int.tdiv x38_1 a1_0)) x16_23 x17_23 (y580.length : Int) x38_1 t593 (t593.length : Int) (wrap64 (x86_5 + 1)) a1_0 a1_1 l1_2)) else (spec_l4Run.l1 k5 l0 a2 x9_5 x10_29 y592 t589 (wrap64 (x13_5 + (rd t593 x86_5))) (wrap64 (Int.tdiv x38_1 a1_0)) x16_23 x17_23 (y580.length : Int) x38_1 t593 (t593.length : Int) (wrap64 (x86_5 + 1)) a1_0 a1_1 l1_2)) = some (r1, r2, r3) := H
                       have A49 := Aside0.mk A490
                       clear A490
                       by_cases c50 : t599 = true
                       ·subst c50
                        have H1 : (if (wrap64 ((wrap64 (Int.tdiv x38_1 a1_0)) + ((rd_T68 l0 x86_5).f1))) < a1_1 then (if 0 ≤ (wrap64 ((wrap64 ((wrap64 ((wrap64 (Int.tdiv x38_1 a1_0)) + ((rd_T68 l0 x86_5).f1))) * a1_0)) + (wrap64 (x16_23 + (wrap64 (x17_23 * ((rd_T68 l0 x86_5).f0))))))) then (if (wrap64 ((wrap64 ((wrap64 ((wrap64 (Int.tdiv x38_1 a1_0)) + ((rd_T68 l0 x86_5).f1))) * a1_0)) + (wrap64 (x16_23 + (wrap64 (x17_23 * ((rd_T68 l0 x86_5).f0))))))) < (x9_5.length : Int) then (spec_l4Run.l1 k5 l0 a2 (x9_5.set ((wrap64 ((wrap64 ((wrap64 ((wrap64 (Int.tdiv x38_1 a1_0)) + ((rd_T68 l0 x86_5).f1))) * a1_0)) + (wrap64 (x16_23 + (wrap64 (x17_23 * ((rd_T68 l0 x86_5).f0))))))) : Int).toNat (wrap64 ((rd x9_5 (wrap64 ((wrap64 ((wrap64 ((wrap64 (Int.tdiv x38_1 a1_0)) + ((rd_T68 l0 x86_5).f1))) * a1_0)) + (wrap64 (x16_23 + (wrap64 (x17_23 * ((rd_T68 l0 x86_5).f0)))))))) + (rd t593 x86_5)))) x10_29 y592 t589 x13_5 (wrap64 (Int.tdiv x38_1 a1_0)) x16_23 x17_23 (y580.length : Int) x38_1 t593 (t593.length : Int) (wrap64 (x86_5 + 1)) a1_0 a1_1 l1_2) else (none)) else (none)) else (spec_l4Run.l1 k5 l0 a2 x9_5 x10_29 y592 t589 (wrap64 (x13_5 + (rd t593 x86_5))) (wrap64 (Int.tdiv x38_1 a1_0)) x16_23 x17_23 (y580.length : Int) x38_1 t593 (t593.length : Int) (wrap64 (x86_5 + 1)) a1_0 a1_1 l1_2)) = some (r1, r2, r3) := by rw [if_pos rfl] at H; exact H
                        clear H; have H := H1; clear H1
                        by_cases c51 : (wrap64 ((wrap64 (Int.tdiv x38_1 a1_0)) + ((rd_T68 l0 x86_5).f1))) < a1_1
                        ·rw [if_pos c51] at H
                         have c51b0 : decide ((wrap64 ((wrap64 (Int.tdiv x38_1 a1_0)) + ((rd_T68 l0 x86_5).f1))) < a1_1) = true := decide_eq_true c51
                         clear c51
                         obtain ⟨ji52, hji52⟩ : ∃ j_ : Int, (wrap64 ((wrap64 ((wrap64 ((wrap64 (Int.tdiv x38_1 a1_0)) + ((rd_T68 l0 x86_5).f1))) * a1_0)) + (wrap64 (x16_23 + (wrap64 (x17_23 * ((rd_T68 l0 x86_5).f0))))))) = j_ := ⟨_, rfl⟩
                         replace H : (if 0 ≤ (ji52) then (if (ji52) < (x9_5.length : Int) then (spec_l4Run.l1 k5 l0 a2 (x9_5.set ((ji52) : Int).toNat (wrap64 ((rd x9_5 (ji52)) + (rd t593 x86_5)))) x10_29 y592 t589 x13_5 (wrap64 (Int.tdiv x38_1 a1_0)) x16_23 x17_23 (y580.length : Int) x38_1 t593 (t593.length : Int) (wrap64 (x86_5 + 1)) a1_0 a1_1 l1_2) else (none)) else (none)) = some (r1, r2, r3) := by first | (rw [hji52] at H; exact H) | (simp only [hji52] at H ⊢; exact H)
                         (try rw [hji52] at A49)
                         have hji52w : (IntKind.i64.wrap ((wrap64 ((wrap64 ((wrap64 (Int.tdiv x38_1 a1_0)) + ((rd_T68 l0 x86_5).f1))) * a1_0)) + (wrap64 (x16_23 + (wrap64 (x17_23 * ((rd_T68 l0 x86_5).f0))))))) = ji52 := (i64_w _).trans hji52
                         have hji52n : (IntKind.i64.wrap ((IntKind.i64.wrap ((IntKind.i64.wrap ((IntKind.i64.wrap (Int.tdiv x38_1 a1_0)) + ((rd_T68 l0 x86_5).f1))) * a1_0)) + (IntKind.i64.wrap (x16_23 + (IntKind.i64.wrap (x17_23 * ((rd_T68 l0 x86_5).f0))))))) = ji52 := by first | (simpa only [i64_w] using hji52) | (simp only [i64_w]; exact hji52)
                         by_cases c53 : 0 ≤ (ji52)
                         ·rw [if_pos c53] at H
                          have c53b0 : decide (0 ≤ (ji52)) = true := decide_eq_true c53
                          clear c53
                          by_cases c54 : (ji52) < (x9_5.length : Int)
                          ·rw [if_pos c54] at H
                           have c54b0 : decide ((ji52) < (x9_5.length : Int)) = true := decide_eq_true c54
                           (try (have c54b0_hl11_5 := c54b0; simp only [hl11_5] at c54b0_hl11_5))
                           (try (have c54b0_hl9_1 := c54b0; simp only [hl9_1] at c54b0_hl9_1))
                           (try (have c54b0_hl9_5 := c54b0; simp only [hl9_5] at c54b0_hl9_5))
                           clear c54
                           obtain ⟨y601, hy601⟩ : ∃ y_ : List Int, y_ = (x9_5.set ((ji52) : Int).toNat (wrap64 ((rd x9_5 (ji52)) + (rd t593 x86_5)))) := ⟨_, rfl⟩
                           replace H : (spec_l4Run.l1 k5 l0 a2 y601 x10_29 y592 t589 x13_5 (wrap64 (Int.tdiv x38_1 a1_0)) x16_23 x17_23 (y580.length : Int) x38_1 t593 (t593.length : Int) (wrap64 (x86_5 + 1)) a1_0 a1_1 l1_2) = some (r1, r2, r3) := by first | (rw [hy601]; with_reducible exact H) | (have H2_ := (Option.bind_some _ _).symm.trans H; rw [hy601]; with_reducible exact H2_) | (have H2_ := (Option.bind_some _ _).symm.trans H; with_reducible exact H2_) | with_reducible exact H | (rw [hy601]; exact H) | exact H
                           have Ny601 := Aside0.mk hy601
                           clear hy601
                           have H' := Aside0.mk H
                           clear H
                           have p596 : 0 ≤ (x86_5 : Int) := of_decide_eq_true (by first | (with_reducible assumption) | assumption)
                           have q596 : x86_5 < (t593.length : Int) := of_decide_eq_true (by first | (with_reducible assumption) | assumption)
                           obtain ⟨ad596, e596, hx596_0⟩ := Kd.at_int (Kd.R_reads' HO_84.out).2.2 x86_5 p596 q596
                           cases e596
                           replace p596 := eq_true p596
                           replace q596 := eq_true q596
                           have p597 : 0 ≤ (x86_5 : Int) := of_decide_eq_true (by first | (with_reducible assumption) | assumption)
                           have q597 : x86_5 < (l0.length : Int) := of_decide_eq_true (by first | (with_reducible assumption) | assumption)
                           obtain ⟨ad597, e597, hx597_0, hx597_1, hx597_2⟩ := at_T68 HR0.out x86_5 p597 q597
                           cases e597
                           replace hx597_0 := (HB.out.cell (World.block_lt_of_cell? w _ hx597_0)).trans hx597_0
                           replace hx597_1 := (HB.out.cell (World.block_lt_of_cell? w _ hx597_1)).trans hx597_1
                           replace hx597_2 := (HB.out.cell (World.block_lt_of_cell? w _ hx597_2)).trans hx597_2
                           replace p597 := eq_true p597
                           replace q597 := eq_true q597
                           have p598 : 0 ≤ (x86_5 : Int) := of_decide_eq_true (by first | (with_reducible assumption) | assumption)
                           have q598 : x86_5 < (l0.length : Int) := of_decide_eq_true (by first | (with_reducible assumption) | assumption)
                           obtain ⟨ad598, e598, hx598_0, hx598_1, hx598_2⟩ := at_T68 HR0.out x86_5 p598 q598
                           obtain rfl : ad597 = ad598 := (by injection e598)
                           replace hx598_0 := (HB.out.cell (World.block_lt_of_cell? w _ hx598_0)).trans hx598_0
                           replace hx598_1 := (HB.out.cell (World.block_lt_of_cell? w _ hx598_1)).trans hx598_1
                           replace hx598_2 := (HB.out.cell (World.block_lt_of_cell? w _ hx598_2)).trans hx598_2
                           replace p598 := eq_true p598
                           replace q598 := eq_true q598
                           obtain ⟨hcz56_0, hcz56_1, hcz56_2, hfz56_0, hfz56_1, hfz56_2⟩ := sZ_ BK576.out
                           try go_wp2_with (first | ((with_reducible refine gate_callee (f := 63) rfl ?_); refine goesL_ (some 111) rfl rfl Try.func63 (by kernel_rfl) rfl #[.int .i64 (wrap64 (x16_23 + (wrap64 (x17_23 * ((rd_T68 l0 x86_5).f0))))), .int .i64 0, .int .i64 (wrap64 (a1_0 - 1))] rfl sL_ ?_; (with_reducible refine (spec_l1In.calls (wrap64 (x16_23 + (wrap64 (x17_23 * ((rd_T68 l0 x86_5).f0))))) 0 (wrap64 (a1_0 - 1)) true _ A49.out).mono ?_); rintro e w' ⟨rfl, ⟨nd, rfl⟩⟩; refine ⟨_, rfl, ?_⟩; (try (rw [drewN_self wr]; generalize hq_ : World.drewN wr _ = wr; have n0_ : Aside0 (Kd.R (Kd.int .i64) 3 wr w.heap.size (fun k_ => some k_ ≠ (.slice (some ⟨go39, 0, none⟩) y592.length co39 : Value).ownBlock ∧ some k_ ≠ (.slice (some ad596) t593.length co44 : Value).ownBlock ∧ some k_ ≠ (.slice (some ad590) x9_5.length co13 : Value).ownBlock) v584 x10_29) := ⟨by rw [← hq_]; exact (by (with_reducible repeat (first | apply Kd.R_alloc | apply Kd.R_drewN | apply Kd.R_drew)); exact Kd.R_mono HO_10.out (fun _ hk => ⟨hk.2.1, ⟨hk.2.2, hk.1⟩⟩))⟩; have n1_ : Aside0 (Kd.R (Kd.int .i64) 3 wr w.heap.size (fun k_ => some k_ ≠ (v584 : Value).ownBlock ∧ some k_ ≠ (.slice (some ad596) t593.length co44 : Value).ownBlock ∧ some k_ ≠ (.slice (some ad590) x9_5.length co13 : Value).ownBlock) (.slice (some ⟨go39, 0, none⟩) y592.length co39) y592) := ⟨by rw [← hq_]; exact (by (with_reducible repeat (first | apply Kd.R_alloc | apply Kd.R_drewN | apply Kd.R_drew)); exact Kd.R_mono HO_11.out (fun _ hk => ⟨hk.2.1, ⟨hk.2.2, hk.1⟩⟩))⟩; have n2_ : Aside0 (Kd.R (Kd.int .i64) 3 wr w.heap.size (fun k_ => some k_ ≠ (v584 : Value).ownBlock ∧ some k_ ≠ (.slice (some ⟨go39, 0, none⟩) y592.length co39 : Value).ownBlock ∧ some k_ ≠ (.slice (some ad590) x9_5.length co13 : Value).ownBlock) (.slice (some ad596) t593.length co44) t593) := ⟨by rw [← hq_]; exact (by (with_reducible repeat (first | apply Kd.R_alloc | apply Kd.R_drewN | apply Kd.R_drew)); exact Kd.R_mono HO_84.out (fun _ hk => ⟨hk.2.1, ⟨hk.2.2, hk.1⟩⟩))⟩; have n3_ : Aside0 (Kd.R (Kd.int .i64) 3 wr w.heap.size (fun k_ => some k_ ≠ (v584 : Value).ownBlock ∧ some k_ ≠ (.slice (some ⟨go39, 0, none⟩) y592.length co39 : Value).ownBlock ∧ some k_ ≠ (.slice (some ad596) t593.length co44 : Value).ownBlock) (.slice (some ad590) x9_5.length co13) x9_5) := ⟨by rw [← hq_]; exact (sR_ HO_9.out)⟩; have n4_ : Aside0 (wr.heap[gb576]? = some (.cells #[.int .i64 a1_0, .int .i64 a1_1, .slice A1_2 l1_2.length c1_2] 27 (0, 0))) := ⟨by rw [← hq_]; exact (sB_ BK576.out)⟩; have n5_ : Aside0 (Below w.heap.size w wr) := ⟨by rw [← hq_]; exact (sW_ HB.out)⟩; clear HO_10 HO_11 HO_84 HO_9 BK576 HB hq_; have HO_10 := n0_; have HO_11 := n1_; have HO_84 := n2_; have HO_9 := n3_; have BK576 := n4_; have HB := n5_; clear n0_ n1_ n2_ n3_ n4_ n5_; obtain ⟨hcy_0, hcy_1, hcy_2, hfy_0, hfy_1, hfy_2⟩ := sZ_ BK576.out))))
                           have n0_ := Aside0.mk (Kd.R_drew HO_9.out)
                           have n1_ := Aside0.mk (Kd.R_drew HO_10.out)
                           have n2_ := Aside0.mk (Kd.R_drew HO_11.out)
                           have n3_ := Aside0.mk (Kd.R_drew HO_84.out)
                           have n4_ := Aside0.mk (blk_drew BK576.out)
                           have n5_ := Aside0.mk (below_drew1 HB.out)
                           clear HO_9 HO_10 HO_11 HO_84 BK576 HB; have HO_9 := n0_; have HO_10 := n1_; have HO_11 := n2_; have HO_84 := n3_; have BK576 := n4_; have HB := n5_; clear n0_ n1_ n2_ n3_ n4_ n5_
                           have p600 : 0 ≤ ((ji52) : Int) := of_decide_eq_true (by first | (with_reducible assumption) | assumption)
                           have q600 : (ji52) < (x9_5.length : Int) := of_decide_eq_true (by first | (with_reducible assumption) | assumption)
                           obtain ⟨ad600, e600, hx600_0⟩ := Kd.at_int (Kd.R_reads' HO_9.out).2.2 (ji52) p600 q600
                           obtain rfl : ad590 = ad600 := (by injection e600)
                           replace p600 := eq_true p600
                           replace q600 := eq_true q600
                           have p55 : 0 ≤ ((ji52) : Int) := of_decide_eq_true (by first | (with_reducible assumption) | assumption)
                           have q55 : ((ji52) : Int) < ((x9_5.length : Int) : Int) := of_decide_eq_true (by first | (with_reducible assumption) | assumption)
                           obtain ⟨go55, co55, eo55, gb55, gl55, cl55, HG55⟩ := Kd.R_form HO_9.out (by omega)
                           (first | cases eo55 | (injection eo55 with ea_ en_ ec_; (first | subst ea_ | (injection ea_ with ea_; subst ea_)); subst ec_; clear en_))
                           have GB55 := Aside0.mk gb55
                           have GG55 := Aside0.mk HG55
                           clear gb55 gl55 HG55
                           (first | simp only [add_plain] at hx590_0 | skip)
                           (first | simp only [add_plain] at hx600_0 | skip)
                           obtain ⟨hx55_0, hf55_0⟩ := Kd.R_celln 0 HO_9.out ((ji52) : Int) p55 q55
                           replace p55 := eq_true p55
                           replace q55 := eq_true q55
                           have HP58 := Kd.R_putn HO_9.out ((ji52) : Int) (wrap64 ((rd x9_5 (ji52)) + (rd t593 x86_5)))
                           rw [← Ny601.out] at HP58
                           have HQ58 := Aside0.mk HP58
                           clear HP58
                           refine start_ (n := 20) (S := fun w' => w'.cell? ⟨gb576, 0, none⟩ = some (.int .i64 a1_0) ∧ w'.cell? ⟨gb576, 1, none⟩ = some (.int .i64 a1_1) ∧ w'.cell? ⟨gb576, 2, none⟩ = some (.slice A1_2 l1_2.length c1_2) ∧ w'.cell? ⟨go55, ((ji52)).toNat, none⟩ = some (.int .i64 (rd x9_5 (ji52)))) (ds := [19]) #[false, false, false, false, false, false, false, false, false, false, false, false, false, false, false, false, false, false, false, false] (by kernel_rfl) rfl rfl ⟨(blk_cell BK576.out 0).trans rfl, (blk_cell BK576.out 1).trans rfl, (blk_cell BK576.out 2).trans rfl, hx600_0⟩ (fun hHeld => ?_); refine with_tabW spec_l4Run.tab27 spec_l4Run.bits27 (fun HT_ HW_ => ?_)
                           generalize wr.drew = w57 at HO_9 HO_10 HO_11 HO_84 BK576 HB GG55 HQ58 hf55_0 hx55_0 hx600_0 hHeld ⊢
                           refine pure_ (i := 0) (N := some 118) (v := ?_) (a' := ?_) #[true, false, false, false, false, false, false, false, false, false, false, false, false, false, false, false, false, false, false, false] rfl rfl (any_of HT_.out (by kernel_rfl)) (fun _ _ _ h => h) (Or.inl ⟨by rfl, ?_⟩) ?_ ?_
                           rotate_left
                           ·intro w'
                            go_simp
                            with_reducible rfl
                           rotate_left
                           ·simp only [Act.put, List.setIfInBounds_toArray, List.set_cons_zero, List.set_cons_succ, i64_w, i32_w]
                            rfl
                           refine pure_ (i := 1) (N := some 119) (v := ?_) (a' := ?_) #[true, true, false, false, false, false, false, false, false, false, false, false, false, false, false, false, false, false, false, false] rfl rfl (any_of HT_.out (by kernel_rfl)) (fun _ _ _ h => h) (Or.inl ⟨by rfl, ?_⟩) ?_ ?_
                           rotate_left
                           ·intro w'
                            go_simp
                            with_reducible rfl
                           rotate_left
                           ·simp only [Act.put, List.setIfInBounds_toArray, List.set_cons_zero, List.set_cons_succ, i64_w, i32_w]
                            rfl
                           refine pure_ (i := 2) (N := some 120) (v := ?_) (a' := ?_) #[true, true, true, false, false, false, false, false, false, false, false, false, false, false, false, false, false, false, false, false] rfl rfl (any_of HT_.out (by kernel_rfl)) (fun _ _ _ h => h) (Or.inl ⟨by rfl, ?_⟩) ?_ ?_
                           rotate_left
                           ·intro w'
                            go_simp
                            with_reducible rfl
                           rotate_left
                           ·simp only [Act.put, List.setIfInBounds_toArray, List.set_cons_zero, List.set_cons_succ, i64_w, i32_w]
                            rfl
                           refine pure_ (i := 5) (N := some 123) (v := ?_) (a' := ?_) #[true, true, true, false, false, true, false, false, false, false, false, false, false, false, false, false, false, false, false, false] rfl rfl (any_of HT_.out (by kernel_rfl)) (fun _ _ _ h => h) (Or.inl ⟨by rfl, ?_⟩) ?_ ?_
                           rotate_left
                           ·intro w'
                            go_simp
                            with_reducible rfl
                           rotate_left
                           ·simp only [Act.put, List.setIfInBounds_toArray, List.set_cons_zero, List.set_cons_succ, i64_w, i32_w]
                            rfl
                           refine pure_ (i := 7) (N := some 125) (v := ?_) (a' := ?_) #[true, true, true, false, false, true, false, true, false, false, false, false, false, false, false, false, false, false, false, false] rfl rfl (any_of HT_.out (by kernel_rfl)) (fun _ _ _ h => h) (Or.inl ⟨by rfl, ?_⟩) ?_ ?_
                           rotate_left
                           ·intro w'
                            go_simp
                            with_reducible rfl
                           rotate_left
                           ·simp only [Act.put, List.setIfInBounds_toArray, List.set_cons_zero, List.set_cons_succ, i64_w, i32_w]
                            rfl
                           refine pure_ (i := 8) (N := some 126) (v := ?_) (a' := ?_) #[true, true, true, false, false, true, false, true, true, false, false, false, false, false, false, false, false, false, false, false] rfl rfl (any_of HT_.out (by kernel_rfl)) (fun _ _ _ h => h) (Or.inl ⟨by rfl, ?_⟩) ?_ ?_
                           rotate_left
                           ·intro w'
                            go_simp
                            with_reducible rfl
                           rotate_left
                           ·simp only [Act.put, List.setIfInBounds_toArray, List.set_cons_zero, List.set_cons_succ, i64_w, i32_w]
                            rfl
                           refine pure_ (i := 9) (N := some 127) (v := ?_) (a' := ?_) #[true, true, true, false, false, true, false, true, true, true, false, false, false, false, false, false, false, false, false, false] rfl rfl (any_of HT_.out (by kernel_rfl)) (fun _ _ _ h => h) (Or.inl ⟨by rfl, ?_⟩) ?_ ?_
                           rotate_left
                           ·intro w'
                            go_simp
                            with_reducible rfl
                           rotate_left
                           ·simp only [Act.put, List.setIfInBounds_toArray, List.set_cons_zero, List.set_cons_succ, i64_w, i32_w]
                            rfl
                           refine pure_ (i := 12) (N := some 130) (v := ?_) (a' := ?_) #[true, true, true, false, false, true, false, true, true, true, false, false, true, false, false, false, false, false, false, false] rfl rfl (any_of HT_.out (by kernel_rfl)) (fun _ _ _ h => h) (Or.inl ⟨by rfl, ?_⟩) ?_ ?_
                           rotate_left
                           ·intro w'
                            go_simp
                            with_reducible rfl
                           rotate_left
                           ·simp only [Act.put, List.setIfInBounds_toArray, List.set_cons_zero, List.set_cons_succ, i64_w, i32_w]
                            rfl
                           refine pure_ (i := 16) (N := some 134) (v := ?_) (a' := ?_) #[true, true, true, false, false, true, false, true, true, true, false, false, true, false, false, false, true, false, false, false] rfl rfl (any_of HT_.out (by kernel_rfl)) (fun _ _ _ h => h) (Or.inl ⟨by rfl, ?_⟩) ?_ ?_
                           rotate_left
                           ·intro w'
                            go_simp
                            with_reducible rfl
                           rotate_left
                           ·simp only [Act.put, List.setIfInBounds_toArray, List.set_cons_zero, List.set_cons_succ, i64_w, i32_w]
                            rfl
                           refine take_ (i := 3) (N := some 121) (v := ?_) (a' := ?_) #[true, true, true, true, false, true, false, true, true, true, false, false, true, false, false, false, true, false, false, false] rfl rfl (take_ofW HT_.out HW_.out (by kernel_rfl)) (fun _ _ _ h => h) (Or.inl ⟨by rfl, ?_⟩) hHeld ?_ ?_
                           rotate_left
                           ·rintro w' ⟨s0, s1, s2, s3⟩
                            go_simp
                            with_reducible rfl
                           rotate_left
                           ·simp only [Act.put, List.setIfInBounds_toArray, List.set_cons_zero, List.set_cons_succ, i64_w, i32_w]
                            rfl
                           refine pure_ (i := 4) (N := some 122) (v := ?_) (a' := ?_) #[true, true, true, true, true, true, false, true, true, true, false, false, true, false, false, false, true, false, false, false] rfl rfl (any_of HT_.out (by kernel_rfl)) (fun _ _ _ h => h) (Or.inl ⟨by rfl, ?_⟩) ?_ ?_
                           rotate_left
                           ·intro w'
                            go_simp
                            with_reducible rfl
                           rotate_left
                           ·simp only [Act.put, List.setIfInBounds_toArray, List.set_cons_zero, List.set_cons_succ, i64_w, i32_w]
                            rfl
                           refine pure_ (i := 6) (N := some 124) (v := ?_) (a' := ?_) #[true, true, true, true, true, true, true, true, true, true, false, false, true, false, false, false, true, false, false, false] rfl rfl (any_of HT_.out (by kernel_rfl)) (fun _ _ _ h => h) (Or.inl ⟨by rfl, ?_⟩) ?_ ?_
                           rotate_left
                           ·intro w'
                            go_simp
                            with_reducible rfl
                           rotate_left
                           ·simp only [Act.put, List.setIfInBounds_toArray, List.set_cons_zero, List.set_cons_succ, i64_w, i32_w]
                            rfl
                           refine take_ (i := 10) (N := some 128) (v := ?_) (a' := ?_) #[true, true, true, true, true, true, true, true, true, true, true, false, true, false, false, false, true, false, false, false] rfl rfl (take_ofW HT_.out HW_.out (by kernel_rfl)) (fun _ _ _ h => h) (Or.inl ⟨by rfl, ?_⟩) hHeld ?_ ?_
                           rotate_left
                           ·rintro w' ⟨s0, s1, s2, s3⟩
                            go_simp
                            with_reducible rfl
                           rotate_left
                           ·simp only [Act.put, List.setIfInBounds_toArray, List.set_cons_zero, List.set_cons_succ, i64_w, i32_w]
                            rfl
                           refine pure_ (i := 11) (N := some 129) (v := ?_) (a' := ?_) #[true, true, true, true, true, true, true, true, true, true, true, true, true, false, false, false, true, false, false, false] rfl rfl (any_of HT_.out (by kernel_rfl)) (fun _ _ _ h => h) (Or.inl ⟨by rfl, ?_⟩) ?_ ?_
                           rotate_left
                           ·intro w'
                            go_simp
                            with_reducible rfl
                           rotate_left
                           ·simp only [Act.put, List.setIfInBounds_toArray, List.set_cons_zero, List.set_cons_succ, i64_w, i32_w]
                            rfl
                           refine pure_ (i := 13) (N := some 131) (v := ?_) (a' := ?_) #[true, true, true, true, true, true, true, true, true, true, true, true, true, true, false, false, true, false, false, false] rfl rfl (any_of HT_.out (by kernel_rfl)) (fun _ _ _ h => h) (Or.inl ⟨by rfl, ?_⟩) ?_ ?_
                           rotate_left
                           ·intro w'
                            go_simp
                            with_reducible rfl
                           rotate_left
                           ·simp only [Act.put, List.setIfInBounds_toArray, List.set_cons_zero, List.set_cons_succ, i64_w, i32_w]
                            rfl
                           refine pure_ (i := 14) (N := some 132) (v := ?_) (a' := ?_) #[true, true, true, true, true, true, true, true, true, true, true, true, true, true, true, false, true, false, false, false] rfl rfl (any_of HT_.out (by kernel_rfl)) (fun _ _ _ h => h) (Or.inl ⟨by rfl, ?_⟩) ?_ ?_
                           rotate_left
                           ·intro w'
                            go_simp
                            with_reducible rfl
                           rotate_left
                           ·simp only [Act.put, List.setIfInBounds_toArray, List.set_cons_zero, List.set_cons_succ, i64_w, i32_w]
                            rfl
                           refine take_ (i := 15) (N := some 133) (v := ?_) (a' := ?_) #[true, true, true, true, true, true, true, true, true, true, true, true, true, true, true, true, true, false, false, false] rfl rfl (take_ofW HT_.out HW_.out (by kernel_rfl)) (fun _ _ _ h => h) (Or.inl ⟨by rfl, ?_⟩) hHeld ?_ ?_
                           rotate_left
                           ·rintro w' ⟨s0, s1, s2, s3⟩
                            go_simp
                            with_reducible rfl
                           rotate_left
                           ·simp only [Act.put, List.setIfInBounds_toArray, List.set_cons_zero, List.set_cons_succ, i64_w, i32_w]
                            rfl
                           refine pure_ (i := 17) (N := some 135) (v := ?_) (a' := ?_) #[true, true, true, true, true, true, true, true, true, true, true, true, true, true, true, true, true, true, false, false] rfl rfl (any_of HT_.out (by kernel_rfl)) (fun _ _ _ h => h) (Or.inl ⟨by rfl, ?_⟩) ?_ ?_
                           rotate_left
                           ·intro w'
                            go_simp
                            with_reducible rfl
                           rotate_left
                           ·simp only [Act.put, List.setIfInBounds_toArray, List.set_cons_zero, List.set_cons_succ, i64_w, i32_w]
                            rfl
                           refine pure_ (i := 18) (N := some 136) (v := ?_) (a' := ?_) #[true, true, true, true, true, true, true, true, true, true, true, true, true, true, true, true, true, true, true, false] rfl rfl (any_of HT_.out (by kernel_rfl)) (fun _ _ _ h => h) (Or.inl ⟨by rfl, ?_⟩) ?_ ?_
                           rotate_left
                           ·intro w'
                            go_simp
                            with_reducible rfl
                           rotate_left
                           ·simp only [Act.put, List.setIfInBounds_toArray, List.set_cons_zero, List.set_cons_succ, i64_w, i32_w]
                            rfl
                           refine last_ (i := 19) (N := none) #[true, true, true, true, true, true, true, true, true, true, true, true, true, true, true, true, true, true, true, true] rfl rfl (one_of HT_.out (by kernel_rfl)) (by decide) (fun K hK => ?_)
                           refine skip_ (w1 := ?_) (by rfl) rfl ?_ ?_
                           rotate_left
                           ·go_simp
                            rfl
                           refine hK.out _ _ ?_
                           clear hK K
                           refine done_ (done_of HT_.out (by kernel_rfl)) ?_
                           try go_wp2
                           (try simp only [← hl9_5, ← hl11_5])
                           go_roundg k5
                           case measure => have := HK1.out; have := HJ20.out; have := HJ23.out; have := HJ29.out; have := HK5.out; omega
                           case rel => exact ⟨(y601), (x13_5), (wrap64 (x86_5 + 1)), (by first | rfl | (simp; done) | (simp [*]; done)), (by first | rfl | (simp; done) | (simp [*]; done)), H', ⟨by have := HK1.out; have := HJ20.out; have := HJ23.out; have := HJ29.out; have := HK5.out; omega⟩, ⟨by (try simp only [hl9_1]); (try simp only [hl9_5]); (try simp only [hl11_5]); (with_reducible repeat (first | apply Kd.R_alloc | apply Kd.R_drewN | apply Kd.R_drew)); exact HQ58.out⟩, ⟨by (try simp only [hl9_1]); (try simp only [hl9_5]); (try simp only [hl11_5]); (with_reducible repeat (first | apply Kd.R_alloc | apply Kd.R_drewN | apply Kd.R_drew)); exact Kd.R_mono (Kd.R_far (p := ⟨go55, ((ji52) : Int).toNat, none⟩) (Kd.R_mono HO_10.out (fun k_ hk => (⟨hk, fun e_ => hk.2.2 (by rw [e_]; rfl)⟩ : _ ∧ k_ ≠ go55))) (fun _ hk => hk.2) (.int .i64 (wrap64 ((rd x9_5 (ji52)) + (rd t593 x86_5))))) (fun _ hk => ⟨hk.1.2.2, ⟨hk.1.1, hk.1.2.1⟩⟩)⟩, ⟨by (try simp only [hl9_1]); (try simp only [hl9_5]); (try simp only [hl11_5]); (with_reducible repeat (first | apply Kd.R_alloc | apply Kd.R_drewN | apply Kd.R_drew)); exact Kd.R_mono (Kd.R_far (p := ⟨go55, ((ji52) : Int).toNat, none⟩) (Kd.R_mono HO_11.out (fun k_ hk => (⟨hk, fun e_ => hk.2.2 (by rw [e_]; rfl)⟩ : _ ∧ k_ ≠ go55))) (fun _ hk => hk.2) (.int .i64 (wrap64 ((rd x9_5 (ji52)) + (rd t593 x86_5))))) (fun _ hk => ⟨hk.1.2.2, ⟨hk.1.1, hk.1.2.1⟩⟩)⟩, ⟨by (try simp only [hl9_1]); (try simp only [hl9_5]); (try simp only [hl11_5]); (with_reducible repeat (first | apply Kd.R_alloc | apply Kd.R_drewN | apply Kd.R_drew)); exact Kd.R_mono (Kd.R_far (p := ⟨go55, ((ji52) : Int).toNat, none⟩) (Kd.R_mono HO_84.out (fun k_ hk => (⟨hk, fun e_ => hk.2.2 (by rw [e_]; rfl)⟩ : _ ∧ k_ ≠ go55))) (fun _ hk => hk.2) (.int .i64 (wrap64 ((rd x9_5 (ji52)) + (rd t593 x86_5))))) (fun _ hk => ⟨hk.1.2.2, ⟨hk.1.1, hk.1.2.1⟩⟩)⟩, ⟨by (try simp only [hl9_1]); (try simp only [hl9_5]); (try simp only [hl11_5]); refine sB_ ?_; refine blk_far ?_ (by have h_ := Kd.R_ne HO_9.out BK576.out (by decide); intro e_; exact h_ (by rw [e_]; rfl)) _; refine sB_ ?_; exact BK576.out⟩, ⟨by repeat (first | (with_reducible first | exact HB.out | apply below_alloc | apply pw_below_drewN | apply below_drew1 | refine below_set ?_ GB55.out | refine below_set ?_ GE576.out) | exact HB.out)⟩⟩
                          rw [if_neg c54] at H
                          exact absurd H (by simp)
                         rw [if_neg c53] at H
                         exact absurd H (by simp)
                        rw [if_neg c51] at H
                        have c51b0 : decide ((wrap64 ((wrap64 (Int.tdiv x38_1 a1_0)) + ((rd_T68 l0 x86_5).f1))) < a1_1) = false := decide_eq_false c51
                        clear c51
                        have H' := Aside0.mk H
                        clear H
                        have p596 : 0 ≤ (x86_5 : Int) := of_decide_eq_true (by first | (with_reducible assumption) | assumption)
                        have q596 : x86_5 < (t593.length : Int) := of_decide_eq_true (by first | (with_reducible assumption) | assumption)
                        obtain ⟨ad596, e596, hx596_0⟩ := Kd.at_int (Kd.R_reads' HO_84.out).2.2 x86_5 p596 q596
                        cases e596
                        replace p596 := eq_true p596
                        replace q596 := eq_true q596
                        have p597 : 0 ≤ (x86_5 : Int) := of_decide_eq_true (by first | (with_reducible assumption) | assumption)
                        have q597 : x86_5 < (l0.length : Int) := of_decide_eq_true (by first | (with_reducible assumption) | assumption)
                        obtain ⟨ad597, e597, hx597_0, hx597_1, hx597_2⟩ := at_T68 HR0.out x86_5 p597 q597
                        cases e597
                        replace hx597_0 := (HB.out.cell (World.block_lt_of_cell? w _ hx597_0)).trans hx597_0
                        replace hx597_1 := (HB.out.cell (World.block_lt_of_cell? w _ hx597_1)).trans hx597_1
                        replace hx597_2 := (HB.out.cell (World.block_lt_of_cell? w _ hx597_2)).trans hx597_2
                        replace p597 := eq_true p597
                        replace q597 := eq_true q597
                        have p598 : 0 ≤ (x86_5 : Int) := of_decide_eq_true (by first | (with_reducible assumption) | assumption)
                        have q598 : x86_5 < (l0.length : Int) := of_decide_eq_true (by first | (with_reducible assumption) | assumption)
                        obtain ⟨ad598, e598, hx598_0, hx598_1, hx598_2⟩ := at_T68 HR0.out x86_5 p598 q598
                        obtain rfl : ad597 = ad598 := (by injection e598)
                        replace hx598_0 := (HB.out.cell (World.block_lt_of_cell? w _ hx598_0)).trans hx598_0
                        replace hx598_1 := (HB.out.cell (World.block_lt_of_cell? w _ hx598_1)).trans hx598_1
                        replace hx598_2 := (HB.out.cell (World.block_lt_of_cell? w _ hx598_2)).trans hx598_2
                        replace p598 := eq_true p598
                        replace q598 := eq_true q598
                        obtain ⟨hcz59_0, hcz59_1, hcz59_2, hfz59_0, hfz59_1, hfz59_2⟩ := sZ_ BK576.out
                        go_wp2_with (first | ((with_reducible refine gate_callee (f := 63) rfl ?_); refine goesL_ (some 111) rfl rfl Try.func63 (by kernel_rfl) rfl #[.int .i64 (wrap64 (x16_23 + (wrap64 (x17_23 * ((rd_T68 l0 x86_5).f0))))), .int .i64 0, .int .i64 (wrap64 (a1_0 - 1))] rfl sL_ ?_; (with_reducible refine (spec_l1In.calls (wrap64 (x16_23 + (wrap64 (x17_23 * ((rd_T68 l0 x86_5).f0))))) 0 (wrap64 (a1_0 - 1)) true _ A49.out).mono ?_); rintro e w' ⟨rfl, ⟨nd, rfl⟩⟩; refine ⟨_, rfl, ?_⟩))
                        (try simp only [← hl9_5, ← hl11_5])
                        go_roundg k5
                        case measure => have := HK1.out; have := HJ20.out; have := HJ23.out; have := HJ29.out; have := HK5.out; omega
                        case rel => exact ⟨(x9_5), (wrap64 (x13_5 + (rd t593 x86_5))), (wrap64 (x86_5 + 1)), (by first | rfl | (simp; done) | (simp [*]; done)), (by first | rfl | (simp; done) | (simp [*]; done)), H', ⟨by have := HK1.out; have := HJ20.out; have := HJ23.out; have := HJ29.out; have := HK5.out; omega⟩, ⟨by (try simp only [hl9_1]); (try simp only [hl9_5]); (try simp only [hl11_5]); (with_reducible repeat (first | apply Kd.R_alloc | apply Kd.R_drewN | apply Kd.R_drew)); exact HO_9.out⟩, ⟨by (try simp only [hl9_1]); (try simp only [hl9_5]); (try simp only [hl11_5]); (with_reducible repeat (first | apply Kd.R_alloc | apply Kd.R_drewN | apply Kd.R_drew)); exact HO_10.out⟩, ⟨by (try simp only [hl9_1]); (try simp only [hl9_5]); (try simp only [hl11_5]); (with_reducible repeat (first | apply Kd.R_alloc | apply Kd.R_drewN | apply Kd.R_drew)); exact HO_11.out⟩, ⟨by (try simp only [hl9_1]); (try simp only [hl9_5]); (try simp only [hl11_5]); (with_reducible repeat (first | apply Kd.R_alloc | apply Kd.R_drewN | apply Kd.R_drew)); exact HO_84.out⟩, ⟨by (try simp only [hl9_1]); (try simp only [hl9_5]); (try simp only [hl11_5]); refine sB_ ?_; exact BK576.out⟩, ⟨by repeat (first | (with_reducible first | exact HB.out | apply below_alloc | apply pw_below_drewN | apply below_drew1 | refine below_set ?_ GE576.out) | exact HB.out)⟩⟩
                       replace c50 := Bool.eq_false_iff.mpr c50
                       subst c50
                       have H1 : (spec_l4Run.l1 k5 l0 a2 x9_5 x10_29 y592 t589 (wrap64 (x13_5 + (rd t593 x86_5))) (wrap64 (Int.tdiv x38_1 a1_0)) x16_23 x17_23 (y580.length : Int) x38_1 t593 (t593.length : Int) (wrap64 (x86_5 + 1)) a1_0 a1_1 l1_2) = some (r1, r2, r3) := by rw [if_neg (show ¬ (false = true) by decide)] at H; exact H
                       clear H; have H := H1; clear H1
                       have H' := Aside0.mk H
                       clear H
                       have p596 : 0 ≤ (x86_5 : Int) := of_decide_eq_true (by first | (with_reducible assumption) | assumption)
                       have q596 : x86_5 < (t593.length : Int) := of_decide_eq_true (by first | (with_reducible assumption) | assumption)
                       obtain ⟨ad596, e596, hx596_0⟩ := Kd.at_int (Kd.R_reads' HO_84.out).2.2 x86_5 p596 q596
                       cases e596
                       replace p596 := eq_true p596
                       replace q596 := eq_true q596
                       have p597 : 0 ≤ (x86_5 : Int) := of_decide_eq_true (by first | (with_reducible assumption) | assumption)
                       have q597 : x86_5 < (l0.length : Int) := of_decide_eq_true (by first | (with_reducible assumption) | assumption)
                       obtain ⟨ad597, e597, hx597_0, hx597_1, hx597_2⟩ := at_T68 HR0.out x86_5 p597 q597
                       cases e597
                       replace hx597_0 := (HB.out.cell (World.block_lt_of_cell? w _ hx597_0)).trans hx597_0
                       replace hx597_1 := (HB.out.cell (World.block_lt_of_cell? w _ hx597_1)).trans hx597_1
                       replace hx597_2 := (HB.out.cell (World.block_lt_of_cell? w _ hx597_2)).trans hx597_2
                       replace p597 := eq_true p597
                       replace q597 := eq_true q597
                       have p598 : 0 ≤ (x86_5 : Int) := of_decide_eq_true (by first | (with_reducible assumption) | assumption)
                       have q598 : x86_5 < (l0.length : Int) := of_decide_eq_true (by first | (with_reducible assumption) | assumption)
                       obtain ⟨ad598, e598, hx598_0, hx598_1, hx598_2⟩ := at_T68 HR0.out x86_5 p598 q598
                       obtain rfl : ad597 = ad598 := (by injection e598)
                       replace hx598_0 := (HB.out.cell (World.block_lt_of_cell? w _ hx598_0)).trans hx598_0
                       replace hx598_1 := (HB.out.cell (World.block_lt_of_cell? w _ hx598_1)).trans hx598_1
                       replace hx598_2 := (HB.out.cell (World.block_lt_of_cell? w _ hx598_2)).trans hx598_2
                       replace p598 := eq_true p598
                       replace q598 := eq_true q598
                       obtain ⟨hcz60_0, hcz60_1, hcz60_2, hfz60_0, hfz60_1, hfz60_2⟩ := sZ_ BK576.out
                       go_wp2_with (first | ((with_reducible refine gate_callee (f := 63) rfl ?_); refine goesL_ (some 111) rfl rfl Try.func63 (by kernel_rfl) rfl #[.int .i64 (wrap64 (x16_23 + (wrap64 (x17_23 * ((rd_T68 l0 x86_5).f0))))), .int .i64 0, .int .i64 (wrap64 (a1_0 - 1))] rfl sL_ ?_; (with_reducible refine (spec_l1In.calls (wrap64 (x16_23 + (wrap64 (x17_23 * ((rd_T68 l0 x86_5).f0))))) 0 (wrap64 (a1_0 - 1)) false _ A49.out).mono ?_); rintro e w' ⟨rfl, ⟨nd, rfl⟩⟩; refine ⟨_, rfl, ?_⟩))
                       (try simp only [← hl9_5, ← hl11_5])
                       go_roundg k5
                       case measure => have := HK1.out; have := HJ20.out; have := HJ23.out; have := HJ29.out; have := HK5.out; omega
                       case rel => exact ⟨(x9_5), (wrap64 (x13_5 + (rd t593 x86_5))), (wrap64 (x86_5 + 1)), (by first | rfl | (simp; done) | (simp [*]; done)), (by first | rfl | (simp; done) | (simp [*]; done)), H', ⟨by have := HK1.out; have := HJ20.out; have := HJ23.out; have := HJ29.out; have := HK5.out; omega⟩, ⟨by (try simp only [hl9_1]); (try simp only [hl9_5]); (try simp only [hl11_5]); (with_reducible repeat (first | apply Kd.R_alloc | apply Kd.R_drewN | apply Kd.R_drew)); exact HO_9.out⟩, ⟨by (try simp only [hl9_1]); (try simp only [hl9_5]); (try simp only [hl11_5]); (with_reducible repeat (first | apply Kd.R_alloc | apply Kd.R_drewN | apply Kd.R_drew)); exact HO_10.out⟩, ⟨by (try simp only [hl9_1]); (try simp only [hl9_5]); (try simp only [hl11_5]); (with_reducible repeat (first | apply Kd.R_alloc | apply Kd.R_drewN | apply Kd.R_drew)); exact HO_11.out⟩, ⟨by (try simp only [hl9_1]); (try simp only [hl9_5]); (try simp only [hl11_5]); (with_reducible repeat (first | apply Kd.R_alloc | apply Kd.R_drewN | apply Kd.R_drew)); exact HO_84.out⟩, ⟨by (try simp only [hl9_1]); (try simp only [hl9_5]); (try simp only [hl11_5]); refine sB_ ?_; exact BK576.out⟩, ⟨by repeat (first | (with_reducible first | exact HB.out | apply below_alloc | apply pw_below_drewN | apply below_drew1 | refine below_set ?_ GE576.out) | exact HB.out)⟩⟩
                      rw [if_neg c48] at H
                      exact absurd H (by simp)
                     rw [if_neg c47] at H
                     exact absurd H (by simp)
                    rw [if_neg c46] at H
                    exact absurd H (by simp)
                   rw [if_neg c45] at H
                   have c45b0 : decide (x86_5 < (t593.length : Int)) = false := decide_eq_false c45
                   (try (have c45b0_hl11_5 := c45b0; simp only [hl11_5] at c45b0_hl11_5))
                   (try (have c45b0_hl9_1 := c45b0; simp only [hl9_1] at c45b0_hl9_1))
                   (try (have c45b0_hl9_5 := c45b0; simp only [hl9_5] at c45b0_hl9_5))
                   clear c45
                   have H' := Aside0.mk H
                   clear H
                   go_wp2
                   (try simp only [← hl9_1, ← hl9_5, ← hl11_5])
                   go_roundg k5
                   case measure => have := HK1.out; have := HJ20.out; have := HJ23.out; have := HJ29.out; have := HK5.out; omega
                   case rel => exact ⟨(x9_5), (x10_29), (y592), (x13_5), (wrap64 (x38_1 + 1)), (by first | rfl | (simp; done) | (simp [*]; done)), (by first | rfl | (simp; done) | (simp [*]; done)), H', ⟨by have := HK1.out; have := HJ20.out; have := HJ23.out; have := HJ29.out; have := HK5.out; omega⟩, ⟨by (try simp only [hl9_1]); (try simp only [hl9_5]); (try simp only [hl11_5]); (with_reducible repeat (first | apply Kd.R_alloc | apply Kd.R_drewN | apply Kd.R_drew)); exact Kd.R_mono HO_9.out (fun _ hk => ⟨hk.1, hk.2.1⟩)⟩, ⟨by (try simp only [hl9_1]); (try simp only [hl9_5]); (try simp only [hl11_5]); (with_reducible repeat (first | apply Kd.R_alloc | apply Kd.R_drewN | apply Kd.R_drew)); exact Kd.R_mono HO_10.out (fun _ hk => ⟨hk.1, hk.2.1⟩)⟩, ⟨by (try simp only [hl9_1]); (try simp only [hl9_5]); (try simp only [hl11_5]); (with_reducible repeat (first | apply Kd.R_alloc | apply Kd.R_drewN | apply Kd.R_drew)); exact Kd.R_mono HO_11.out (fun _ hk => ⟨hk.1, hk.2.1⟩)⟩, ⟨by (try simp only [hl9_1]); (try simp only [hl9_5]); (try simp only [hl11_5]); refine sB_ ?_; exact BK576.out⟩, ⟨by repeat (first | (with_reducible first | exact HB.out | apply below_alloc | apply pw_below_drewN | apply below_drew1 | refine below_set ?_ GE576.out) | exact HB.out)⟩⟩
                rw [if_neg c38] at H
                exact absurd H (by simp)
               rw [if_neg c37] at H
               exact absurd H (by simp)
            rw [if_neg c29] at H
            exact absurd H (by simp)
           rw [if_neg c28] at H
           exact absurd H (by simp)
      rw [if_neg c19] at H
      have c19b0 : decide (x38_1 < (y580.length : Int)) = false := decide_eq_false c19
      (try (have c19b0_hl11_5 := c19b0; simp only [hl11_5] at c19b0_hl11_5))
      (try (have c19b0_hl9_1 := c19b0; simp only [hl9_1] at c19b0_hl9_1))
      (try (have c19b0_hl9_5 := c19b0; simp only [hl9_5] at c19b0_hl9_5))
      clear c19
      simp only [Option.some.injEq, Prod.mk.injEq] at H
      obtain ⟨rfl, rfl, rfl⟩ := H
      go_wp2
      go_ret3
      exact ⟨_, _, by first | rfl | (simp [errW_none, errW_some] <;> rfl) | (simp [*, errW_none, errW_some] <;> rfl), by (with_reducible repeat (first | apply Kd.R_alloc | apply Kd.R_drewN | apply Kd.R_drew)); exact Kd.R_mono HO_10.out (fun _ hk => hk.2), by (with_reducible repeat (first | apply Kd.R_alloc | apply Kd.R_drewN | apply Kd.R_drew)); exact Kd.R_mono HO_11.out (fun _ hk => hk.2), by repeat (first | (with_reducible first | exact HB.out | apply below_alloc | apply pw_below_drewN | apply below_drew1 | refine below_set ?_ GE576.out) | exact HB.out)⟩
   rw [if_neg c6] at H
   exact absurd H (by simp)
  rw [if_neg c5] at H
  exact absurd H (by simp)
 rw [if_neg c4] at H
 exact absurd H (by simp)

end Go.Proofs.Ytndnklicfibkeaa.P
