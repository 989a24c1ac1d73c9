-- Written by tools/seatprint.py (over the kit's print, changed in memory). Not trusted: Lean checks it.
import Derived.Test.YtndnklicfibkeaaP0
import Derived.Test.YtndnklicfibkeaaFimpldrawn
import Derived.Test.YtndnklicfibkeaaFimplcopied
import Derived.Test.YtndnklicfibkeaaFimplshares
namespace Go.Proofs.Ytndnklicfibkeaa.P
open Go.RowKit Go.Proofs.YtndnklicfibkeaaW.PrintWords Go.Proofs.YtndnklicfibkeaaW.PrintLast Go.Proofs.YtndnklicfibkeaaW.PrintMore
attribute [local go_sem] max2_int min2_int max_two min_two max_three min_three max_four min_four   -- for this text's walks alone
set_option linter.unusedVariables false
set_option linter.unusedSimpArgs false

/-! ### impl_diffused: function 36 -/
mutual
def impl_diffused.l0 : Nat → List (S68) → Bool → List Int → List Int → Int → Int → Int → Int → Int → List Int → Int → Int → List Int → Option (Int × Int × List Int × List Int × Int)
  | 0, _, _, _, _, _, _, _, _, _, _, _, _, _ => none
  | k + 1, x0, x2, x9, x11, x12, x36, x37, x279000, x279001, x279002, x291000, x291001, x291002 => if x37 < x36 then (if x2 = true then (impl_diffused.j1 k x0 x2 x9 x11 x12 x37 1 x36 x37 ((Int.tmod x37 2) == 1) x279000 x279001 x279002 x291000 x291001 x291002) else (impl_diffused.j1 k x0 x2 x9 x11 x12 x37 1 x36 x37 false x279000 x279001 x279002 x291000 x291001 x291002)) else (some (x291000, x291001, x291002, x11, x12))
def impl_diffused.j1 : Nat → List (S68) → Bool → List Int → List Int → Int → Int → Int → Int → Int → Bool → Int → Int → List Int → Int → Int → List Int → Option (Int × Int × List Int × List Int × Int)
  | 0, _, _, _, _, _, _, _, _, _, _, _, _, _, _, _, _ => none
  | k + 1, x0, x2, x9, x11, x12, x13, x14, x36, x37, x45, x279000, x279001, x279002, x291000, x291001, x291002 => if x45 = true then (impl_diffused.j2 k x0 x2 x9 x11 x12 x13 (-1) x36 x37 x279000 x279001 x279002 x291000 x291001 x291002) else (impl_diffused.j2 k x0 x2 x9 x11 x12 x13 x14 x36 x37 x279000 x279001 x279002 x291000 x291001 x291002)
def impl_diffused.j2 : Nat → List (S68) → Bool → List Int → List Int → Int → Int → Int → Int → Int → Int → Int → List Int → Int → Int → List Int → Option (Int × Int × List Int × List Int × Int)
  | 0, _, _, _, _, _, _, _, _, _, _, _, _, _, _, _ => none
  | k + 1, x0, x2, x9, x11, x12, x13, x14, x36, x37, x279000, x279001, x279002, x291000, x291001, x291002 => impl_diffused.l1 k x0 x2 x9 x11 x12 x13 x14 x36 x37 x279000 0 x279000 x279001 x279002 x291000 x291001 x291002
def impl_diffused.l1 : Nat → List (S68) → Bool → List Int → List Int → Int → Int → Int → Int → Int → Int → Int → Int → Int → List Int → Int → Int → List Int → Option (Int × Int × List Int × List Int × Int)
  | 0, _, _, _, _, _, _, _, _, _, _, _, _, _, _, _, _, _ => none
  | k + 1, x0, x2, x9, x11, x12, x13, x14, x36, x37, x47, x48, x279000, x279001, x279002, x291000, x291001, x291002 => if x48 < x47 then (if x14 < 0 then (impl_diffused.j4 k x0 x2 x9 x11 x12 x13 x14 (wrap64 ((wrap64 (x279000 - 1)) - x48)) x36 x37 x47 x48 x279000 x279001 x279002 x291000 x291001 x291002) else (impl_diffused.j4 k x0 x2 x9 x11 x12 x13 x14 x48 x36 x37 x47 x48 x279000 x279001 x279002 x291000 x291001 x291002)) else (impl_diffused.l0 k x0 x2 x9 x11 x12 x36 (wrap64 (x37 + 1)) x279000 x279001 x279002 x291000 x291001 x291002)
def impl_diffused.j4 : Nat → List (S68) → Bool → List Int → List Int → Int → Int → Int → Int → Int → Int → Int → Int → Int → Int → List Int → Int → Int → List Int → Option (Int × Int × List Int × List Int × Int)
  | 0, _, _, _, _, _, _, _, _, _, _, _, _, _, _, _, _, _, _ => none
  | k + 1, x0, x2, x9, x11, x12, x13, x14, x16, x36, x37, x47, x48, x279000, x279001, x279002, x291000, x291001, x291002 => if 0 ≤ (wrap64 ((wrap64 (x13 * x279000)) + x16)) then (if (wrap64 ((wrap64 (x13 * x279000)) + x16)) < (x9.length : Int) then (if (rd x9 (wrap64 ((wrap64 (x13 * x279000)) + x16))) ≥ 128 then (if (wrap64 ((wrap64 (x13 * x279000)) + x16)) < (x291002.length : Int) then (impl_diffused.j5 k x0 x2 x9 x11 x12 x13 x14 x16 (wrap64 ((wrap64 (x13 * x279000)) + x16)) (wrap64 ((rd x9 (wrap64 ((wrap64 (x13 * x279000)) + x16))) - 255)) x36 x37 x47 x48 x279000 x279001 x279002 x291000 x291001 (x291002.set ((wrap64 ((wrap64 (x13 * x279000)) + x16)) : Int).toNat 1)) else (none)) else (impl_diffused.j5 k x0 x2 x9 x11 x12 x13 x14 x16 (wrap64 ((wrap64 (x13 * x279000)) + x16)) (rd x9 (wrap64 ((wrap64 (x13 * x279000)) + x16))) x36 x37 x47 x48 x279000 x279001 x279002 x291000 x291001 x291002)) else (none)) else (none)
def impl_diffused.j5 : Nat → List (S68) → Bool → List Int → List Int → Int → Int → Int → Int → Int → Int → Int → Int → Int → Int → Int → Int → List Int → Int → Int → List Int → Option (Int × Int × List Int × List Int × Int)
  | 0, _, _, _, _, _, _, _, _, _, _, _, _, _, _, _, _, _, _, _, _ => none
  | k + 1, x0, x2, x9, x11, x12, x13, x14, x16, x17, x18, x36, x37, x47, x48, x279000, x279001, x279002, x291000, x291001, x291002 => if 0 ≤ x17 then (if x17 < (x11.length : Int) then ((impl_shares.f k x0 x18).bind fun t297 => (impl_diffused.l2 k x0 x2 x9 (x11.set (x17 : Int).toNat x18) x12 x13 x14 x16 x36 x37 x47 x48 t297 (t297.length : Int) 0 x279000 x279001 x279002 x291000 x291001 x291002)) else (none)) else (none)
def impl_diffused.l2 : Nat → List (S68) → Bool → List Int → List Int → Int → Int → Int → Int → Int → Int → Int → Int → List Int → Int → Int → Int → Int → List Int → Int → Int → List Int → Option (Int × Int × List Int × List Int × Int)
  | 0, _, _, _, _, _, _, _, _, _, _, _, _, _, _, _, _, _, _, _, _, _ => none
  | k + 1, x0, x2, x9, x11, x12, x13, x14, x16, x36, x37, x47, x48, x83, x84, x85, x279000, x279001, x279002, x291000, x291001, x291002 => if x85 < x84 then (if 0 ≤ x85 then (if x85 < (x83.length : Int) then (if x85 < (x0.length : Int) then (if (wrap64 (x16 + (wrap64 (x14 * ((rd_T68 x0 x85).f0))))) < 0 then (impl_diffused.l2 k x0 x2 x9 x11 (wrap64 (x12 + (rd x83 x85))) x13 x14 x16 x36 x37 x47 x48 x83 x84 (wrap64 (x85 + 1)) x279000 x279001 x279002 x291000 x291001 x291002) else (if (wrap64 (x16 + (wrap64 (x14 * ((rd_T68 x0 x85).f0))))) ≥ x279000 then (impl_diffused.l2 k x0 x2 x9 x11 (wrap64 (x12 + (rd x83 x85))) x13 x14 x16 x36 x37 x47 x48 x83 x84 (wrap64 (x85 + 1)) x279000 x279001 x279002 x291000 x291001 x291002) else (if (wrap64 (x13 + ((rd_T68 x0 x85).f1))) ≥ x279001 then (impl_diffused.l2 k x0 x2 x9 x11 (wrap64 (x12 + (rd x83 x85))) x13 x14 x16 x36 x37 x47 x48 x83 x84 (wrap64 (x85 + 1)) x279000 x279001 x279002 x291000 x291001 x291002) else (if 0 ≤ (wrap64 ((wrap64 ((wrap64 (x13 + ((rd_T68 x0 x85).f1))) * x279000)) + (wrap64 (x16 + (wrap64 (x14 * ((rd_T68 x0 x85).f0))))))) then (if (wrap64 ((wrap64 ((wrap64 (x13 + ((rd_T68 x0 x85).f1))) * x279000)) + (wrap64 (x16 + (wrap64 (x14 * ((rd_T68 x0 x85).f0))))))) < (x9.length : Int) then (impl_diffused.l2 k x0 x2 (x9.set ((wrap64 ((wrap64 ((wrap64 (x13 + ((rd_T68 x0 x85).f1))) * x279000)) + (wrap64 (x16 + (wrap64 (x14 * ((rd_T68 x0 x85).f0))))))) : Int).toNat (wrap64 ((rd x9 (wrap64 ((wrap64 ((wrap64 (x13 + ((rd_T68 x0 x85).f1))) * x279000)) + (wrap64 (x16 + (wrap64 (x14 * ((rd_T68 x0 x85).f0)))))))) + (rd x83 x85)))) x11 x12 x13 x14 x16 x36 x37 x47 x48 x83 x84 (wrap64 (x85 + 1)) x279000 x279001 x279002 x291000 x291001 x291002) else (none)) else (none))))) else (none)) else (none)) else (none)) else (impl_diffused.l1 k x0 x2 x9 x11 x12 x13 x14 x36 x37 x47 (wrap64 (x48 + 1)) x279000 x279001 x279002 x291000 x291001 x291002)
end
def impl_diffused.f (k : Nat) (l0 : List (S68)) (a1_0 : Int) (a1_1 : Int) (l1_2 : List Int) (a2 : Bool) : Option (Int × Int × List Int × List Int × Int) := (impl_copied.f a1_0 a1_1 l1_2).bind fun bt280 => ((impl_drawn.f a1_0 a1_1 56).bind fun bt285 => (if 0 ≤ (l1_2.length : Int) then (if ((l1_2.length : Int) : Int).toNat ≤ 35184372088832 then (impl_diffused.l0 k l0 a2 bt280.2.2 (List.replicate ((l1_2.length : Int) : Int).toNat 0) 0 a1_1 0 a1_0 a1_1 l1_2 bt285.1 bt285.2.1 bt285.2.2) else (none)) else (none)))
theorem impl_diffused.mono_l : ∀ k, (∀ y0 y1 y2 y3 y4 y5 y6 y7 y8 y9 y10 y11 y12, LeO (impl_diffused.l0 k y0 y1 y2 y3 y4 y5 y6 y7 y8 y9 y10 y11 y12) (impl_diffused.l0 (k + 1) y0 y1 y2 y3 y4 y5 y6 y7 y8 y9 y10 y11 y12)) ∧ (∀ y0 y1 y2 y3 y4 y5 y6 y7 y8 y9 y10 y11 y12 y13 y14 y15, LeO (impl_diffused.j1 k y0 y1 y2 y3 y4 y5 y6 y7 y8 y9 y10 y11 y12 y13 y14 y15) (impl_diffused.j1 (k + 1) y0 y1 y2 y3 y4 y5 y6 y7 y8 y9 y10 y11 y12 y13 y14 y15)) ∧ (∀ y0 y1 y2 y3 y4 y5 y6 y7 y8 y9 y10 y11 y12 y13 y14, LeO (impl_diffused.j2 k y0 y1 y2 y3 y4 y5 y6 y7 y8 y9 y10 y11 y12 y13 y14) (impl_diffused.j2 (k + 1) y0 y1 y2 y3 y4 y5 y6 y7 y8 y9 y10 y11 y12 y13 y14)) ∧ (∀ y0 y1 y2 y3 y4 y5 y6 y7 y8 y9 y10 y11 y12 y13 y14 y15 y16, LeO (impl_diffused.l1 k y0 y1 y2 y3 y4 y5 y6 y7 y8 y9 y10 y11 y12 y13 y14 y15 y16) (impl_diffused.l1 (k + 1) y0 y1 y2 y3 y4 y5 y6 y7 y8 y9 y10 y11 y12 y13 y14 y15 y16)) ∧ (∀ y0 y1 y2 y3 y4 y5 y6 y7 y8 y9 y10 y11 y12 y13 y14 y15 y16 y17, LeO (impl_diffused.j4 k y0 y1 y2 y3 y4 y5 y6 y7 y8 y9 y10 y11 y12 y13 y14 y15 y16 y17) (impl_diffused.j4 (k + 1) y0 y1 y2 y3 y4 y5 y6 y7 y8 y9 y10 y11 y12 y13 y14 y15 y16 y17)) ∧ (∀ y0 y1 y2 y3 y4 y5 y6 y7 y8 y9 y10 y11 y12 y13 y14 y15 y16 y17 y18 y19, LeO (impl_diffused.j5 k y0 y1 y2 y3 y4 y5 y6 y7 y8 y9 y10 y11 y12 y13 y14 y15 y16 y17 y18 y19) (impl_diffused.j5 (k + 1) y0 y1 y2 y3 y4 y5 y6 y7 y8 y9 y10 y11 y12 y13 y14 y15 y16 y17 y18 y19)) ∧ (∀ y0 y1 y2 y3 y4 y5 y6 y7 y8 y9 y10 y11 y12 y13 y14 y15 y16 y17 y18 y19 y20, LeO (impl_diffused.l2 k y0 y1 y2 y3 y4 y5 y6 y7 y8 y9 y10 y11 y12 y13 y14 y15 y16 y17 y18 y19 y20) (impl_diffused.l2 (k + 1) y0 y1 y2 y3 y4 y5 y6 y7 y8 y9 y10 y11 y12 y13 y14 y15 y16 y17 y18 y19 y20))
  | 0 => ⟨fun _ _ _ _ _ _ _ _ _ _ _ _ _ r h => by simp [impl_diffused.l0] at h, fun _ _ _ _ _ _ _ _ _ _ _ _ _ _ _ _ r h => by simp [impl_diffused.j1] at h, fun _ _ _ _ _ _ _ _ _ _ _ _ _ _ _ r h => by simp [impl_diffused.j2] at h, fun _ _ _ _ _ _ _ _ _ _ _ _ _ _ _ _ _ r h => by simp [impl_diffused.l1] at h, fun _ _ _ _ _ _ _ _ _ _ _ _ _ _ _ _ _ _ r h => by simp [impl_diffused.j4] at h, fun _ _ _ _ _ _ _ _ _ _ _ _ _ _ _ _ _ _ _ _ r h => by simp [impl_diffused.j5] at h, fun _ _ _ _ _ _ _ _ _ _ _ _ _ _ _ _ _ _ _ _ _ r h => by simp [impl_diffused.l2] at h⟩
  | k + 1 => by
    obtain ⟨ih0, ih1, ih2, ih3, ih4, ih5, ih6⟩ := impl_diffused.mono_l k
    refine ⟨?_, ?_, ?_, ?_, ?_, ?_, ?_⟩
    · intro y0 y1 y2 y3 y4 y5 y6 y7 y8 y9 y10 y11 y12
      unfold impl_diffused.l0
      repeat' first
      | (with_reducible exact ih0 _ _ _ _ _ _ _ _ _ _ _ _ _)
      | (with_reducible exact ih1 _ _ _ _ _ _ _ _ _ _ _ _ _ _ _ _)
      | (with_reducible exact ih2 _ _ _ _ _ _ _ _ _ _ _ _ _ _ _)
      | (with_reducible exact ih3 _ _ _ _ _ _ _ _ _ _ _ _ _ _ _ _ _)
      | (with_reducible exact ih4 _ _ _ _ _ _ _ _ _ _ _ _ _ _ _ _ _ _)
      | (with_reducible exact ih5 _ _ _ _ _ _ _ _ _ _ _ _ _ _ _ _ _ _ _ _)
      | (with_reducible exact ih6 _ _ _ _ _ _ _ _ _ _ _ _ _ _ _ _ _ _ _ _ _)
      | (with_reducible exact impl_shares.mono _ _ _)
      | (with_reducible exact LeO.refl _)
      | (with_reducible exact LeO.none _)
      | (with_reducible refine LeO.ite ?_ ?_)
      | (with_reducible refine LeO.bind ?_ (fun _ => ?_))
      | exact ih0 _ _ _ _ _ _ _ _ _ _ _ _ _
      | exact ih1 _ _ _ _ _ _ _ _ _ _ _ _ _ _ _ _
      | exact ih2 _ _ _ _ _ _ _ _ _ _ _ _ _ _ _
      | exact ih3 _ _ _ _ _ _ _ _ _ _ _ _ _ _ _ _ _
      | exact ih4 _ _ _ _ _ _ _ _ _ _ _ _ _ _ _ _ _ _
      | exact ih5 _ _ _ _ _ _ _ _ _ _ _ _ _ _ _ _ _ _ _ _
      | exact ih6 _ _ _ _ _ _ _ _ _ _ _ _ _ _ _ _ _ _ _ _ _
      | exact impl_shares.mono _ _ _
      | exact LeO.none _
      | refine LeO.ite ?_ ?_
      | refine LeO.bind ?_ (fun _ => ?_)
    · intro y0 y1 y2 y3 y4 y5 y6 y7 y8 y9 y10 y11 y12 y13 y14 y15
      unfold impl_diffused.j1
      repeat' first
      | (with_reducible exact ih0 _ _ _ _ _ _ _ _ _ _ _ _ _)
      | (with_reducible exact ih1 _ _ _ _ _ _ _ _ _ _ _ _ _ _ _ _)
      | (with_reducible exact ih2 _ _ _ _ _ _ _ _ _ _ _ _ _ _ _)
      | (with_reducible exact ih3 _ _ _ _ _ _ _ _ _ _ _ _ _ _ _ _ _)
      | (with_reducible exact ih4 _ _ _ _ _ _ _ _ _ _ _ _ _ _ _ _ _ _)
      | (with_reducible exact ih5 _ _ _ _ _ _ _ _ _ _ _ _ _ _ _ _ _ _ _ _)
      | (with_reducible exact ih6 _ _ _ _ _ _ _ _ _ _ _ _ _ _ _ _ _ _ _ _ _)
      | (with_reducible exact impl_shares.mono _ _ _)
      | (with_reducible exact LeO.refl _)
      | (with_reducible exact LeO.none _)
      | (with_reducible refine LeO.ite ?_ ?_)
      | (with_reducible refine LeO.bind ?_ (fun _ => ?_))
      | exact ih0 _ _ _ _ _ _ _ _ _ _ _ _ _
      | exact ih1 _ _ _ _ _ _ _ _ _ _ _ _ _ _ _ _
      | exact ih2 _ _ _ _ _ _ _ _ _ _ _ _ _ _ _
      | exact ih3 _ _ _ _ _ _ _ _ _ _ _ _ _ _ _ _ _
      | exact ih4 _ _ _ _ _ _ _ _ _ _ _ _ _ _ _ _ _ _
      | exact ih5 _ _ _ _ _ _ _ _ _ _ _ _ _ _ _ _ _ _ _ _
      | exact ih6 _ _ _ _ _ _ _ _ _ _ _ _ _ _ _ _ _ _ _ _ _
      | exact impl_shares.mono _ _ _
      | exact LeO.none _
      | refine LeO.ite ?_ ?_
      | refine LeO.bind ?_ (fun _ => ?_)
    · intro y0 y1 y2 y3 y4 y5 y6 y7 y8 y9 y10 y11 y12 y13 y14
      unfold impl_diffused.j2
      repeat' first
      | (with_reducible exact ih0 _ _ _ _ _ _ _ _ _ _ _ _ _)
      | (with_reducible exact ih1 _ _ _ _ _ _ _ _ _ _ _ _ _ _ _ _)
      | (with_reducible exact ih2 _ _ _ _ _ _ _ _ _ _ _ _ _ _ _)
      | (with_reducible exact ih3 _ _ _ _ _ _ _ _ _ _ _ _ _ _ _ _ _)
      | (with_reducible exact ih4 _ _ _ _ _ _ _ _ _ _ _ _ _ _ _ _ _ _)
      | (with_reducible exact ih5 _ _ _ _ _ _ _ _ _ _ _ _ _ _ _ _ _ _ _ _)
      | (with_reducible exact ih6 _ _ _ _ _ _ _ _ _ _ _ _ _ _ _ _ _ _ _ _ _)
      | (with_reducible exact impl_shares.mono _ _ _)
      | (with_reducible exact LeO.refl _)
      | (with_reducible exact LeO.none _)
      | (with_reducible refine LeO.ite ?_ ?_)
      | (with_reducible refine LeO.bind ?_ (fun _ => ?_))
      | exact ih0 _ _ _ _ _ _ _ _ _ _ _ _ _
      | exact ih1 _ _ _ _ _ _ _ _ _ _ _ _ _ _ _ _
      | exact ih2 _ _ _ _ _ _ _ _ _ _ _ _ _ _ _
      | exact ih3 _ _ _ _ _ _ _ _ _ _ _ _ _ _ _ _ _
      | exact ih4 _ _ _ _ _ _ _ _ _ _ _ _ _ _ _ _ _ _
      | exact ih5 _ _ _ _ _ _ _ _ _ _ _ _ _ _ _ _ _ _ _ _
      | exact ih6 _ _ _ _ _ _ _ _ _ _ _ _ _ _ _ _ _ _ _ _ _
      | exact impl_shares.mono _ _ _
      | exact LeO.none _
      | refine LeO.ite ?_ ?_
      | refine LeO.bind ?_ (fun _ => ?_)
    · intro y0 y1 y2 y3 y4 y5 y6 y7 y8 y9 y10 y11 y12 y13 y14 y15 y16
      unfold impl_diffused.l1
      repeat' first
      | (with_reducible exact ih0 _ _ _ _ _ _ _ _ _ _ _ _ _)
      | (with_reducible exact ih1 _ _ _ _ _ _ _ _ _ _ _ _ _ _ _ _)
      | (with_reducible exact ih2 _ _ _ _ _ _ _ _ _ _ _ _ _ _ _)
      | (with_reducible exact ih3 _ _ _ _ _ _ _ _ _ _ _ _ _ _ _ _ _)
      | (with_reducible exact ih4 _ _ _ _ _ _ _ _ _ _ _ _ _ _ _ _ _ _)
      | (with_reducible exact ih5 _ _ _ _ _ _ _ _ _ _ _ _ _ _ _ _ _ _ _ _)
      | (with_reducible exact ih6 _ _ _ _ _ _ _ _ _ _ _ _ _ _ _ _ _ _ _ _ _)
      | (with_reducible exact impl_shares.mono _ _ _)
      | (with_reducible exact LeO.refl _)
      | (with_reducible exact LeO.none _)
      | (with_reducible refine LeO.ite ?_ ?_)
      | (with_reducible refine LeO.bind ?_ (fun _ => ?_))
      | exact ih0 _ _ _ _ _ _ _ _ _ _ _ _ _
      | exact ih1 _ _ _ _ _ _ _ _ _ _ _ _ _ _ _ _
      | exact ih2 _ _ _ _ _ _ _ _ _ _ _ _ _ _ _
      | exact ih3 _ _ _ _ _ _ _ _ _ _ _ _ _ _ _ _ _
      | exact ih4 _ _ _ _ _ _ _ _ _ _ _ _ _ _ _ _ _ _
      | exact ih5 _ _ _ _ _ _ _ _ _ _ _ _ _ _ _ _ _ _ _ _
      | exact ih6 _ _ _ _ _ _ _ _ _ _ _ _ _ _ _ _ _ _ _ _ _
      | exact impl_shares.mono _ _ _
      | exact LeO.none _
      | refine LeO.ite ?_ ?_
      | refine LeO.bind ?_ (fun _ => ?_)
    · intro y0 y1 y2 y3 y4 y5 y6 y7 y8 y9 y10 y11 y12 y13 y14 y15 y16 y17
      unfold impl_diffused.j4
      repeat' first
      | (with_reducible exact ih0 _ _ _ _ _ _ _ _ _ _ _ _ _)
      | (with_reducible exact ih1 _ _ _ _ _ _ _ _ _ _ _ _ _ _ _ _)
      | (with_reducible exact ih2 _ _ _ _ _ _ _ _ _ _ _ _ _ _ _)
      | (with_reducible exact ih3 _ _ _ _ _ _ _ _ _ _ _ _ _ _ _ _ _)
      | (with_reducible exact ih4 _ _ _ _ _ _ _ _ _ _ _ _ _ _ _ _ _ _)
      | (with_reducible exact ih5 _ _ _ _ _ _ _ _ _ _ _ _ _ _ _ _ _ _ _ _)
      | (with_reducible exact ih6 _ _ _ _ _ _ _ _ _ _ _ _ _ _ _ _ _ _ _ _ _)
      | (with_reducible exact impl_shares.mono _ _ _)
      | (with_reducible exact LeO.refl _)
      | (with_reducible exact LeO.none _)
      | (with_reducible refine LeO.ite ?_ ?_)
      | (with_reducible refine LeO.bind ?_ (fun _ => ?_))
      | exact ih0 _ _ _ _ _ _ _ _ _ _ _ _ _
      | exact ih1 _ _ _ _ _ _ _ _ _ _ _ _ _ _ _ _
      | exact ih2 _ _ _ _ _ _ _ _ _ _ _ _ _ _ _
      | exact ih3 _ _ _ _ _ _ _ _ _ _ _ _ _ _ _ _ _
      | exact ih4 _ _ _ _ _ _ _ _ _ _ _ _ _ _ _ _ _ _
      | exact ih5 _ _ _ _ _ _ _ _ _ _ _ _ _ _ _ _ _ _ _ _
      | exact ih6 _ _ _ _ _ _ _ _ _ _ _ _ _ _ _ _ _ _ _ _ _
      | exact impl_shares.mono _ _ _
      | exact LeO.none _
      | refine LeO.ite ?_ ?_
      | refine LeO.bind ?_ (fun _ => ?_)
    · intro y0 y1 y2 y3 y4 y5 y6 y7 y8 y9 y10 y11 y12 y13 y14 y15 y16 y17 y18 y19
      unfold impl_diffused.j5
      repeat' first
      | (with_reducible exact ih0 _ _ _ _ _ _ _ _ _ _ _ _ _)
      | (with_reducible exact ih1 _ _ _ _ _ _ _ _ _ _ _ _ _ _ _ _)
      | (with_reducible exact ih2 _ _ _ _ _ _ _ _ _ _ _ _ _ _ _)
      | (with_reducible exact ih3 _ _ _ _ _ _ _ _ _ _ _ _ _ _ _ _ _)
      | (with_reducible exact ih4 _ _ _ _ _ _ _ _ _ _ _ _ _ _ _ _ _ _)
      | (with_reducible exact ih5 _ _ _ _ _ _ _ _ _ _ _ _ _ _ _ _ _ _ _ _)
      | (with_reducible exact ih6 _ _ _ _ _ _ _ _ _ _ _ _ _ _ _ _ _ _ _ _ _)
      | (with_reducible exact impl_shares.mono _ _ _)
      | (with_reducible exact LeO.refl _)
      | (with_reducible exact LeO.none _)
      | (with_reducible refine LeO.ite ?_ ?_)
      | (with_reducible refine LeO.bind ?_ (fun _ => ?_))
      | exact ih0 _ _ _ _ _ _ _ _ _ _ _ _ _
      | exact ih1 _ _ _ _ _ _ _ _ _ _ _ _ _ _ _ _
      | exact ih2 _ _ _ _ _ _ _ _ _ _ _ _ _ _ _
      | exact ih3 _ _ _ _ _ _ _ _ _ _ _ _ _ _ _ _ _
      | exact ih4 _ _ _ _ _ _ _ _ _ _ _ _ _ _ _ _ _ _
      | exact ih5 _ _ _ _ _ _ _ _ _ _ _ _ _ _ _ _ _ _ _ _
      | exact ih6 _ _ _ _ _ _ _ _ _ _ _ _ _ _ _ _ _ _ _ _ _
      | exact impl_shares.mono _ _ _
      | exact LeO.none _
      | refine LeO.ite ?_ ?_
      | refine LeO.bind ?_ (fun _ => ?_)
    · intro y0 y1 y2 y3 y4 y5 y6 y7 y8 y9 y10 y11 y12 y13 y14 y15 y16 y17 y18 y19 y20
      unfold impl_diffused.l2
      repeat' first
      | (with_reducible exact ih0 _ _ _ _ _ _ _ _ _ _ _ _ _)
      | (with_reducible exact ih1 _ _ _ _ _ _ _ _ _ _ _ _ _ _ _ _)
      | (with_reducible exact ih2 _ _ _ _ _ _ _ _ _ _ _ _ _ _ _)
      | (with_reducible exact ih3 _ _ _ _ _ _ _ _ _ _ _ _ _ _ _ _ _)
      | (with_reducible exact ih4 _ _ _ _ _ _ _ _ _ _ _ _ _ _ _ _ _ _)
      | (with_reducible exact ih5 _ _ _ _ _ _ _ _ _ _ _ _ _ _ _ _ _ _ _ _)
      | (with_reducible exact ih6 _ _ _ _ _ _ _ _ _ _ _ _ _ _ _ _ _ _ _ _ _)
      | (with_reducible exact impl_shares.mono _ _ _)
      | (with_reducible exact LeO.refl _)
      | (with_reducible exact LeO.none _)
      | (with_reducible refine LeO.ite ?_ ?_)
      | (with_reducible refine LeO.bind ?_ (fun _ => ?_))
      | exact ih0 _ _ _ _ _ _ _ _ _ _ _ _ _
      | exact ih1 _ _ _ _ _ _ _ _ _ _ _ _ _ _ _ _
      | exact ih2 _ _ _ _ _ _ _ _ _ _ _ _ _ _ _
      | exact ih3 _ _ _ _ _ _ _ _ _ _ _ _ _ _ _ _ _
      | exact ih4 _ _ _ _ _ _ _ _ _ _ _ _ _ _ _ _ _ _
      | exact ih5 _ _ _ _ _ _ _ _ _ _ _ _ _ _ _ _ _ _ _ _
      | exact ih6 _ _ _ _ _ _ _ _ _ _ _ _ _ _ _ _ _ _ _ _ _
      | exact impl_shares.mono _ _ _
      | exact LeO.none _
      | refine LeO.ite ?_ ?_
      | refine LeO.bind ?_ (fun _ => ?_)
theorem impl_diffused.mono : ∀ a0 a1 a2 a3 a4 k, LeO (impl_diffused.f k a0 a1 a2 a3 a4) (impl_diffused.f (k + 1) a0 a1 a2 a3 a4) := by
  intro a0 a1 a2 a3 a4 k
  obtain ⟨ih0, ih1, ih2, ih3, ih4, ih5, ih6⟩ := impl_diffused.mono_l k
  unfold impl_diffused.f
  repeat' first
      | (with_reducible exact ih0 _ _ _ _ _ _ _ _ _ _ _ _ _)
      | (with_reducible exact ih1 _ _ _ _ _ _ _ _ _ _ _ _ _ _ _ _)
      | (with_reducible exact ih2 _ _ _ _ _ _ _ _ _ _ _ _ _ _ _)
      | (with_reducible exact ih3 _ _ _ _ _ _ _ _ _ _ _ _ _ _ _ _ _)
      | (with_reducible exact ih4 _ _ _ _ _ _ _ _ _ _ _ _ _ _ _ _ _ _)
      | (with_reducible exact ih5 _ _ _ _ _ _ _ _ _ _ _ _ _ _ _ _ _ _ _ _)
      | (with_reducible exact ih6 _ _ _ _ _ _ _ _ _ _ _ _ _ _ _ _ _ _ _ _ _)
      | (with_reducible exact impl_shares.mono _ _ _)
      | (with_reducible exact LeO.refl _)
      | (with_reducible exact LeO.none _)
      | (with_reducible refine LeO.ite ?_ ?_)
      | (with_reducible refine LeO.bind ?_ (fun _ => ?_))
      | exact ih0 _ _ _ _ _ _ _ _ _ _ _ _ _
      | exact ih1 _ _ _ _ _ _ _ _ _ _ _ _ _ _ _ _
      | exact ih2 _ _ _ _ _ _ _ _ _ _ _ _ _ _ _
      | exact ih3 _ _ _ _ _ _ _ _ _ _ _ _ _ _ _ _ _
      | exact ih4 _ _ _ _ _ _ _ _ _ _ _ _ _ _ _ _ _ _
      | exact ih5 _ _ _ _ _ _ _ _ _ _ _ _ _ _ _ _ _ _ _ _
      | exact ih6 _ _ _ _ _ _ _ _ _ _ _ _ _ _ _ _ _ _ _ _ _
      | exact impl_shares.mono _ _ _
      | exact LeO.none _
      | refine LeO.ite ?_ ?_
      | refine LeO.bind ?_ (fun _ => ?_)
set_option maxHeartbeats 8000000 in
set_option maxRecDepth 100000 in
theorem impl_diffused.calls (k : Nat) (A0 : Option Addr) (c0 : Nat) (l0 : List (S68)) (a1_0 : Int) (a1_1 : Int) (A1_2 : Option Addr) (c1_2 : Nat) (l1_2 : List Int) (a2 : Bool) (r1 : Int) (r2 : Int) (r3 : List Int) (r4 : List Int) (r5 : Int) (w : World) (hr0 : Kd.C k68 w A0 l0.length l0) (hc0 : l0.length ≤ c0) (hr1_2 : Kd.C (Kd.int .i64) w A1_2 l1_2.length l1_2) (hc1_2 : l1_2.length ≤ c1_2) (h : impl_diffused.f k l0 a1_0 a1_1 l1_2 a2 = some (r1, r2, r3, r4, r5)) :
  Calls Try.prog 36 #[.slice A0 l0.length c0, .agg #[.int .i64 a1_0, .int .i64 a1_1, .slice A1_2 l1_2.length c1_2], .bool a2] w fun e w' => ∃ v2_ v3_ : Value, e = .returned (.tuple #[.agg #[.int .i64 r1, .int .i64 r2, v2_], v3_, .int .i64 r5]) ∧ Kd.R (Kd.int .i64) 3 w' w.heap.size (fun k_ => some k_ ≠ (v3_ : Value).ownBlock) v2_ r3 ∧ Kd.R (Kd.int .i64) 3 w' w.heap.size (fun k_ => some k_ ≠ (v2_ : Value).ownBlock) v3_ r4 ∧ Below w.heap.size w w' := by
 have hu27 := Try.underlying27
 have hfd27 : ∀ (w_ : World) (x_ y_ : Int) (v_ : Value), (Instr.field 27 (.agg #[.int .i64 x_, .int .i64 y_, v_]) 2).run Try.prog w_ = .ok v_ w_ := fun _ _ _ _ => by kernel_rfl
 have HR0 := Aside0.mk hr0
 have HC0 := Aside0.mk hc0
 clear hr0 hc0
 have HR1_2 := Aside0.mk hr1_2
 have HC1_2 := Aside0.mk hc1_2
 clear hr1_2 hc1_2
 have HB := Aside0.mk (Below.refl w.heap.size w)
 have H : ((impl_copied.f a1_0 a1_1 l1_2).bind fun bt280 => ((impl_drawn.f a1_0 a1_1 56).bind fun bt285 => (if 0 ≤ (l1_2.length : Int) then (if ((l1_2.length : Int) : Int).toNat ≤ 35184372088832 then (impl_diffused.l0 k l0 a2 bt280.2.2 (List.replicate ((l1_2.length : Int) : Int).toNat 0) 0 a1_1 0 a1_0 a1_1 l1_2 bt285.1 bt285.2.1 bt285.2.2) else (none)) else (none)))) = some (r1, r2, r3, r4, r5) := h
 clear h
 replace H := Option.bind_eq_some_iff.mp H
 obtain ⟨⟨t280, t281, t282⟩, A40, H⟩ := H
 replace H : ((impl_drawn.f a1_0 a1_1 56).bind fun bt285 => (if 0 ≤ (l1_2.length : Int) then (if ((l1_2.length : Int) : Int).toNat ≤ 35184372088832 then (impl_diffused.l0 k l0 a2 t282 (List.replicate ((l1_2.length : Int) : Int).toNat 0) 0 a1_1 0 a1_0 a1_1 l1_2 bt285.1 bt285.2.1 bt285.2.2) else (none)) else (none))) = some (r1, r2, r3, r4, r5) := H
 have A4 := Aside0.mk A40
 clear A40
 replace H := Option.bind_eq_some_iff.mp H
 obtain ⟨⟨t285, t286, t287⟩, A50, H⟩ := H
 replace H : (if 0 ≤ (l1_2.length : Int) then (if ((l1_2.length : Int) : Int).toNat ≤ 35184372088832 then (impl_diffused.l0 k l0 a2 t282 (List.replicate ((l1_2.length : Int) : Int).toNat 0) 0 a1_1 0 a1_0 a1_1 l1_2 t285 t286 t287) else (none)) else (none)) = some (r1, r2, r3, r4, r5) := H
 have A5 := Aside0.mk A50
 clear A50
 by_cases c6 : 0 ≤ (l1_2.length : Int)
 ·rw [if_pos c6] at H
  have c6b0 := eq_true c6
  have c6b1 : decide (0 ≤ (l1_2.length : Int)) = true := decide_eq_true c6
  clear c6
  by_cases c7 : ((l1_2.length : Int) : Int).toNat ≤ 35184372088832
  ·rw [if_pos c7] at H
   have c7b0 := eq_true c7
   have c7b1 : decide (((l1_2.length : Int) : Int).toNat ≤ 35184372088832) = true := decide_eq_true c7
   clear c7
   obtain ⟨y291, hy291⟩ : ∃ y_ : List Int, y_ = (List.replicate ((l1_2.length : Int) : Int).toNat 0) := ⟨_, rfl⟩
   replace H : (impl_diffused.l0 k l0 a2 t282 y291 0 a1_1 0 a1_0 a1_1 l1_2 t285 t286 t287) = some (r1, r2, r3, r4, r5) := by first | (rw [hy291]; with_reducible exact H) | (have H2_ := (Option.bind_some _ _).symm.trans H; rw [hy291]; with_reducible exact H2_) | (have H2_ := (Option.bind_some _ _).symm.trans H; with_reducible exact H2_) | with_reducible exact H | (rw [hy291]; exact H) | exact H
   have Ny291 := Aside0.mk hy291
   clear hy291
   have H' := Aside0.mk H
   clear H
   go_enter Try.func36, Try.ntmps36
   go_wp2_with (first | ((with_reducible refine gate_dst (N := 4) rfl ?_); refine box_event ?hg (N := 4) ?hd (cs := #[.int .i64 a1_0, .int .i64 a1_1, .slice A1_2 l1_2.length c1_2]) (t := 27) ?hr ?_; (case hd => rfl); (case hg => rfl); (case hr => first | (go_simp; done) | (go_simp; rfl)); intro gb278 hg w8 hbox hb; have n0_ := Aside0.mk (below_step (sW_ HB.out) hb); have n1_ := Aside0.mk (hbox); have n2_ := Aside0.mk ((by rw [hg]; exact (below_size (sW_ HB.out)) : w.heap.size ≤ gb278)); have n3_ := n2_; clear HB; have HB := n0_; have BK278 := n1_; have GW278 := n2_; have GE278 := n3_; clear n0_ n1_ n2_ n3_; clear hb hbox hg) | ((with_reducible refine gate_dst (N := 6) rfl ?_); refine box_event ?hg (N := 6) ?hd (cs := #[.int .i64 0, .int .i64 0, .slice none 0 0]) (t := 27) ?hr ?_; (case hd => rfl); (case hg => rfl); (case hr => first | (go_simp; done) | (go_simp; rfl)); intro gb279 hg w9 hbox hb; have n0_ := Aside0.mk (blk_below (sB_ BK278.out) hb); have n1_ := Aside0.mk (below_step (sW_ HB.out) hb); have n2_ := Aside0.mk (hbox); have n3_ := Aside0.mk ((by rw [hg]; exact (below_size (sW_ HB.out)) : w.heap.size ≤ gb279)); have n4_ := n3_; have n5_ := Aside0.mk (sN_ hg (blk_lt (sB_ BK278.out))); have n6_ := Aside0.mk n5_.out.symm; clear BK278 HB; have BK278 := n0_; have HB := n1_; have BK279 := n2_; have GW279 := n3_; have GE279 := n4_; have NB278_279 := n5_; have NB279_278 := n6_; clear n0_ n1_ n2_ n3_ n4_ n5_ n6_; clear hb hbox hg; have hnb10 := NB278_279.out; have hnc10 := NB279_278.out; obtain ⟨hcz11_0, hcz11_1, hcz11_2, hfz11_0, hfz11_1, hfz11_2⟩ := sZ_ BK278.out) | (go_at_call 55; (with_reducible refine (impl_copied.calls a1_0 a1_1 _ _ l1_2 t280 t281 t282 _ ?side1 ?side2 A4.out).mono ?_); (case side1 => repeat (first | exact (Kd.C_below HR1_2.out HB.out) | (with_reducible refine Kd.C_alloc ?_ _) | (with_reducible refine Kd.C_drewN ?_ _) | (with_reducible refine Kd.C_drew ?_))); (case side2 => exact HC1_2.out); rintro e w12 ⟨v283, rfl, ho0, hb⟩; have n0_ := Aside0.mk (Kd.R_lower ho0 (below_size (sW_ HB.out))); have n1_ := Aside0.mk (blk_below (sB_ BK278.out) hb); have n2_ := Aside0.mk (blk_below (sB_ BK279.out) hb); have n3_ := Aside0.mk (below_step (sW_ HB.out) hb); clear BK278 BK279 HB; have HO284 := n0_; have BK278 := n1_; have BK279 := n2_; have HB := n3_; clear n0_ n1_ n2_ n3_; (try clear hb); (try clear hb2); (try clear hk); (try clear hi); (try clear ho0); obtain ⟨Ao13, co13, eo13⟩ := Kd.R_slice HO284.out; subst eo13; obtain ⟨hcz14_0, hcz14_1, hcz14_2, hfz14_0, hfz14_1, hfz14_2⟩ := sZ_ BK278.out) | (go_at_call 44; (with_reducible refine (impl_drawn.calls a1_0 a1_1 56 t285 t286 t287 _ A5.out).mono ?_); rintro e w15 ⟨v288, rfl, ho0, hb⟩; have n0_ := Aside0.mk (Kd.R_elder' (sR_ HO284.out) (Kd.R_base ho0) hb); have n1_ := Aside0.mk (Kd.R_lower (Kd.R_new' ho0 (Kd.R_lt (sR_ HO284.out))) (below_size (sW_ HB.out))); have n2_ := Aside0.mk (blk_below (sB_ BK278.out) hb); have n3_ := Aside0.mk (blk_below (sB_ BK279.out) hb); have n4_ := Aside0.mk (below_step (sW_ HB.out) hb); clear HO284 BK278 BK279 HB; have HO284 := n0_; have HO289 := n1_; have BK278 := n2_; have BK279 := n3_; have HB := n4_; clear n0_ n1_ n2_ n3_ n4_; (try clear hb); (try clear hb2); (try clear hk); (try clear hi); (try clear ho0)) | ((with_reducible refine gate_dst (N := 10) rfl ?_); refine box_event ?hg (N := 10) ?hd (cs := #[.int .i64 0, .int .i64 0, .slice none 0 0]) (t := 27) ?hr ?_; (case hd => rfl); (case hg => rfl); (case hr => first | (go_simp; done) | (go_simp; rfl)); intro gb290 hg w16 hbox hb; have n0_ := Aside0.mk (Kd.R_below (sR_ HO284.out) hb); have n1_ := Aside0.mk (Kd.R_below (sR_ HO289.out) hb); have n2_ := Aside0.mk (blk_below (sB_ BK278.out) hb); have n3_ := Aside0.mk (blk_below (sB_ BK279.out) hb); have n4_ := Aside0.mk (below_step (sW_ HB.out) hb); have n5_ := Aside0.mk (hbox); have n6_ := Aside0.mk ((by rw [hg]; exact (below_size (sW_ HB.out)) : w.heap.size ≤ gb290)); have n7_ := n6_; have n8_ := Aside0.mk (sN_ hg (blk_lt (sB_ BK278.out))); have n9_ := Aside0.mk n8_.out.symm; have n10_ := Aside0.mk (sN_ hg (blk_lt (sB_ BK279.out))); have n11_ := Aside0.mk n10_.out.symm; clear HO284 HO289 BK278 BK279 HB; have HO284 := n0_; have HO289 := n1_; have BK278 := n2_; have BK279 := n3_; have HB := n4_; have BK290 := n5_; have GW290 := n6_; have GE290 := n7_; have NB278_290 := n8_; have NB290_278 := n9_; have NB279_290 := n10_; have NB290_279 := n11_; clear n0_ n1_ n2_ n3_ n4_ n5_ n6_ n7_ n8_ n9_ n10_ n11_; clear hb hbox hg; have hnb17 := NB290_278.out; have hnc17 := NB278_290.out; have hnb18 := NB290_279.out; have hnc18 := NB279_290.out; obtain ⟨hcz19_0, hcz19_1, hcz19_2, hfz19_0, hfz19_1, hfz19_2⟩ := sZ_ BK290.out; obtain ⟨Ao20, co20, eo20⟩ := Kd.R_slice HO289.out; subst eo20; obtain ⟨hcz21_0, hcz21_1, hcz21_2, hfz21_0, hfz21_1, hfz21_2⟩ := sZ_ BK278.out) | ((with_reducible refine gate_dst (N := 34) rfl ?_); refine Kd.R_make (Kd.int .i64) _ 3 rfl (N := 34) rfl 25 _ _ rfl (l1_2.length : Int) rfl rfl Try.underlying25 (.int .i64 0) 8 info3 rfl (by decide) (by omega) 0 (ok := fun _ => True) (okp := fun _ => True) rfl (fun _ hk => hk) trivial (of_decide_eq_true (by first | (with_reducible assumption) | assumption)) (Nat.le_trans (Nat.mul_le_mul_right _ (of_decide_eq_true (by first | (with_reducible assumption) | assumption) : (l1_2.length : Int).toNat ≤ 35184372088832)) (by omega)) (Below.refl _ _) (Nat.le_refl _) ?_; intro v292 w22 ho23 hb hg_ hnew_; clear hg_ hnew_; (first | rw [← Ny291.out] at ho23 | (simp only [Int.reduceToNat] at ho23; rw [← Ny291.out] at ho23)); have n0_ := Aside0.mk (Kd.R_elder' (by (with_reducible repeat (first | apply Kd.R_alloc | apply Kd.R_drewN | apply Kd.R_drew)); exact (sF_ HO284.out BK290.out (by decide))) (Kd.R_base ho23) hb); have n1_ := Aside0.mk (Kd.R_elder' (by (with_reducible repeat (first | apply Kd.R_alloc | apply Kd.R_drewN | apply Kd.R_drew)); exact (sF_ HO289.out BK290.out (by decide))) (Kd.R_base ho23) hb); have n2_ := Aside0.mk (Kd.R_lower (Kd.R_new' (Kd.R_new' ho23 (Kd.R_lt (by (with_reducible repeat (first | apply Kd.R_alloc | apply Kd.R_drewN | apply Kd.R_drew)); exact (sF_ HO284.out BK290.out (by decide))))) (Kd.R_lt (by (with_reducible repeat (first | apply Kd.R_alloc | apply Kd.R_drewN | apply Kd.R_drew)); exact (sF_ HO289.out BK290.out (by decide))))) (below_size (sW_ HB.out))); have n3_ := Aside0.mk (blk_below (g := gb278) (o := .cells #[.int .i64 a1_0, .int .i64 a1_1, .slice A1_2 l1_2.length c1_2] 27 (0, 0)) (by refine sB_ ?_; refine blk_far ?_ NB278_290.out _; refine sB_ ?_; refine blk_far ?_ NB278_290.out _; refine sB_ ?_; refine blk_far ?_ NB278_290.out _; refine sB_ ?_; exact BK278.out) hb); have n4_ := Aside0.mk (blk_below (g := gb279) (o := .cells #[.int .i64 0, .int .i64 0, .slice none 0 0] 27 (0, 0)) (by refine sB_ ?_; refine blk_far ?_ NB279_290.out _; refine sB_ ?_; refine blk_far ?_ NB279_290.out _; refine sB_ ?_; refine blk_far ?_ NB279_290.out _; refine sB_ ?_; exact BK279.out) hb); have n5_ := Aside0.mk (blk_below (g := gb290) (o := .cells #[.int .i64 t285, .int .i64 t286, .slice Ao20 t287.length co20] 27 (0, 0)) (by refine sB_ ?_; refine blk_put (cs := #[.int .i64 t285, .int .i64 t286, .slice none 0 0]) ?_ 2 _ rfl; refine sB_ ?_; refine blk_put (cs := #[.int .i64 t285, .int .i64 0, .slice none 0 0]) ?_ 1 _ rfl; refine sB_ ?_; refine blk_put (cs := #[.int .i64 0, .int .i64 0, .slice none 0 0]) ?_ 0 _ rfl; refine sB_ ?_; exact BK290.out) hb); have n6_ := Aside0.mk (below_step (sW_ HB.out) hb); clear HO284 HO289 BK278 BK279 BK290 HB; have HO284 := n0_; have HO289 := n1_; have HO293 := n2_; have BK278 := n3_; have BK279 := n4_; have BK290 := n5_; have HB := n6_; clear n0_ n1_ n2_ n3_ n4_ n5_ n6_; clear hb ho23; obtain ⟨hcz24_0, hcz24_1, hcz24_2, hfz24_0, hfz24_1, hfz24_2⟩ := sZ_ BK278.out))
   repeat (go_quiet (first | ((with_reducible refine gate_dst (N := 4) rfl ?_); refine box_event ?hg (N := 4) ?hd (cs := #[.int .i64 a1_0, .int .i64 a1_1, .slice A1_2 l1_2.length c1_2]) (t := 27) ?hr ?_; (case hd => rfl); (case hg => rfl); (case hr => first | (go_simp; done) | (go_simp; rfl)); intro gb278 hg w8 hbox hb; have n0_ := Aside0.mk (below_step (sW_ HB.out) hb); have n1_ := Aside0.mk (hbox); have n2_ := Aside0.mk ((by rw [hg]; exact (below_size (sW_ HB.out)) : w.heap.size ≤ gb278)); have n3_ := n2_; clear HB; have HB := n0_; have BK278 := n1_; have GW278 := n2_; have GE278 := n3_; clear n0_ n1_ n2_ n3_; clear hb hbox hg) | ((with_reducible refine gate_dst (N := 6) rfl ?_); refine box_event ?hg (N := 6) ?hd (cs := #[.int .i64 0, .int .i64 0, .slice none 0 0]) (t := 27) ?hr ?_; (case hd => rfl); (case hg => rfl); (case hr => first | (go_simp; done) | (go_simp; rfl)); intro gb279 hg w9 hbox hb; have n0_ := Aside0.mk (blk_below (sB_ BK278.out) hb); have n1_ := Aside0.mk (below_step (sW_ HB.out) hb); have n2_ := Aside0.mk (hbox); have n3_ := Aside0.mk ((by rw [hg]; exact (below_size (sW_ HB.out)) : w.heap.size ≤ gb279)); have n4_ := n3_; have n5_ := Aside0.mk (sN_ hg (blk_lt (sB_ BK278.out))); have n6_ := Aside0.mk n5_.out.symm; clear BK278 HB; have BK278 := n0_; have HB := n1_; have BK279 := n2_; have GW279 := n3_; have GE279 := n4_; have NB278_279 := n5_; have NB279_278 := n6_; clear n0_ n1_ n2_ n3_ n4_ n5_ n6_; clear hb hbox hg; have hnb10 := NB278_279.out; have hnc10 := NB279_278.out; obtain ⟨hcz11_0, hcz11_1, hcz11_2, hfz11_0, hfz11_1, hfz11_2⟩ := sZ_ BK278.out) | (go_at_call 55; (with_reducible refine (impl_copied.calls a1_0 a1_1 _ _ l1_2 t280 t281 t282 _ ?side1 ?side2 A4.out).mono ?_); (case side1 => repeat (first | exact (Kd.C_below HR1_2.out HB.out) | (with_reducible refine Kd.C_alloc ?_ _) | (with_reducible refine Kd.C_drewN ?_ _) | (with_reducible refine Kd.C_drew ?_))); (case side2 => exact HC1_2.out); rintro e w12 ⟨v283, rfl, ho0, hb⟩; have n0_ := Aside0.mk (Kd.R_lower ho0 (below_size (sW_ HB.out))); have n1_ := Aside0.mk (blk_below (sB_ BK278.out) hb); have n2_ := Aside0.mk (blk_below (sB_ BK279.out) hb); have n3_ := Aside0.mk (below_step (sW_ HB.out) hb); clear BK278 BK279 HB; have HO284 := n0_; have BK278 := n1_; have BK279 := n2_; have HB := n3_; clear n0_ n1_ n2_ n3_; (try clear hb); (try clear hb2); (try clear hk); (try clear hi); (try clear ho0); obtain ⟨Ao13, co13, eo13⟩ := Kd.R_slice HO284.out; subst eo13; obtain ⟨hcz14_0, hcz14_1, hcz14_2, hfz14_0, hfz14_1, hfz14_2⟩ := sZ_ BK278.out) | (go_at_call 44; (with_reducible refine (impl_drawn.calls a1_0 a1_1 56 t285 t286 t287 _ A5.out).mono ?_); rintro e w15 ⟨v288, rfl, ho0, hb⟩; have n0_ := Aside0.mk (Kd.R_elder' (sR_ HO284.out) (Kd.R_base ho0) hb); have n1_ := Aside0.mk (Kd.R_lower (Kd.R_new' ho0 (Kd.R_lt (sR_ HO284.out))) (below_size (sW_ HB.out))); have n2_ := Aside0.mk (blk_below (sB_ BK278.out) hb); have n3_ := Aside0.mk (blk_below (sB_ BK279.out) hb); have n4_ := Aside0.mk (below_step (sW_ HB.out) hb); clear HO284 BK278 BK279 HB; have HO284 := n0_; have HO289 := n1_; have BK278 := n2_; have BK279 := n3_; have HB := n4_; clear n0_ n1_ n2_ n3_ n4_; (try clear hb); (try clear hb2); (try clear hk); (try clear hi); (try clear ho0)) | ((with_reducible refine gate_dst (N := 10) rfl ?_); refine box_event ?hg (N := 10) ?hd (cs := #[.int .i64 0, .int .i64 0, .slice none 0 0]) (t := 27) ?hr ?_; (case hd => rfl); (case hg => rfl); (case hr => first | (go_simp; done) | (go_simp; rfl)); intro gb290 hg w16 hbox hb; have n0_ := Aside0.mk (Kd.R_below (sR_ HO284.out) hb); have n1_ := Aside0.mk (Kd.R_below (sR_ HO289.out) hb); have n2_ := Aside0.mk (blk_below (sB_ BK278.out) hb); have n3_ := Aside0.mk (blk_below (sB_ BK279.out) hb); have n4_ := Aside0.mk (below_step (sW_ HB.out) hb); have n5_ := Aside0.mk (hbox); have n6_ := Aside0.mk ((by rw [hg]; exact (below_size (sW_ HB.out)) : w.heap.size ≤ gb290)); have n7_ := n6_; have n8_ := Aside0.mk (sN_ hg (blk_lt (sB_ BK278.out))); have n9_ := Aside0.mk n8_.out.symm; have n10_ := Aside0.mk (sN_ hg (blk_lt (sB_ BK279.out))); have n11_ := Aside0.mk n10_.out.symm; clear HO284 HO289 BK278 BK279 HB; have HO284 := n0_; have HO289 := n1_; have BK278 := n2_; have BK279 := n3_; have HB := n4_; have BK290 := n5_; have GW290 := n6_; have GE290 := n7_; have NB278_290 := n8_; have NB290_278 := n9_; have NB279_290 := n10_; have NB290_279 := n11_; clear n0_ n1_ n2_ n3_ n4_ n5_ n6_ n7_ n8_ n9_ n10_ n11_; clear hb hbox hg; have hnb17 := NB290_278.out; have hnc17 := NB278_290.out; have hnb18 := NB290_279.out; have hnc18 := NB279_290.out; obtain ⟨hcz19_0, hcz19_1, hcz19_2, hfz19_0, hfz19_1, hfz19_2⟩ := sZ_ BK290.out; obtain ⟨Ao20, co20, eo20⟩ := Kd.R_slice HO289.out; subst eo20; obtain ⟨hcz21_0, hcz21_1, hcz21_2, hfz21_0, hfz21_1, hfz21_2⟩ := sZ_ BK278.out) | ((with_reducible refine gate_dst (N := 34) rfl ?_); refine Kd.R_make (Kd.int .i64) _ 3 rfl (N := 34) rfl 25 _ _ rfl (l1_2.length : Int) rfl rfl Try.underlying25 (.int .i64 0) 8 info3 rfl (by decide) (by omega) 0 (ok := fun _ => True) (okp := fun _ => True) rfl (fun _ hk => hk) trivial (of_decide_eq_true (by first | (with_reducible assumption) | assumption)) (Nat.le_trans (Nat.mul_le_mul_right _ (of_decide_eq_true (by first | (with_reducible assumption) | assumption) : (l1_2.length : Int).toNat ≤ 35184372088832)) (by omega)) (Below.refl _ _) (Nat.le_refl _) ?_; intro v292 w22 ho23 hb hg_ hnew_; clear hg_ hnew_; (first | rw [← Ny291.out] at ho23 | (simp only [Int.reduceToNat] at ho23; rw [← Ny291.out] at ho23)); have n0_ := Aside0.mk (Kd.R_elder' (by (with_reducible repeat (first | apply Kd.R_alloc | apply Kd.R_drewN | apply Kd.R_drew)); exact (sF_ HO284.out BK290.out (by decide))) (Kd.R_base ho23) hb); have n1_ := Aside0.mk (Kd.R_elder' (by (with_reducible repeat (first | apply Kd.R_alloc | apply Kd.R_drewN | apply Kd.R_drew)); exact (sF_ HO289.out BK290.out (by decide))) (Kd.R_base ho23) hb); have n2_ := Aside0.mk (Kd.R_lower (Kd.R_new' (Kd.R_new' ho23 (Kd.R_lt (by (with_reducible repeat (first | apply Kd.R_alloc | apply Kd.R_drewN | apply Kd.R_drew)); exact (sF_ HO284.out BK290.out (by decide))))) (Kd.R_lt (by (with_reducible repeat (first | apply Kd.R_alloc | apply Kd.R_drewN | apply Kd.R_drew)); exact (sF_ HO289.out BK290.out (by decide))))) (below_size (sW_ HB.out))); have n3_ := Aside0.mk (blk_below (g := gb278) (o := .cells #[.int .i64 a1_0, .int .i64 a1_1, .slice A1_2 l1_2.length c1_2] 27 (0, 0)) (by refine sB_ ?_; refine blk_far ?_ NB278_290.out _; refine sB_ ?_; refine blk_far ?_ NB278_290.out _; refine sB_ ?_; refine blk_far ?_ NB278_290.out _; refine sB_ ?_; exact BK278.out) hb); have n4_ := Aside0.mk (blk_below (g := gb279) (o := .cells #[.int .i64 0, .int .i64 0, .slice none 0 0] 27 (0, 0)) (by refine sB_ ?_; refine blk_far ?_ NB279_290.out _; refine sB_ ?_; refine blk_far ?_ NB279_290.out _; refine sB_ ?_; refine blk_far ?_ NB279_290.out _; refine sB_ ?_; exact BK279.out) hb); have n5_ := Aside0.mk (blk_below (g := gb290) (o := .cells #[.int .i64 t285, .int .i64 t286, .slice Ao20 t287.length co20] 27 (0, 0)) (by refine sB_ ?_; refine blk_put (cs := #[.int .i64 t285, .int .i64 t286, .slice none 0 0]) ?_ 2 _ rfl; refine sB_ ?_; refine blk_put (cs := #[.int .i64 t285, .int .i64 0, .slice none 0 0]) ?_ 1 _ rfl; refine sB_ ?_; refine blk_put (cs := #[.int .i64 0, .int .i64 0, .slice none 0 0]) ?_ 0 _ rfl; refine sB_ ?_; exact BK290.out) hb); have n6_ := Aside0.mk (below_step (sW_ HB.out) hb); clear HO284 HO289 BK278 BK279 BK290 HB; have HO284 := n0_; have HO289 := n1_; have HO293 := n2_; have BK278 := n3_; have BK279 := n4_; have BK290 := n5_; have HB := n6_; clear n0_ n1_ n2_ n3_ n4_ n5_ n6_; clear hb ho23; obtain ⟨hcz24_0, hcz24_1, hcz24_2, hfz24_0, hfz24_1, hfz24_2⟩ := sZ_ BK278.out)); try go_wp2_with (first | ((with_reducible refine gate_dst (N := 4) rfl ?_); refine box_event ?hg (N := 4) ?hd (cs := #[.int .i64 a1_0, .int .i64 a1_1, .slice A1_2 l1_2.length c1_2]) (t := 27) ?hr ?_; (case hd => rfl); (case hg => rfl); (case hr => first | (go_simp; done) | (go_simp; rfl)); intro gb278 hg w8 hbox hb; have n0_ := Aside0.mk (below_step (sW_ HB.out) hb); have n1_ := Aside0.mk (hbox); have n2_ := Aside0.mk ((by rw [hg]; exact (below_size (sW_ HB.out)) : w.heap.size ≤ gb278)); have n3_ := n2_; clear HB; have HB := n0_; have BK278 := n1_; have GW278 := n2_; have GE278 := n3_; clear n0_ n1_ n2_ n3_; clear hb hbox hg) | ((with_reducible refine gate_dst (N := 6) rfl ?_); refine box_event ?hg (N := 6) ?hd (cs := #[.int .i64 0, .int .i64 0, .slice none 0 0]) (t := 27) ?hr ?_; (case hd => rfl); (case hg => rfl); (case hr => first | (go_simp; done) | (go_simp; rfl)); intro gb279 hg w9 hbox hb; have n0_ := Aside0.mk (blk_below (sB_ BK278.out) hb); have n1_ := Aside0.mk (below_step (sW_ HB.out) hb); have n2_ := Aside0.mk (hbox); have n3_ := Aside0.mk ((by rw [hg]; exact (below_size (sW_ HB.out)) : w.heap.size ≤ gb279)); have n4_ := n3_; have n5_ := Aside0.mk (sN_ hg (blk_lt (sB_ BK278.out))); have n6_ := Aside0.mk n5_.out.symm; clear BK278 HB; have BK278 := n0_; have HB := n1_; have BK279 := n2_; have GW279 := n3_; have GE279 := n4_; have NB278_279 := n5_; have NB279_278 := n6_; clear n0_ n1_ n2_ n3_ n4_ n5_ n6_; clear hb hbox hg; have hnb10 := NB278_279.out; have hnc10 := NB279_278.out; obtain ⟨hcz11_0, hcz11_1, hcz11_2, hfz11_0, hfz11_1, hfz11_2⟩ := sZ_ BK278.out) | (go_at_call 55; (with_reducible refine (impl_copied.calls a1_0 a1_1 _ _ l1_2 t280 t281 t282 _ ?side1 ?side2 A4.out).mono ?_); (case side1 => repeat (first | exact (Kd.C_below HR1_2.out HB.out) | (with_reducible refine Kd.C_alloc ?_ _) | (with_reducible refine Kd.C_drewN ?_ _) | (with_reducible refine Kd.C_drew ?_))); (case side2 => exact HC1_2.out); rintro e w12 ⟨v283, rfl, ho0, hb⟩; have n0_ := Aside0.mk (Kd.R_lower ho0 (below_size (sW_ HB.out))); have n1_ := Aside0.mk (blk_below (sB_ BK278.out) hb); have n2_ := Aside0.mk (blk_below (sB_ BK279.out) hb); have n3_ := Aside0.mk (below_step (sW_ HB.out) hb); clear BK278 BK279 HB; have HO284 := n0_; have BK278 := n1_; have BK279 := n2_; have HB := n3_; clear n0_ n1_ n2_ n3_; (try clear hb); (try clear hb2); (try clear hk); (try clear hi); (try clear ho0); obtain ⟨Ao13, co13, eo13⟩ := Kd.R_slice HO284.out; subst eo13; obtain ⟨hcz14_0, hcz14_1, hcz14_2, hfz14_0, hfz14_1, hfz14_2⟩ := sZ_ BK278.out) | (go_at_call 44; (with_reducible refine (impl_drawn.calls a1_0 a1_1 56 t285 t286 t287 _ A5.out).mono ?_); rintro e w15 ⟨v288, rfl, ho0, hb⟩; have n0_ := Aside0.mk (Kd.R_elder' (sR_ HO284.out) (Kd.R_base ho0) hb); have n1_ := Aside0.mk (Kd.R_lower (Kd.R_new' ho0 (Kd.R_lt (sR_ HO284.out))) (below_size (sW_ HB.out))); have n2_ := Aside0.mk (blk_below (sB_ BK278.out) hb); have n3_ := Aside0.mk (blk_below (sB_ BK279.out) hb); have n4_ := Aside0.mk (below_step (sW_ HB.out) hb); clear HO284 BK278 BK279 HB; have HO284 := n0_; have HO289 := n1_; have BK278 := n2_; have BK279 := n3_; have HB := n4_; clear n0_ n1_ n2_ n3_ n4_; (try clear hb); (try clear hb2); (try clear hk); (try clear hi); (try clear ho0)) | ((with_reducible refine gate_dst (N := 10) rfl ?_); refine box_event ?hg (N := 10) ?hd (cs := #[.int .i64 0, .int .i64 0, .slice none 0 0]) (t := 27) ?hr ?_; (case hd => rfl); (case hg => rfl); (case hr => first | (go_simp; done) | (go_simp; rfl)); intro gb290 hg w16 hbox hb; have n0_ := Aside0.mk (Kd.R_below (sR_ HO284.out) hb); have n1_ := Aside0.mk (Kd.R_below (sR_ HO289.out) hb); have n2_ := Aside0.mk (blk_below (sB_ BK278.out) hb); have n3_ := Aside0.mk (blk_below (sB_ BK279.out) hb); have n4_ := Aside0.mk (below_step (sW_ HB.out) hb); have n5_ := Aside0.mk (hbox); have n6_ := Aside0.mk ((by rw [hg]; exact (below_size (sW_ HB.out)) : w.heap.size ≤ gb290)); have n7_ := n6_; have n8_ := Aside0.mk (sN_ hg (blk_lt (sB_ BK278.out))); have n9_ := Aside0.mk n8_.out.symm; have n10_ := Aside0.mk (sN_ hg (blk_lt (sB_ BK279.out))); have n11_ := Aside0.mk n10_.out.symm; clear HO284 HO289 BK278 BK279 HB; have HO284 := n0_; have HO289 := n1_; have BK278 := n2_; have BK279 := n3_; have HB := n4_; have BK290 := n5_; have GW290 := n6_; have GE290 := n7_; have NB278_290 := n8_; have NB290_278 := n9_; have NB279_290 := n10_; have NB290_279 := n11_; clear n0_ n1_ n2_ n3_ n4_ n5_ n6_ n7_ n8_ n9_ n10_ n11_; clear hb hbox hg; have hnb17 := NB290_278.out; have hnc17 := NB278_290.out; have hnb18 := NB290_279.out; have hnc18 := NB279_290.out; obtain ⟨hcz19_0, hcz19_1, hcz19_2, hfz19_0, hfz19_1, hfz19_2⟩ := sZ_ BK290.out; obtain ⟨Ao20, co20, eo20⟩ := Kd.R_slice HO289.out; subst eo20; obtain ⟨hcz21_0, hcz21_1, hcz21_2, hfz21_0, hfz21_1, hfz21_2⟩ := sZ_ BK278.out) | ((with_reducible refine gate_dst (N := 34) rfl ?_); refine Kd.R_make (Kd.int .i64) _ 3 rfl (N := 34) rfl 25 _ _ rfl (l1_2.length : Int) rfl rfl Try.underlying25 (.int .i64 0) 8 info3 rfl (by decide) (by omega) 0 (ok := fun _ => True) (okp := fun _ => True) rfl (fun _ hk => hk) trivial (of_decide_eq_true (by first | (with_reducible assumption) | assumption)) (Nat.le_trans (Nat.mul_le_mul_right _ (of_decide_eq_true (by first | (with_reducible assumption) | assumption) : (l1_2.length : Int).toNat ≤ 35184372088832)) (by omega)) (Below.refl _ _) (Nat.le_refl _) ?_; intro v292 w22 ho23 hb hg_ hnew_; clear hg_ hnew_; (first | rw [← Ny291.out] at ho23 | (simp only [Int.reduceToNat] at ho23; rw [← Ny291.out] at ho23)); have n0_ := Aside0.mk (Kd.R_elder' (by (with_reducible repeat (first | apply Kd.R_alloc | apply Kd.R_drewN | apply Kd.R_drew)); exact (sF_ HO284.out BK290.out (by decide))) (Kd.R_base ho23) hb); have n1_ := Aside0.mk (Kd.R_elder' (by (with_reducible repeat (first | apply Kd.R_alloc | apply Kd.R_drewN | apply Kd.R_drew)); exact (sF_ HO289.out BK290.out (by decide))) (Kd.R_base ho23) hb); have n2_ := Aside0.mk (Kd.R_lower (Kd.R_new' (Kd.R_new' ho23 (Kd.R_lt (by (with_reducible repeat (first | apply Kd.R_alloc | apply Kd.R_drewN | apply Kd.R_drew)); exact (sF_ HO284.out BK290.out (by decide))))) (Kd.R_lt (by (with_reducible repeat (first | apply Kd.R_alloc | apply Kd.R_drewN | apply Kd.R_drew)); exact (sF_ HO289.out BK290.out (by decide))))) (below_size (sW_ HB.out))); have n3_ := Aside0.mk (blk_below (g := gb278) (o := .cells #[.int .i64 a1_0, .int .i64 a1_1, .slice A1_2 l1_2.length c1_2] 27 (0, 0)) (by refine sB_ ?_; refine blk_far ?_ NB278_290.out _; refine sB_ ?_; refine blk_far ?_ NB278_290.out _; refine sB_ ?_; refine blk_far ?_ NB278_290.out _; refine sB_ ?_; exact BK278.out) hb); have n4_ := Aside0.mk (blk_below (g := gb279) (o := .cells #[.int .i64 0, .int .i64 0, .slice none 0 0] 27 (0, 0)) (by refine sB_ ?_; refine blk_far ?_ NB279_290.out _; refine sB_ ?_; refine blk_far ?_ NB279_290.out _; refine sB_ ?_; refine blk_far ?_ NB279_290.out _; refine sB_ ?_; exact BK279.out) hb); have n5_ := Aside0.mk (blk_below (g := gb290) (o := .cells #[.int .i64 t285, .int .i64 t286, .slice Ao20 t287.length co20] 27 (0, 0)) (by refine sB_ ?_; refine blk_put (cs := #[.int .i64 t285, .int .i64 t286, .slice none 0 0]) ?_ 2 _ rfl; refine sB_ ?_; refine blk_put (cs := #[.int .i64 t285, .int .i64 0, .slice none 0 0]) ?_ 1 _ rfl; refine sB_ ?_; refine blk_put (cs := #[.int .i64 0, .int .i64 0, .slice none 0 0]) ?_ 0 _ rfl; refine sB_ ?_; exact BK290.out) hb); have n6_ := Aside0.mk (below_step (sW_ HB.out) hb); clear HO284 HO289 BK278 BK279 BK290 HB; have HO284 := n0_; have HO289 := n1_; have HO293 := n2_; have BK278 := n3_; have BK279 := n4_; have BK290 := n5_; have HB := n6_; clear n0_ n1_ n2_ n3_ n4_ n5_ n6_; clear hb ho23; obtain ⟨hcz24_0, hcz24_1, hcz24_2, hfz24_0, hfz24_1, hfz24_2⟩ := sZ_ BK278.out)))
   go_loopg [12, 37] k (fun kq v12 v37 w' => ∃ (x9_1 : List Int) (x11_1 : List Int) (x12_1 : Int) (x37_1 : Int) (x291002_1 : List Int) (u291002 : Value), v12 = .int .i64 x12_1 ∧ v37 = .int .i64 x37_1 ∧ Aside0 (impl_diffused.l0 kq l0 a2 x9_1 x11_1 x12_1 a1_1 x37_1 a1_0 a1_1 l1_2 t285 t286 x291002_1 = some (r1, r2, r3, r4, r5)) ∧ Aside0 (kq ≤ k) ∧ Aside0 (Kd.R (Kd.int .i64) 3 w' w.heap.size (fun k_ => some k_ ≠ (v292 : Value).ownBlock ∧ some k_ ≠ (u291002 : Value).ownBlock) (.slice Ao13 t282.length co13) x9_1) ∧ Aside0 (Kd.R (Kd.int .i64) 3 w' w.heap.size (fun k_ => some k_ ≠ ((.slice Ao13 t282.length co13) : Value).ownBlock ∧ some k_ ≠ (u291002 : Value).ownBlock) v292 x11_1) ∧ Aside0 (Kd.R (Kd.int .i64) 3 w' w.heap.size (fun k_ => some k_ ≠ ((.slice Ao13 t282.length co13) : Value).ownBlock ∧ some k_ ≠ (v292 : Value).ownBlock) u291002 x291002_1) ∧ Aside0 (w'.heap[gb278]? = some (.cells #[.int .i64 a1_0, .int .i64 a1_1, (.slice A1_2 l1_2.length c1_2)] 27 (0, 0))) ∧ Aside0 (w'.heap[gb279]? = some (.cells #[.int .i64 0, .int .i64 0, (.slice none 0 0)] 27 (0, 0))) ∧ Aside0 (w'.heap[gb290]? = some (.cells #[.int .i64 t285, .int .i64 t286, u291002] 27 (0, 0))) ∧ Aside0 (Below w.heap.size w w'))
   case atStart => exact ⟨(t282), (y291), (0), (0), (t287), (.slice Ao20 t287.length co20), (by first | rfl | (simp; done) | (simp [*]; done)), (by first | rfl | (simp; done) | (simp [*]; done)), H', ⟨Nat.le_refl _⟩, ⟨by (with_reducible repeat (first | apply Kd.R_alloc | apply Kd.R_drewN | apply Kd.R_drew)); exact Kd.R_mono HO284.out (fun _ hk => ⟨hk.2, hk.1.2⟩)⟩, ⟨by (with_reducible repeat (first | apply Kd.R_alloc | apply Kd.R_drewN | apply Kd.R_drew)); exact Kd.R_mono HO293.out (fun _ hk => ⟨hk.1.2, hk.2⟩)⟩, ⟨by (with_reducible repeat (first | apply Kd.R_alloc | apply Kd.R_drewN | apply Kd.R_drew)); exact Kd.R_mono HO289.out (fun _ hk => ⟨hk.1.2, hk.2⟩)⟩, ⟨by refine sB_ ?_; exact BK278.out⟩, ⟨by refine sB_ ?_; exact BK279.out⟩, ⟨by refine sB_ ?_; exact BK290.out⟩, ⟨by repeat (first | (with_reducible first | exact HB.out | apply below_alloc | apply pw_below_drewN | apply below_drew1 | refine below_set ?_ GE278.out | refine below_set ?_ GE279.out | refine below_set ?_ GE290.out) | exact HB.out)⟩⟩
   case round =>
    clear H'
    try clear c1
    try clear p2
    try clear c3
    try clear c6
    try clear c6b0
    try clear c6b1
    try clear c7
    try clear c7b0
    try clear c7b1
    try clear c10
    try clear c17
    try clear c18
    try clear hcz11_0
    try clear hcz11_1
    try clear hcz11_2
    try clear hcz14_0
    try clear hcz14_1
    try clear hcz14_2
    try clear hcz19_0
    try clear hcz19_1
    try clear hcz19_2
    try clear hcz21_0
    try clear hcz21_1
    try clear hcz21_2
    try clear hcz24_0
    try clear hcz24_1
    try clear hcz24_2
    try clear hfz11_0
    try clear hfz11_1
    try clear hfz11_2
    try clear hfz14_0
    try clear hfz14_1
    try clear hfz14_2
    try clear hfz19_0
    try clear hfz19_1
    try clear hfz19_2
    try clear hfz21_0
    try clear hfz21_1
    try clear hfz21_2
    try clear hfz24_0
    try clear hfz24_1
    try clear hfz24_2
    obtain ⟨x9_1, x11_1, x12_1, x37_1, x291002_1, u291002, rfl, rfl, HA, HK1, HO_9, HO_11, HO_291002, BK278, BK279, BK290, HB⟩ := hrel
    have hl9_1 := (Kd.R_reads' HO_9.out).1
    rw [hl9_1] at HO_9
    (try simp only [hl9_1])
    (try simp only [hl9_1] at BK278)
    (try simp only [hl9_1] at BK279)
    (try simp only [hl9_1] at BK290)
    (try simp only [hl9_1] at HO_11)
    (try simp only [hl9_1] at HO_291002)
    cases gk with
    | zero => exact absurd HA.out (by simp [impl_diffused.l0])
    | succ k1 =>
     have H := HA.out; clear HA
     simp only [impl_diffused.l0] at H
     by_cases c25 : x37_1 < a1_1
     ·rw [if_pos c25] at H
      have c25b0 : decide (x37_1 < a1_1) = true := decide_eq_true c25
      clear c25
      have HC26 := Aside0.mk H
      clear H
      go_upto_region 9 with (fail)
      repeat (go_quiet (fail); go_upto_region 9 with (fail))
      go_cut [45] (fun v45 wc => ∃ (kq : Nat) (x45_25 : Bool), v45 = .bool x45_25 ∧ Aside0 (impl_diffused.j1 kq l0 a2 x9_1 x11_1 x12_1 x37_1 1 a1_1 x37_1 x45_25 a1_0 a1_1 l1_2 t285 t286 x291002_1 = some (r1, r2, r3, r4, r5)) ∧ Aside0 (kq ≤ k1) ∧ Aside0 (Kd.R (Kd.int .i64) 3 wc w.heap.size (fun k_ => some k_ ≠ (v292 : Value).ownBlock ∧ some k_ ≠ (u291002 : Value).ownBlock) (.slice Ao13 x9_1.length co13) x9_1) ∧ Aside0 (Kd.R (Kd.int .i64) 3 wc w.heap.size (fun k_ => some k_ ≠ ((.slice Ao13 x9_1.length co13) : Value).ownBlock ∧ some k_ ≠ (u291002 : Value).ownBlock) v292 x11_1) ∧ Aside0 (Kd.R (Kd.int .i64) 3 wc w.heap.size (fun k_ => some k_ ≠ ((.slice Ao13 x9_1.length co13) : Value).ownBlock ∧ some k_ ≠ (v292 : Value).ownBlock) u291002 x291002_1) ∧ Aside0 (wc.heap[gb278]? = some (.cells #[.int .i64 a1_0, .int .i64 a1_1, (.slice A1_2 l1_2.length c1_2)] 27 (0, 0))) ∧ Aside0 (wc.heap[gb279]? = some (.cells #[.int .i64 0, .int .i64 0, (.slice none 0 0)] 27 (0, 0))) ∧ Aside0 (wc.heap[gb290]? = some (.cells #[.int .i64 t285, .int .i64 t286, u291002] 27 (0, 0))) ∧ Aside0 (Below w.heap.size w wc))
      case first =>
       have H := HC26.out; clear HC26
       by_cases c27 : a2 = true
       ·subst c27
        have H1 : (impl_diffused.j1 k1 l0 true x9_1 x11_1 x12_1 x37_1 1 a1_1 x37_1 ((Int.tmod x37_1 2) == 1) a1_0 a1_1 l1_2 t285 t286 x291002_1) = some (r1, r2, r3, r4, r5) := by rw [if_pos rfl] at H; exact H
        clear H; have H := H1; clear H1
        have H' := Aside0.mk H
        clear H
        go_wp2
        repeat (go_quiet (fail); try go_wp2)
        go_meet
        case rel => exact ⟨_, (((Int.tmod x37_1 2) == 1)), (by first | rfl | (simp; done) | (simp [*]; done)), H', ⟨by have := HK1.out; first | omega | exact Nat.le_refl _⟩, ⟨by (try simp only [hl9_1]); (with_reducible repeat (first | apply Kd.R_alloc | apply Kd.R_drewN | apply Kd.R_drew)); exact HO_9.out⟩, ⟨by (try simp only [hl9_1]); (with_reducible repeat (first | apply Kd.R_alloc | apply Kd.R_drewN | apply Kd.R_drew)); exact HO_11.out⟩, ⟨by (try simp only [hl9_1]); (with_reducible repeat (first | apply Kd.R_alloc | apply Kd.R_drewN | apply Kd.R_drew)); exact HO_291002.out⟩, ⟨by (try simp only [hl9_1]); refine sB_ ?_; exact BK278.out⟩, ⟨by (try simp only [hl9_1]); refine sB_ ?_; exact BK279.out⟩, ⟨by (try simp only [hl9_1]); refine sB_ ?_; exact BK290.out⟩, ⟨by repeat (first | (with_reducible first | exact HB.out | apply below_alloc | apply pw_below_drewN | apply below_drew1 | refine below_set ?_ GE278.out | refine below_set ?_ GE279.out | refine below_set ?_ GE290.out) | exact HB.out)⟩⟩
       replace c27 := Bool.eq_false_iff.mpr c27
       subst c27
       have H1 : (impl_diffused.j1 k1 l0 false x9_1 x11_1 x12_1 x37_1 1 a1_1 x37_1 false a1_0 a1_1 l1_2 t285 t286 x291002_1) = some (r1, r2, r3, r4, r5) := by rw [if_neg (show ¬ (false = true) by decide)] at H; exact H
       clear H; have H := H1; clear H1
       have H' := Aside0.mk H
       clear H
       go_wp2
       repeat (go_quiet (fail); try go_wp2)
       go_meet
       case rel => exact ⟨_, (false), (by first | rfl | (simp; done) | (simp [*]; done)), H', ⟨by have := HK1.out; first | omega | exact Nat.le_refl _⟩, ⟨by (try simp only [hl9_1]); (with_reducible repeat (first | apply Kd.R_alloc | apply Kd.R_drewN | apply Kd.R_drew)); exact HO_9.out⟩, ⟨by (try simp only [hl9_1]); (with_reducible repeat (first | apply Kd.R_alloc | apply Kd.R_drewN | apply Kd.R_drew)); exact HO_11.out⟩, ⟨by (try simp only [hl9_1]); (with_reducible repeat (first | apply Kd.R_alloc | apply Kd.R_drewN | apply Kd.R_drew)); exact HO_291002.out⟩, ⟨by (try simp only [hl9_1]); refine sB_ ?_; exact BK278.out⟩, ⟨by (try simp only [hl9_1]); refine sB_ ?_; exact BK279.out⟩, ⟨by (try simp only [hl9_1]); refine sB_ ?_; exact BK290.out⟩, ⟨by repeat (first | (with_reducible first | exact HB.out | apply below_alloc | apply pw_below_drewN | apply below_drew1 | refine below_set ?_ GE278.out | refine below_set ?_ GE279.out | refine below_set ?_ GE290.out) | exact HB.out)⟩⟩
      case rest =>
       clear HC26
       try clear c1
       try clear c2
       try clear p2
       try clear c3
       try clear c6
       try clear c6b0
       try clear c6b1
       try clear c7
       try clear c7b0
       try clear c7b1
       try clear c10
       try clear c17
       try clear c18
       try clear c25
       try clear c25b0
       try clear c27
       try clear hcz11_0
       try clear hcz11_1
       try clear hcz11_2
       try clear hcz14_0
       try clear hcz14_1
       try clear hcz14_2
       try clear hcz19_0
       try clear hcz19_1
       try clear hcz19_2
       try clear hcz21_0
       try clear hcz21_1
       try clear hcz21_2
       try clear hcz24_0
       try clear hcz24_1
       try clear hcz24_2
       try clear hfz11_0
       try clear hfz11_1
       try clear hfz11_2
       try clear hfz14_0
       try clear hfz14_1
       try clear hfz14_2
       try clear hfz19_0
       try clear hfz19_1
       try clear hfz19_2
       try clear hfz21_0
       try clear hfz21_1
       try clear hfz21_2
       try clear hfz24_0
       try clear hfz24_1
       try clear hfz24_2
       try clear p2
       obtain ⟨kq, x45_25, rfl, HA, HJ25, HO_9, HO_11, HO_291002, BK278, BK279, BK290, HB⟩ := hcut
       cases kq with
       | zero => exact absurd HA.out (by simp [impl_diffused.j1])
       | succ kj25 =>
        have H := HA.out; clear HA
        simp only [impl_diffused.j1] at H
        have HC28 := Aside0.mk H
        clear H
        go_upto_if 45 with (fail)
        repeat (go_quiet (fail); go_upto_if 45 with (fail))
        go_cut [14] (fun v14 wc => ∃ (kq : Nat) (x14_27 : Int), v14 = .int .i64 x14_27 ∧ Aside0 (impl_diffused.j2 kq l0 a2 x9_1 x11_1 x12_1 x37_1 x14_27 a1_1 x37_1 a1_0 a1_1 l1_2 t285 t286 x291002_1 = some (r1, r2, r3, r4, r5)) ∧ Aside0 (kq ≤ kj25) ∧ Aside0 (Kd.R (Kd.int .i64) 3 wc w.heap.size (fun k_ => some k_ ≠ (v292 : Value).ownBlock ∧ some k_ ≠ (u291002 : Value).ownBlock) (.slice Ao13 x9_1.length co13) x9_1) ∧ Aside0 (Kd.R (Kd.int .i64) 3 wc w.heap.size (fun k_ => some k_ ≠ ((.slice Ao13 x9_1.length co13) : Value).ownBlock ∧ some k_ ≠ (u291002 : Value).ownBlock) v292 x11_1) ∧ Aside0 (Kd.R (Kd.int .i64) 3 wc w.heap.size (fun k_ => some k_ ≠ ((.slice Ao13 x9_1.length co13) : Value).ownBlock ∧ some k_ ≠ (v292 : Value).ownBlock) u291002 x291002_1) ∧ Aside0 (wc.heap[gb278]? = some (.cells #[.int .i64 a1_0, .int .i64 a1_1, (.slice A1_2 l1_2.length c1_2)] 27 (0, 0))) ∧ Aside0 (wc.heap[gb279]? = some (.cells #[.int .i64 0, .int .i64 0, (.slice none 0 0)] 27 (0, 0))) ∧ Aside0 (wc.heap[gb290]? = some (.cells #[.int .i64 t285, .int .i64 t286, u291002] 27 (0, 0))) ∧ Aside0 (Below w.heap.size w wc))
        case first =>
         have H := HC28.out; clear HC28
         by_cases c29 : x45_25 = true
         ·subst c29
          have H1 : (impl_diffused.j2 kj25 l0 a2 x9_1 x11_1 x12_1 x37_1 (-1) a1_1 x37_1 a1_0 a1_1 l1_2 t285 t286 x291002_1) = some (r1, r2, r3, r4, r5) := by rw [if_pos rfl] at H; exact H
          clear H; have H := H1; clear H1
          have H' := Aside0.mk H
          clear H
          go_wp2
          repeat (go_quiet (fail); try go_wp2)
          go_meet
          case rel => exact ⟨_, ((-1)), (by first | rfl | (simp; done) | (simp [*]; done)), H', ⟨by have := HK1.out; have := HJ25.out; first | omega | exact Nat.le_refl _⟩, ⟨by (try simp only [hl9_1]); (with_reducible repeat (first | apply Kd.R_alloc | apply Kd.R_drewN | apply Kd.R_drew)); exact HO_9.out⟩, ⟨by (try simp only [hl9_1]); (with_reducible repeat (first | apply Kd.R_alloc | apply Kd.R_drewN | apply Kd.R_drew)); exact HO_11.out⟩, ⟨by (try simp only [hl9_1]); (with_reducible repeat (first | apply Kd.R_alloc | apply Kd.R_drewN | apply Kd.R_drew)); exact HO_291002.out⟩, ⟨by (try simp only [hl9_1]); refine sB_ ?_; exact BK278.out⟩, ⟨by (try simp only [hl9_1]); refine sB_ ?_; exact BK279.out⟩, ⟨by (try simp only [hl9_1]); refine sB_ ?_; exact BK290.out⟩, ⟨by repeat (first | (with_reducible first | exact HB.out | apply below_alloc | apply pw_below_drewN | apply below_drew1 | refine below_set ?_ GE278.out | refine below_set ?_ GE279.out | refine below_set ?_ GE290.out) | exact HB.out)⟩⟩
         replace c29 := Bool.eq_false_iff.mpr c29
         subst c29
         have H1 : (impl_diffused.j2 kj25 l0 a2 x9_1 x11_1 x12_1 x37_1 1 a1_1 x37_1 a1_0 a1_1 l1_2 t285 t286 x291002_1) = some (r1, r2, r3, r4, r5) := by rw [if_neg (show ¬ (false = true) by decide)] at H; exact H
         clear H; have H := H1; clear H1
         have H' := Aside0.mk H
         clear H
         go_wp2
         repeat (go_quiet (fail); try go_wp2)
         go_meet
         case rel => exact ⟨_, (1), (by first | rfl | (simp; done) | (simp [*]; done)), H', ⟨by have := HK1.out; have := HJ25.out; first | omega | exact Nat.le_refl _⟩, ⟨by (try simp only [hl9_1]); (with_reducible repeat (first | apply Kd.R_alloc | apply Kd.R_drewN | apply Kd.R_drew)); exact HO_9.out⟩, ⟨by (try simp only [hl9_1]); (with_reducible repeat (first | apply Kd.R_alloc | apply Kd.R_drewN | apply Kd.R_drew)); exact HO_11.out⟩, ⟨by (try simp only [hl9_1]); (with_reducible repeat (first | apply Kd.R_alloc | apply Kd.R_drewN | apply Kd.R_drew)); exact HO_291002.out⟩, ⟨by (try simp only [hl9_1]); refine sB_ ?_; exact BK278.out⟩, ⟨by (try simp only [hl9_1]); refine sB_ ?_; exact BK279.out⟩, ⟨by (try simp only [hl9_1]); refine sB_ ?_; exact BK290.out⟩, ⟨by repeat (first | (with_reducible first | exact HB.out | apply below_alloc | apply pw_below_drewN | apply below_drew1 | refine below_set ?_ GE278.out | refine below_set ?_ GE279.out | refine below_set ?_ GE290.out) | exact HB.out)⟩⟩
        case rest =>
         clear HC28
         try clear c1
         try clear c2
         try clear p2
         try clear c3
         try clear c6
         try clear c6b0
         try clear c6b1
         try clear c7
         try clear c7b0
         try clear c7b1
         try clear c10
         try clear c17
         try clear c18
         try clear c25
         try clear c25b0
         try clear c27
         try clear c29
         try clear hcz11_0
         try clear hcz11_1
         try clear hcz11_2
         try clear hcz14_0
         try clear hcz14_1
         try clear hcz14_2
         try clear hcz19_0
         try clear hcz19_1
         try clear hcz19_2
         try clear hcz21_0
         try clear hcz21_1
         try clear hcz21_2
         try clear hcz24_0
         try clear hcz24_1
         try clear hcz24_2
         try clear hfz11_0
         try clear hfz11_1
         try clear hfz11_2
         try clear hfz14_0
         try clear hfz14_1
         try clear hfz14_2
         try clear hfz19_0
         try clear hfz19_1
         try clear hfz19_2
         try clear hfz21_0
         try clear hfz21_1
         try clear hfz21_2
         try clear hfz24_0
         try clear hfz24_1
         try clear hfz24_2
         try clear p2
         obtain ⟨kq, x14_27, rfl, HA, HJ27, HO_9, HO_11, HO_291002, BK278, BK279, BK290, HB⟩ := hcut
         cases kq with
         | zero => exact absurd HA.out (by simp [impl_diffused.j2])
         | succ kj27 =>
          have H := HA.out; clear HA
          simp only [impl_diffused.j2] at H
          have H' := Aside0.mk H
          clear H; have hnb30 := NB278_279.out; have hnc30 := NB279_278.out; have hnb31 := NB278_290.out; have hnc31 := NB290_278.out
          obtain ⟨hcz32_0, hcz32_1, hcz32_2, hfz32_0, hfz32_1, hfz32_2⟩ := sZ_ BK278.out
          go_wp2
          repeat (go_quiet (fail); try go_wp2)
          go_loopg [12, 48] kj27 (fun kq v12 v48 w' => ∃ (x9_4 : List Int) (x11_4 : List Int) (x12_4 : Int) (x48_4 : Int) (x291002_4 : List Int) (u291002 : Value), v12 = .int .i64 x12_4 ∧ v48 = .int .i64 x48_4 ∧ Aside0 (impl_diffused.l1 kq l0 a2 x9_4 x11_4 x12_4 x37_1 x14_27 a1_1 x37_1 a1_0 x48_4 a1_0 a1_1 l1_2 t285 t286 x291002_4 = some (r1, r2, r3, r4, r5)) ∧ Aside0 (kq ≤ kj27) ∧ Aside0 (Kd.R (Kd.int .i64) 3 w' w.heap.size (fun k_ => some k_ ≠ (v292 : Value).ownBlock ∧ some k_ ≠ (u291002 : Value).ownBlock) (.slice Ao13 x9_1.length co13) x9_4) ∧ Aside0 (Kd.R (Kd.int .i64) 3 w' w.heap.size (fun k_ => some k_ ≠ ((.slice Ao13 x9_1.length co13) : Value).ownBlock ∧ some k_ ≠ (u291002 : Value).ownBlock) v292 x11_4) ∧ Aside0 (Kd.R (Kd.int .i64) 3 w' w.heap.size (fun k_ => some k_ ≠ ((.slice Ao13 x9_1.length co13) : Value).ownBlock ∧ some k_ ≠ (v292 : Value).ownBlock) u291002 x291002_4) ∧ Aside0 (w'.heap[gb278]? = some (.cells #[.int .i64 a1_0, .int .i64 a1_1, (.slice A1_2 l1_2.length c1_2)] 27 (0, 0))) ∧ Aside0 (w'.heap[gb279]? = some (.cells #[.int .i64 0, .int .i64 0, (.slice none 0 0)] 27 (0, 0))) ∧ Aside0 (w'.heap[gb290]? = some (.cells #[.int .i64 t285, .int .i64 t286, u291002] 27 (0, 0))) ∧ Aside0 (Below w.heap.size w w'))
          case atStart => exact ⟨(x9_1), (x11_1), (x12_1), (0), (x291002_1), (u291002), (by first | rfl | (simp; done) | (simp [*]; done)), (by first | rfl | (simp; done) | (simp [*]; done)), H', ⟨Nat.le_refl _⟩, ⟨by (try simp only [hl9_1]); (with_reducible repeat (first | apply Kd.R_alloc | apply Kd.R_drewN | apply Kd.R_drew)); exact HO_9.out⟩, ⟨by (try simp only [hl9_1]); (with_reducible repeat (first | apply Kd.R_alloc | apply Kd.R_drewN | apply Kd.R_drew)); exact HO_11.out⟩, ⟨by (try simp only [hl9_1]); (with_reducible repeat (first | apply Kd.R_alloc | apply Kd.R_drewN | apply Kd.R_drew)); exact HO_291002.out⟩, ⟨by (try simp only [hl9_1]); refine sB_ ?_; exact BK278.out⟩, ⟨by (try simp only [hl9_1]); refine sB_ ?_; exact BK279.out⟩, ⟨by (try simp only [hl9_1]); refine sB_ ?_; exact BK290.out⟩, ⟨by repeat (first | (with_reducible first | exact HB.out | apply below_alloc | apply pw_below_drewN | apply below_drew1 | refine below_set ?_ GE278.out | refine below_set ?_ GE279.out | refine below_set ?_ GE290.out) | exact HB.out)⟩⟩
          case round =>
           clear H'
           try clear c1
           try clear c2
           try clear p2
           try clear c3
           try clear c6
           try clear c6b0
           try clear c6b1
           try clear c7
           try clear c7b0
           try clear c7b1
           try clear c10
           try clear c17
           try clear c18
           try clear c25
           try clear c25b0
           try clear c27
           try clear c29
           try clear c30
           try clear c31
           try clear hcz11_0
           try clear hcz11_1
           try clear hcz11_2
           try clear hcz14_0
           try clear hcz14_1
           try clear hcz14_2
           try clear hcz19_0
           try clear hcz19_1
           try clear hcz19_2
           try clear hcz21_0
           try clear hcz21_1
           try clear hcz21_2
           try clear hcz24_0
           try clear hcz24_1
           try clear hcz24_2
           try clear hcz32_0
           try clear hcz32_1
           try clear hcz32_2
           try clear hfz11_0
           try clear hfz11_1
           try clear hfz11_2
           try clear hfz14_0
           try clear hfz14_1
           try clear hfz14_2
           try clear hfz19_0
           try clear hfz19_1
           try clear hfz19_2
           try clear hfz21_0
           try clear hfz21_1
           try clear hfz21_2
           try clear hfz24_0
           try clear hfz24_1
           try clear hfz24_2
           try clear hfz32_0
           try clear hfz32_1
           try clear hfz32_2
           try clear p2
           obtain ⟨x9_4, x11_4, x12_4, x48_4, x291002_4, u291002, rfl, rfl, HA, HK4, HO_9, HO_11, HO_291002, BK278, BK279, BK290, HB⟩ := hrel
           have hl9_4 := (Kd.R_reads' HO_9.out).1
           rw [hl9_4] at HO_9
           (try simp only [hl9_4])
           (try simp only [hl9_4] at BK278)
           (try simp only [hl9_4] at BK279)
           (try simp only [hl9_4] at BK290)
           (try simp only [hl9_4] at HO_11)
           (try simp only [hl9_4] at HO_291002)
           cases gk with
           | zero => exact absurd HA.out (by simp [impl_diffused.l1])
           | succ k4 =>
            have H := HA.out; clear HA
            simp only [impl_diffused.l1] at H
            by_cases c33 : x48_4 < a1_0
            ·rw [if_pos c33] at H
             have c33b0 : decide (x48_4 < a1_0) = true := decide_eq_true c33
             clear c33
             have HC34 := Aside0.mk H
             clear H
             go_upto_if 53 with (fail)
             repeat (go_quiet (fail); go_upto_if 53 with (fail))
             go_cut [16] (fun v16 wc => ∃ (kq : Nat) (x16_33 : Int), v16 = .int .i64 x16_33 ∧ Aside0 (impl_diffused.j4 kq l0 a2 x9_4 x11_4 x12_4 x37_1 x14_27 x16_33 a1_1 x37_1 a1_0 x48_4 a1_0 a1_1 l1_2 t285 t286 x291002_4 = some (r1, r2, r3, r4, r5)) ∧ Aside0 (kq ≤ k4) ∧ Aside0 (Kd.R (Kd.int .i64) 3 wc w.heap.size (fun k_ => some k_ ≠ (v292 : Value).ownBlock ∧ some k_ ≠ (u291002 : Value).ownBlock) (.slice Ao13 x9_4.length co13) x9_4) ∧ Aside0 (Kd.R (Kd.int .i64) 3 wc w.heap.size (fun k_ => some k_ ≠ ((.slice Ao13 x9_4.length co13) : Value).ownBlock ∧ some k_ ≠ (u291002 : Value).ownBlock) v292 x11_4) ∧ Aside0 (Kd.R (Kd.int .i64) 3 wc w.heap.size (fun k_ => some k_ ≠ ((.slice Ao13 x9_4.length co13) : Value).ownBlock ∧ some k_ ≠ (v292 : Value).ownBlock) u291002 x291002_4) ∧ Aside0 (wc.heap[gb278]? = some (.cells #[.int .i64 a1_0, .int .i64 a1_1, (.slice A1_2 l1_2.length c1_2)] 27 (0, 0))) ∧ Aside0 (wc.heap[gb279]? = some (.cells #[.int .i64 0, .int .i64 0, (.slice none 0 0)] 27 (0, 0))) ∧ Aside0 (wc.heap[gb290]? = some (.cells #[.int .i64 t285, .int .i64 t286, u291002] 27 (0, 0))) ∧ Aside0 (Below w.heap.size w wc))
             case first =>
              have H := HC34.out; clear HC34
              by_cases c35 : x14_27 < 0
              ·rw [if_pos c35] at H
               have c35b0 : decide (x14_27 < 0) = true := decide_eq_true c35
               clear c35
               (first | rw [c35b0] | (simp only [i64_w, i32_w]; rw [c35b0]) | skip)
               have H' := Aside0.mk H
               clear H; have hnb36 := NB278_279.out; have hnc36 := NB279_278.out; have hnb37 := NB278_290.out; have hnc37 := NB290_278.out
               obtain ⟨hcz38_0, hcz38_1, hcz38_2, hfz38_0, hfz38_1, hfz38_2⟩ := sZ_ BK278.out
               go_wp2
               repeat (go_quiet (fail); try go_wp2)
               go_meet
               case rel => exact ⟨_, (wrap64 ((wrap64 (a1_0 - 1)) - x48_4)), (by first | rfl | (simp; done) | (simp [*]; done)), H', ⟨by have := HK1.out; have := HJ25.out; have := HJ27.out; have := HK4.out; first | omega | exact Nat.le_refl _⟩, ⟨by (try simp only [hl9_1]); (try simp only [hl9_4]); (with_reducible repeat (first | apply Kd.R_alloc | apply Kd.R_drewN | apply Kd.R_drew)); exact HO_9.out⟩, ⟨by (try simp only [hl9_1]); (try simp only [hl9_4]); (with_reducible repeat (first | apply Kd.R_alloc | apply Kd.R_drewN | apply Kd.R_drew)); exact HO_11.out⟩, ⟨by (try simp only [hl9_1]); (try simp only [hl9_4]); (with_reducible repeat (first | apply Kd.R_alloc | apply Kd.R_drewN | apply Kd.R_drew)); exact HO_291002.out⟩, ⟨by (try simp only [hl9_1]); (try simp only [hl9_4]); refine sB_ ?_; exact BK278.out⟩, ⟨by (try simp only [hl9_1]); (try simp only [hl9_4]); refine sB_ ?_; exact BK279.out⟩, ⟨by (try simp only [hl9_1]); (try simp only [hl9_4]); refine sB_ ?_; exact BK290.out⟩, ⟨by repeat (first | (with_reducible first | exact HB.out | apply below_alloc | apply pw_below_drewN | apply below_drew1 | refine below_set ?_ GE278.out | refine below_set ?_ GE279.out | refine below_set ?_ GE290.out) | exact HB.out)⟩⟩
              rw [if_neg c35] at H
              have c35b0 : decide (x14_27 < 0) = false := decide_eq_false c35
              clear c35
              (first | rw [c35b0] | (simp only [i64_w, i32_w]; rw [c35b0]) | skip)
              have H' := Aside0.mk H
              clear H
              go_wp2
              repeat (go_quiet (fail); try go_wp2)
              go_meet
              case rel => exact ⟨_, (x48_4), (by first | rfl | (simp; done) | (simp [*]; done)), H', ⟨by have := HK1.out; have := HJ25.out; have := HJ27.out; have := HK4.out; first | omega | exact Nat.le_refl _⟩, ⟨by (try simp only [hl9_1]); (try simp only [hl9_4]); (with_reducible repeat (first | apply Kd.R_alloc | apply Kd.R_drewN | apply Kd.R_drew)); exact HO_9.out⟩, ⟨by (try simp only [hl9_1]); (try simp only [hl9_4]); (with_reducible repeat (first | apply Kd.R_alloc | apply Kd.R_drewN | apply Kd.R_drew)); exact HO_11.out⟩, ⟨by (try simp only [hl9_1]); (try simp only [hl9_4]); (with_reducible repeat (first | apply Kd.R_alloc | apply Kd.R_drewN | apply Kd.R_drew)); exact HO_291002.out⟩, ⟨by (try simp only [hl9_1]); (try simp only [hl9_4]); refine sB_ ?_; exact BK278.out⟩, ⟨by (try simp only [hl9_1]); (try simp only [hl9_4]); refine sB_ ?_; exact BK279.out⟩, ⟨by (try simp only [hl9_1]); (try simp only [hl9_4]); refine sB_ ?_; exact BK290.out⟩, ⟨by repeat (first | (with_reducible first | exact HB.out | apply below_alloc | apply pw_below_drewN | apply below_drew1 | refine below_set ?_ GE278.out | refine below_set ?_ GE279.out | refine below_set ?_ GE290.out) | exact HB.out)⟩⟩
             case rest =>
              clear HC34
              try clear c1
              try clear c2
              try clear p2
              try clear c3
              try clear c6
              try clear c6b0
              try clear c6b1
              try clear p6
              try clear c7
              try clear c7b0
              try clear c7b1
              try clear c10
              try clear c17
              try clear c18
              try clear c25
              try clear c25b0
              try clear c27
              try clear c29
              try clear c30
              try clear c31
              try clear c33
              try clear c33b0
              try clear c35
              try clear c35b0
              try clear c36
              try clear c37
              try clear hcz11_0
              try clear hcz11_1
              try clear hcz11_2
              try clear hcz14_0
              try clear hcz14_1
              try clear hcz14_2
              try clear hcz19_0
              try clear hcz19_1
              try clear hcz19_2
              try clear hcz21_0
              try clear hcz21_1
              try clear hcz21_2
              try clear hcz24_0
              try clear hcz24_1
              try clear hcz24_2
              try clear hcz32_0
              try clear hcz32_1
              try clear hcz32_2
              try clear hcz38_0
              try clear hcz38_1
              try clear hcz38_2
              try clear hfz11_0
              try clear hfz11_1
              try clear hfz11_2
              try clear hfz14_0
              try clear hfz14_1
              try clear hfz14_2
              try clear hfz19_0
              try clear hfz19_1
              try clear hfz19_2
              try clear hfz21_0
              try clear hfz21_1
              try clear hfz21_2
              try clear hfz24_0
              try clear hfz24_1
              try clear hfz24_2
              try clear hfz32_0
              try clear hfz32_1
              try clear hfz32_2
              try clear hfz38_0
              try clear hfz38_1
              try clear hfz38_2
              try clear p2
              obtain ⟨kq, x16_33, rfl, HA, HJ33, HO_9, HO_11, HO_291002, BK278, BK279, BK290, HB⟩ := hcut
              cases kq with
              | zero => exact absurd HA.out (by simp [impl_diffused.j4])
              | succ kj33 =>
               have H := HA.out; clear HA
               simp only [impl_diffused.j4] at H
               obtain ⟨ji39, hji39⟩ : ∃ j_ : Int, (wrap64 ((wrap64 (x37_1 * a1_0)) + x16_33)) = j_ := ⟨_, rfl⟩
               replace H : (if 0 ≤ (ji39) then (if (ji39) < (x9_4.length : Int) then (if (rd x9_4 (ji39)) ≥ 128 then (if (ji39) < (x291002_4.length : Int) then (impl_diffused.j5 kj33 l0 a2 x9_4 x11_4 x12_4 x37_1 x14_27 x16_33 ji39 (wrap64 ((rd x9_4 (ji39)) - 255)) a1_1 x37_1 a1_0 x48_4 a1_0 a1_1 l1_2 t285 t286 (x291002_4.set ((ji39) : Int).toNat 1)) else (none)) else (impl_diffused.j5 kj33 l0 a2 x9_4 x11_4 x12_4 x37_1 x14_27 x16_33 ji39 (rd x9_4 (ji39)) a1_1 x37_1 a1_0 x48_4 a1_0 a1_1 l1_2 t285 t286 x291002_4)) else (none)) else (none)) = some (r1, r2, r3, r4, r5) := by first | (rw [hji39] at H; exact H) | (simp only [hji39] at H ⊢; exact H)
               have hji39w : (IntKind.i64.wrap ((wrap64 (x37_1 * a1_0)) + x16_33)) = ji39 := (i64_w _).trans hji39
               have hji39n : (IntKind.i64.wrap ((IntKind.i64.wrap (x37_1 * a1_0)) + x16_33)) = ji39 := by first | (simpa only [i64_w] using hji39) | (simp only [i64_w]; exact hji39)
               by_cases c40 : 0 ≤ (ji39)
               ·rw [if_pos c40] at H
                have c40b0 : decide (0 ≤ (ji39)) = true := decide_eq_true c40
                clear c40
                by_cases c41 : (ji39) < (x9_4.length : Int)
                ·rw [if_pos c41] at H
                 have c41b0 : decide ((ji39) < (x9_4.length : Int)) = true := decide_eq_true c41
                 clear c41
                 have HC42 := Aside0.mk H
                 clear H; have hnb43 := NB278_279.out; have hnc43 := NB279_278.out; have hnb44 := NB278_290.out; have hnc44 := NB290_278.out
                 obtain ⟨hcz45_0, hcz45_1, hcz45_2, hfz45_0, hfz45_1, hfz45_2⟩ := sZ_ BK278.out
                 have p294 : 0 ≤ ((ji39) : Int) := of_decide_eq_true (by first | (with_reducible assumption) | assumption)
                 have q294 : (ji39) < (x9_4.length : Int) := of_decide_eq_true (by first | (with_reducible assumption) | assumption)
                 obtain ⟨ad294, e294, hx294_0⟩ := Kd.at_int (Kd.R_reads' HO_9.out).2.2 (ji39) p294 q294
                 cases e294
                 replace p294 := eq_true p294
                 replace q294 := eq_true q294
                 go_upto_if 70 with (fail)
                 repeat (go_quiet (fail); go_upto_if 70 with (fail))
                 go_cut [18] (fun v18 wc => ∃ (kq : Nat) (x9_41 : List Int) (x11_41 : List Int) (x18_41 : Int) (x291002_41 : List Int) (u291002 : Value), v18 = .int .i64 x18_41 ∧ Aside0 (impl_diffused.j5 kq l0 a2 x9_41 x11_41 x12_4 x37_1 x14_27 x16_33 ji39 x18_41 a1_1 x37_1 a1_0 x48_4 a1_0 a1_1 l1_2 t285 t286 x291002_41 = some (r1, r2, r3, r4, r5)) ∧ Aside0 (kq ≤ kj33) ∧ Aside0 (Kd.R (Kd.int .i64) 3 wc w.heap.size (fun k_ => some k_ ≠ (v292 : Value).ownBlock ∧ some k_ ≠ (u291002 : Value).ownBlock) (.slice (some ad294) x9_4.length co13) x9_41) ∧ Aside0 (Kd.R (Kd.int .i64) 3 wc w.heap.size (fun k_ => some k_ ≠ ((.slice (some ad294) x9_4.length co13) : Value).ownBlock ∧ some k_ ≠ (u291002 : Value).ownBlock) v292 x11_41) ∧ Aside0 (Kd.R (Kd.int .i64) 3 wc w.heap.size (fun k_ => some k_ ≠ ((.slice (some ad294) x9_4.length co13) : Value).ownBlock ∧ some k_ ≠ (v292 : Value).ownBlock) u291002 x291002_41) ∧ Aside0 (wc.heap[gb278]? = some (.cells #[.int .i64 a1_0, .int .i64 a1_1, (.slice A1_2 l1_2.length c1_2)] 27 (0, 0))) ∧ Aside0 (wc.heap[gb279]? = some (.cells #[.int .i64 0, .int .i64 0, (.slice none 0 0)] 27 (0, 0))) ∧ Aside0 (wc.heap[gb290]? = some (.cells #[.int .i64 t285, .int .i64 t286, u291002] 27 (0, 0))) ∧ Aside0 (Below w.heap.size w wc))
                 case first =>
                  have H := HC42.out; clear HC42
                  by_cases c46 : (rd x9_4 (ji39)) ≥ 128
                  ·rw [if_pos c46] at H
                   have c46b0 : decide (128 ≤ (rd x9_4 (ji39))) = true := decide_eq_true c46
                   clear c46
                   (first | rw [c46b0] | (simp only [i64_w, i32_w]; rw [c46b0]) | skip)
                   by_cases c47 : (ji39) < (x291002_4.length : Int)
                   ·rw [if_pos c47] at H
                    have c47b0 : decide ((ji39) < (x291002_4.length : Int)) = true := decide_eq_true c47
                    clear c47
                    obtain ⟨y295, hy295⟩ : ∃ y_ : List Int, y_ = (x291002_4.set ((ji39) : Int).toNat 1) := ⟨_, rfl⟩
                    replace H : (impl_diffused.j5 kj33 l0 a2 x9_4 x11_4 x12_4 x37_1 x14_27 x16_33 ji39 (wrap64 ((rd x9_4 (ji39)) - 255)) a1_1 x37_1 a1_0 x48_4 a1_0 a1_1 l1_2 t285 t286 y295) = some (r1, r2, r3, r4, r5) := by first | (rw [hy295]; with_reducible exact H) | (have H2_ := (Option.bind_some _ _).symm.trans H; rw [hy295]; with_reducible exact H2_) | (have H2_ := (Option.bind_some _ _).symm.trans H; with_reducible exact H2_) | with_reducible exact H | (rw [hy295]; exact H) | exact H
                    have Ny295 := Aside0.mk hy295
                    clear hy295
                    have H' := Aside0.mk H
                    clear H; have hnb49 := NB290_278.out; have hnc49 := NB278_290.out; have hnb50 := NB290_279.out; have hnc50 := NB279_290.out
                    obtain ⟨hcz51_0, hcz51_1, hcz51_2, hfz51_0, hfz51_1, hfz51_2⟩ := sZ_ BK290.out
                    have p48 : 0 ≤ ((ji39) : Int) := of_decide_eq_true (by first | (with_reducible assumption) | assumption)
                    have q48 : ((ji39) : Int) < ((x291002_4.length : Int) : Int) := of_decide_eq_true (by first | (with_reducible assumption) | assumption)
                    obtain ⟨go48, co48, eo48, gb48, gl48, cl48, HG48⟩ := Kd.R_form HO_291002.out (by omega)
                    (first | cases eo48 | (injection eo48 with ea_ en_ ec_; (first | subst ea_ | (injection ea_ with ea_; subst ea_)); subst ec_; clear en_))
                    have GB48 := Aside0.mk gb48
                    have GG48 := Aside0.mk HG48
                    clear gb48 gl48 HG48
                    obtain ⟨hx48_0, hf48_0⟩ := Kd.R_celln 0 HO_291002.out ((ji39) : Int) p48 q48
                    replace p48 := eq_true p48
                    replace q48 := eq_true q48
                    have HP52 := Kd.R_putg HO_291002.out ((ji39) : Int) 1
                    go_wp2_with (first | ((with_reducible refine gate_store (t := 3) (p := 74) rfl ?_); (try (rw [drewN_self wc]; generalize hq_ : World.drewN wc _ = wc; have n0_ := Aside0.mk (Kd.R_at hq_ HO_9.out); have n1_ := Aside0.mk (Kd.R_at hq_ HO_11.out); have n2_ := Aside0.mk (Kd.R_at hq_ HO_291002.out); have n3_ := Aside0.mk (blk_at hq_ BK278.out); have n4_ := Aside0.mk (blk_at hq_ BK279.out); have n5_ := Aside0.mk (blk_at hq_ BK290.out); have n6_ := Aside0.mk (below_at hq_ HB.out); clear hq_ HO_9 HO_11 HO_291002 BK278 BK279 BK290 HB; have HO_9 := n0_; have HO_11 := n1_; have HO_291002 := n2_; have BK278 := n3_; have BK279 := n4_; have BK290 := n5_; have HB := n6_; clear n0_ n1_ n2_ n3_ n4_ n5_ n6_; (try (have HP52 := Kd.R_putg HO_291002.out ((ji39) : Int) 1)))); refine store_event (t := 3) (p := 74) (v := ?vo_w53) (w1 := (wc.setCell ⟨go48, ((ji39) : Int).toNat, none⟩ (.int .i64 1))) ?hg ?ho ?hn ?hr ?_; (case ho => rfl); (case hg => rfl); (case hn => rfl); (case hr => first | (go_simp; done) | (go_simp; rfl)); intro w53 hw; have hg : wc.grownBy w53 (some go48) := (by rw [hw]; exact HP52.2); have hp_ : Kd.R (Kd.int .i64) 3 w53 w.heap.size (fun k_ => some k_ ≠ (.slice (some ad294) x9_4.length co13 : Value).ownBlock ∧ some k_ ≠ (v292 : Value).ownBlock) (.slice (some ⟨go48, 0, none⟩) x291002_4.length co48) y295 := (by rw [hw, Ny295.out]; exact HP52.1); clear HP52; have n0_ := Aside0.mk (Kd.R_after (v := (.slice (some ⟨go48, 0, none⟩) x291002_4.length co48)) (v1 := (.slice (some ⟨go48, 0, none⟩) x291002_4.length co48)) (ok := (fun k_ => some k_ ≠ (v292 : Value).ownBlock)) (sR_ HO_9.out) hg (.inl rfl)); have n1_ := Aside0.mk (Kd.R_after (v := (.slice (some ⟨go48, 0, none⟩) x291002_4.length co48)) (v1 := (.slice (some ⟨go48, 0, none⟩) x291002_4.length co48)) (ok := (fun k_ => some k_ ≠ (.slice (some ad294) x9_4.length co13 : Value).ownBlock)) (sR_ HO_11.out) hg (.inl rfl)); have n2_ := Aside0.mk (hp_); have n3_ := Aside0.mk (blk_grown (sB_ BK278.out) hg (Kd.R_ne HO_291002.out BK278.out (by decide))); have n4_ := Aside0.mk (blk_grown (sB_ BK279.out) hg (Kd.R_ne HO_291002.out BK279.out (by decide))); have n5_ := Aside0.mk (blk_grown (sB_ BK290.out) hg (Kd.R_ne HO_291002.out BK290.out (by decide))); have n6_ := Aside0.mk ((by rw [hw]; exact below_set (HB.out) GB48.out : Below w.heap.size w w53)); clear HO_9 HO_11 HO_291002 BK278 BK279 BK290 HB; have HO_9 := n0_; have HO_11 := n1_; have HO_291002 := n2_; have BK278 := n3_; have BK279 := n4_; have BK290 := n5_; have HB := n6_; clear n0_ n1_ n2_ n3_ n4_ n5_ n6_; clear hg hw hp_))
                    repeat (go_quiet (first | ((with_reducible refine gate_store (t := 3) (p := 74) rfl ?_); (try (rw [drewN_self wc]; generalize hq_ : World.drewN wc _ = wc; have n0_ := Aside0.mk (Kd.R_at hq_ HO_9.out); have n1_ := Aside0.mk (Kd.R_at hq_ HO_11.out); have n2_ := Aside0.mk (Kd.R_at hq_ HO_291002.out); have n3_ := Aside0.mk (blk_at hq_ BK278.out); have n4_ := Aside0.mk (blk_at hq_ BK279.out); have n5_ := Aside0.mk (blk_at hq_ BK290.out); have n6_ := Aside0.mk (below_at hq_ HB.out); clear hq_ HO_9 HO_11 HO_291002 BK278 BK279 BK290 HB; have HO_9 := n0_; have HO_11 := n1_; have HO_291002 := n2_; have BK278 := n3_; have BK279 := n4_; have BK290 := n5_; have HB := n6_; clear n0_ n1_ n2_ n3_ n4_ n5_ n6_; (try (have HP52 := Kd.R_putg HO_291002.out ((ji39) : Int) 1)))); refine store_event (t := 3) (p := 74) (v := ?vo_w53) (w1 := (wc.setCell ⟨go48, ((ji39) : Int).toNat, none⟩ (.int .i64 1))) ?hg ?ho ?hn ?hr ?_; (case ho => rfl); (case hg => rfl); (case hn => rfl); (case hr => first | (go_simp; done) | (go_simp; rfl)); intro w53 hw; have hg : wc.grownBy w53 (some go48) := (by rw [hw]; exact HP52.2); have hp_ : Kd.R (Kd.int .i64) 3 w53 w.heap.size (fun k_ => some k_ ≠ (.slice (some ad294) x9_4.length co13 : Value).ownBlock ∧ some k_ ≠ (v292 : Value).ownBlock) (.slice (some ⟨go48, 0, none⟩) x291002_4.length co48) y295 := (by rw [hw, Ny295.out]; exact HP52.1); clear HP52; have n0_ := Aside0.mk (Kd.R_after (v := (.slice (some ⟨go48, 0, none⟩) x291002_4.length co48)) (v1 := (.slice (some ⟨go48, 0, none⟩) x291002_4.length co48)) (ok := (fun k_ => some k_ ≠ (v292 : Value).ownBlock)) (sR_ HO_9.out) hg (.inl rfl)); have n1_ := Aside0.mk (Kd.R_after (v := (.slice (some ⟨go48, 0, none⟩) x291002_4.length co48)) (v1 := (.slice (some ⟨go48, 0, none⟩) x291002_4.length co48)) (ok := (fun k_ => some k_ ≠ (.slice (some ad294) x9_4.length co13 : Value).ownBlock)) (sR_ HO_11.out) hg (.inl rfl)); have n2_ := Aside0.mk (hp_); have n3_ := Aside0.mk (blk_grown (sB_ BK278.out) hg (Kd.R_ne HO_291002.out BK278.out (by decide))); have n4_ := Aside0.mk (blk_grown (sB_ BK279.out) hg (Kd.R_ne HO_291002.out BK279.out (by decide))); have n5_ := Aside0.mk (blk_grown (sB_ BK290.out) hg (Kd.R_ne HO_291002.out BK290.out (by decide))); have n6_ := Aside0.mk ((by rw [hw]; exact below_set (HB.out) GB48.out : Below w.heap.size w w53)); clear HO_9 HO_11 HO_291002 BK278 BK279 BK290 HB; have HO_9 := n0_; have HO_11 := n1_; have HO_291002 := n2_; have BK278 := n3_; have BK279 := n4_; have BK290 := n5_; have HB := n6_; clear n0_ n1_ n2_ n3_ n4_ n5_ n6_; clear hg hw hp_)); try go_wp2_with (first | ((with_reducible refine gate_store (t := 3) (p := 74) rfl ?_); (try (rw [drewN_self wc]; generalize hq_ : World.drewN wc _ = wc; have n0_ := Aside0.mk (Kd.R_at hq_ HO_9.out); have n1_ := Aside0.mk (Kd.R_at hq_ HO_11.out); have n2_ := Aside0.mk (Kd.R_at hq_ HO_291002.out); have n3_ := Aside0.mk (blk_at hq_ BK278.out); have n4_ := Aside0.mk (blk_at hq_ BK279.out); have n5_ := Aside0.mk (blk_at hq_ BK290.out); have n6_ := Aside0.mk (below_at hq_ HB.out); clear hq_ HO_9 HO_11 HO_291002 BK278 BK279 BK290 HB; have HO_9 := n0_; have HO_11 := n1_; have HO_291002 := n2_; have BK278 := n3_; have BK279 := n4_; have BK290 := n5_; have HB := n6_; clear n0_ n1_ n2_ n3_ n4_ n5_ n6_; (try (have HP52 := Kd.R_putg HO_291002.out ((ji39) : Int) 1)))); refine store_event (t := 3) (p := 74) (v := ?vo_w53) (w1 := (wc.setCell ⟨go48, ((ji39) : Int).toNat, none⟩ (.int .i64 1))) ?hg ?ho ?hn ?hr ?_; (case ho => rfl); (case hg => rfl); (case hn => rfl); (case hr => first | (go_simp; done) | (go_simp; rfl)); intro w53 hw; have hg : wc.grownBy w53 (some go48) := (by rw [hw]; exact HP52.2); have hp_ : Kd.R (Kd.int .i64) 3 w53 w.heap.size (fun k_ => some k_ ≠ (.slice (some ad294) x9_4.length co13 : Value).ownBlock ∧ some k_ ≠ (v292 : Value).ownBlock) (.slice (some ⟨go48, 0, none⟩) x291002_4.length co48) y295 := (by rw [hw, Ny295.out]; exact HP52.1); clear HP52; have n0_ := Aside0.mk (Kd.R_after (v := (.slice (some ⟨go48, 0, none⟩) x291002_4.length co48)) (v1 := (.slice (some ⟨go48, 0, none⟩) x291002_4.length co48)) (ok := (fun k_ => some k_ ≠ (v292 : Value).ownBlock)) (sR_ HO_9.out) hg (.inl rfl)); have n1_ := Aside0.mk (Kd.R_after (v := (.slice (some ⟨go48, 0, none⟩) x291002_4.length co48)) (v1 := (.slice (some ⟨go48, 0, none⟩) x291002_4.length co48)) (ok := (fun k_ => some k_ ≠ (.slice (some ad294) x9_4.length co13 : Value).ownBlock)) (sR_ HO_11.out) hg (.inl rfl)); have n2_ := Aside0.mk (hp_); have n3_ := Aside0.mk (blk_grown (sB_ BK278.out) hg (Kd.R_ne HO_291002.out BK278.out (by decide))); have n4_ := Aside0.mk (blk_grown (sB_ BK279.out) hg (Kd.R_ne HO_291002.out BK279.out (by decide))); have n5_ := Aside0.mk (blk_grown (sB_ BK290.out) hg (Kd.R_ne HO_291002.out BK290.out (by decide))); have n6_ := Aside0.mk ((by rw [hw]; exact below_set (HB.out) GB48.out : Below w.heap.size w w53)); clear HO_9 HO_11 HO_291002 BK278 BK279 BK290 HB; have HO_9 := n0_; have HO_11 := n1_; have HO_291002 := n2_; have BK278 := n3_; have BK279 := n4_; have BK290 := n5_; have HB := n6_; clear n0_ n1_ n2_ n3_ n4_ n5_ n6_; clear hg hw hp_)))
                    go_meet
                    case rel => exact ⟨_, (x9_4), (x11_4), (wrap64 ((rd x9_4 (ji39)) - 255)), (y295), (.slice (some ⟨go48, 0, none⟩) x291002_4.length co48), (by first | rfl | (simp; done) | (simp only [← hji39] <;> (first | rfl | simp)) | (simp [*]; done)), H', ⟨by have := HK1.out; have := HJ25.out; have := HJ27.out; have := HK4.out; have := HJ33.out; first | omega | exact Nat.le_refl _⟩, ⟨by (try simp only [hl9_1]); (try simp only [hl9_4]); (with_reducible repeat (first | apply Kd.R_alloc | apply Kd.R_drewN | apply Kd.R_drew)); exact HO_9.out⟩, ⟨by (try simp only [hl9_1]); (try simp only [hl9_4]); (with_reducible repeat (first | apply Kd.R_alloc | apply Kd.R_drewN | apply Kd.R_drew)); exact HO_11.out⟩, ⟨by (try simp only [hl9_1]); (try simp only [hl9_4]); (with_reducible repeat (first | apply Kd.R_alloc | apply Kd.R_drewN | apply Kd.R_drew)); exact HO_291002.out⟩, ⟨by (try simp only [hl9_1]); (try simp only [hl9_4]); refine sB_ ?_; exact BK278.out⟩, ⟨by (try simp only [hl9_1]); (try simp only [hl9_4]); refine sB_ ?_; exact BK279.out⟩, ⟨by (try simp only [hl9_1]); (try simp only [hl9_4]); refine sB_ ?_; exact BK290.out⟩, ⟨by repeat (first | (with_reducible first | exact HB.out | apply below_alloc | apply pw_below_drewN | apply below_drew1 | refine below_set ?_ GE278.out | refine below_set ?_ GE279.out | refine below_set ?_ GE290.out) | exact HB.out)⟩⟩
                   rw [if_neg c47] at H
                   exact absurd H (by simp)
                  rw [if_neg c46] at H
                  have c46b0 : decide (128 ≤ (rd x9_4 (ji39))) = false := decide_eq_false c46
                  clear c46
                  (first | rw [c46b0] | (simp only [i64_w, i32_w]; rw [c46b0]) | skip)
                  have H' := Aside0.mk H
                  clear H
                  go_wp2
                  repeat (go_quiet (fail); try go_wp2)
                  go_meet
                  case rel => exact ⟨_, (x9_4), (x11_4), (rd x9_4 (ji39)), (x291002_4), (u291002), (by first | rfl | (simp; done) | (simp only [← hji39] <;> (first | rfl | simp)) | (simp [*]; done)), H', ⟨by have := HK1.out; have := HJ25.out; have := HJ27.out; have := HK4.out; have := HJ33.out; first | omega | exact Nat.le_refl _⟩, ⟨by (try simp only [hl9_1]); (try simp only [hl9_4]); (with_reducible repeat (first | apply Kd.R_alloc | apply Kd.R_drewN | apply Kd.R_drew)); exact HO_9.out⟩, ⟨by (try simp only [hl9_1]); (try simp only [hl9_4]); (with_reducible repeat (first | apply Kd.R_alloc | apply Kd.R_drewN | apply Kd.R_drew)); exact HO_11.out⟩, ⟨by (try simp only [hl9_1]); (try simp only [hl9_4]); (with_reducible repeat (first | apply Kd.R_alloc | apply Kd.R_drewN | apply Kd.R_drew)); exact HO_291002.out⟩, ⟨by (try simp only [hl9_1]); (try simp only [hl9_4]); refine sB_ ?_; exact BK278.out⟩, ⟨by (try simp only [hl9_1]); (try simp only [hl9_4]); refine sB_ ?_; exact BK279.out⟩, ⟨by (try simp only [hl9_1]); (try simp only [hl9_4]); refine sB_ ?_; exact BK290.out⟩, ⟨by repeat (first | (with_reducible first | exact HB.out | apply below_alloc | apply pw_below_drewN | apply below_drew1 | refine below_set ?_ GE278.out | refine below_set ?_ GE279.out | refine below_set ?_ GE290.out) | exact HB.out)⟩⟩
                 case rest =>
                  clear HC42
                  try clear c1
                  try clear c2
                  try clear p2
                  try clear q2
                  try clear hx2
                  try clear c3
                  try clear c4
                  try clear p4
                  try clear q4
                  try clear hx4
                  try clear hf4
                  try clear c5
                  try clear c6
                  try clear c6b0
                  try clear c6b1
                  try clear p6
                  try clear c7
                  try clear c7b0
                  try clear c7b1
                  try clear c10
                  try clear c17
                  try clear c18
                  try clear c25
                  try clear c25b0
                  try clear c27
                  try clear c29
                  try clear p29
                  try clear q29
                  try clear hx29
                  try clear c30
                  try clear c31
                  try clear c33
                  try clear c33b0
                  try clear c35
                  try clear c35b0
                  try clear c36
                  try clear c37
                  try clear c40
                  try clear c40b0
                  try clear c41
                  try clear c41b0
                  try clear c43
                  try clear c44
                  try clear c46
                  try clear c46b0
                  try clear c47
                  try clear c47b0
                  try clear p48
                  try clear q48
                  try clear hx48
                  try clear hf48
                  try clear c49
                  try clear c50
                  try clear hcz11_0
                  try clear hcz11_1
                  try clear hcz11_2
                  try clear hcz14_0
                  try clear hcz14_1
                  try clear hcz14_2
                  try clear hcz19_0
                  try clear hcz19_1
                  try clear hcz19_2
                  try clear hcz21_0
                  try clear hcz21_1
                  try clear hcz21_2
                  try clear hcz24_0
                  try clear hcz24_1
                  try clear hcz24_2
                  try clear hcz32_0
                  try clear hcz32_1
                  try clear hcz32_2
                  try clear hcz38_0
                  try clear hcz38_1
                  try clear hcz38_2
                  try clear hcz45_0
                  try clear hcz45_1
                  try clear hcz45_2
                  try clear hcz51_0
                  try clear hcz51_1
                  try clear hcz51_2
                  try clear hfz11_0
                  try clear hfz11_1
                  try clear hfz11_2
                  try clear hfz14_0
                  try clear hfz14_1
                  try clear hfz14_2
                  try clear hfz19_0
                  try clear hfz19_1
                  try clear hfz19_2
                  try clear hfz21_0
                  try clear hfz21_1
                  try clear hfz21_2
                  try clear hfz24_0
                  try clear hfz24_1
                  try clear hfz24_2
                  try clear hfz32_0
                  try clear hfz32_1
                  try clear hfz32_2
                  try clear hfz38_0
                  try clear hfz38_1
                  try clear hfz38_2
                  try clear hfz45_0
                  try clear hfz45_1
                  try clear hfz45_2
                  try clear hfz51_0
                  try clear hfz51_1
                  try clear hfz51_2
                  try clear hx294_0
                  try clear hx48_0
                  try clear p2
                  try clear p294
                  try clear p48
                  try clear p6
                  try clear q294
                  try clear q48
                  obtain ⟨kq, x9_41, x11_41, x18_41, x291002_41, u291002, rfl, HA, HJ41, HO_9, HO_11, HO_291002, BK278, BK279, BK290, HB⟩ := hcut
                  have hl9_41 := (Kd.R_reads' HO_9.out).1
                  rw [hl9_41] at HO_9
                  (try simp only [hl9_41])
                  (try simp only [hl9_41] at BK278)
                  (try simp only [hl9_41] at BK279)
                  (try simp only [hl9_41] at BK290)
                  (try simp only [hl9_41] at HO_11)
                  (try simp only [hl9_41] at HO_291002)
                  cases kq with
                  | zero => exact absurd HA.out (by simp [impl_diffused.j5])
                  | succ kj41 =>
                   have H := HA.out; clear HA
                   simp only [impl_diffused.j5] at H
                   by_cases c54 : 0 ≤ ji39
                   ·rw [if_pos c54] at H
                    have c54b0 : decide (0 ≤ ji39) = true := decide_eq_true c54
                    clear c54
                    by_cases c55 : ji39 < (x11_41.length : Int)
                    ·rw [if_pos c55] at H
                     have c55b0 : decide (ji39 < (x11_41.length : Int)) = true := decide_eq_true c55
                     clear c55
                     obtain ⟨y296, hy296⟩ : ∃ y_ : List Int, y_ = (x11_41.set (ji39 : Int).toNat x18_41) := ⟨_, rfl⟩
                     replace H : ((impl_shares.f kj41 l0 x18_41).bind fun t297 => (impl_diffused.l2 kj41 l0 a2 x9_41 y296 x12_4 x37_1 x14_27 x16_33 a1_1 x37_1 a1_0 x48_4 t297 (t297.length : Int) 0 a1_0 a1_1 l1_2 t285 t286 x291002_41)) = some (r1, r2, r3, r4, r5) := by first | (rw [hy296]; with_reducible exact H) | (have H2_ := (Option.bind_some _ _).symm.trans H; rw [hy296]; with_reducible exact H2_) | (have H2_ := (Option.bind_some _ _).symm.trans H; with_reducible exact H2_) | with_reducible exact H | (rw [hy296]; exact H) | exact H
                     have Ny296 := Aside0.mk hy296
                     clear hy296
                     replace H := Option.bind_eq_some_iff.mp H
                     obtain ⟨t297, A570, H⟩ := H
                     replace H : (impl_diffused.l2 kj41 l0 a2 x9_41 y296 x12_4 x37_1 x14_27 x16_33 a1_1 x37_1 a1_0 x48_4 t297 (t297.length : Int) 0 a1_0 a1_1 l1_2 t285 t286 x291002_41) = some (r1, r2, r3, r4, r5) := H
                     have A57 := Aside0.mk A570
                     clear A570
                     have H' := Aside0.mk H
                     clear H
                     have p56 : 0 ≤ (ji39 : Int) := of_decide_eq_true (by first | (with_reducible assumption) | assumption)
                     have q56 : (ji39 : Int) < ((x11_41.length : Int) : Int) := of_decide_eq_true (by first | (with_reducible assumption) | assumption)
                     obtain ⟨go56, co56, eo56, gb56, gl56, cl56, HG56⟩ := Kd.R_form HO_11.out (by omega)
                     (first | cases eo56 | (injection eo56 with ea_ en_ ec_; (first | subst ea_ | (injection ea_ with ea_; subst ea_)); subst ec_; clear en_))
                     have GB56 := Aside0.mk gb56
                     have GG56 := Aside0.mk HG56
                     clear gb56 gl56 HG56
                     obtain ⟨hx56_0, hf56_0⟩ := Kd.R_celln 0 HO_11.out (ji39 : Int) p56 q56
                     replace p56 := eq_true p56
                     replace q56 := eq_true q56
                     have HP58 := Kd.R_putg HO_11.out (ji39 : Int) x18_41
                     go_wp2_with (first | ((with_reducible refine gate_store (t := 3) (p := 80) rfl ?_); (try (rw [drewN_self wc]; generalize hq_ : World.drewN wc _ = wc; have n0_ := Aside0.mk (Kd.R_at hq_ HO_9.out); have n1_ := Aside0.mk (Kd.R_at hq_ HO_11.out); have n2_ := Aside0.mk (Kd.R_at hq_ HO_291002.out); have n3_ := Aside0.mk (blk_at hq_ BK278.out); have n4_ := Aside0.mk (blk_at hq_ BK279.out); have n5_ := Aside0.mk (blk_at hq_ BK290.out); have n6_ := Aside0.mk (below_at hq_ HB.out); clear hq_ HO_9 HO_11 HO_291002 BK278 BK279 BK290 HB; have HO_9 := n0_; have HO_11 := n1_; have HO_291002 := n2_; have BK278 := n3_; have BK279 := n4_; have BK290 := n5_; have HB := n6_; clear n0_ n1_ n2_ n3_ n4_ n5_ n6_; (try (have HP58 := Kd.R_putg HO_11.out (ji39 : Int) x18_41)))); refine store_event (t := 3) (p := 80) (v := ?vo_w59) (w1 := (wc.setCell ⟨go56, (ji39 : Int).toNat, none⟩ (.int .i64 x18_41))) ?hg ?ho ?hn ?hr ?_; (case ho => rfl); (case hg => rfl); (case hn => rfl); (case hr => first | (go_simp; done) | (go_simp; rfl)); intro w59 hw; have hg : wc.grownBy w59 (some go56) := (by rw [hw]; exact HP58.2); have hp_ : Kd.R (Kd.int .i64) 3 w59 w.heap.size (fun k_ => some k_ ≠ (.slice (some ad294) x9_41.length co13 : Value).ownBlock ∧ some k_ ≠ (u291002 : Value).ownBlock) (.slice (some ⟨go56, 0, none⟩) x11_41.length co56) y296 := (by rw [hw, Ny296.out]; exact HP58.1); clear HP58; have n0_ := Aside0.mk (Kd.R_after (v := (.slice (some ⟨go56, 0, none⟩) x11_41.length co56)) (v1 := (.slice (some ⟨go56, 0, none⟩) x11_41.length co56)) (ok := (fun k_ => some k_ ≠ (u291002 : Value).ownBlock)) (by (with_reducible repeat (first | apply Kd.R_alloc | apply Kd.R_drewN | apply Kd.R_drew)); exact Kd.R_mono HO_9.out (fun _ hk => ⟨hk.2, hk.1⟩)) hg (.inl rfl)); have n1_ := Aside0.mk (hp_); have n2_ := Aside0.mk (Kd.R_after (v := (.slice (some ⟨go56, 0, none⟩) x11_41.length co56)) (v1 := (.slice (some ⟨go56, 0, none⟩) x11_41.length co56)) (ok := (fun k_ => some k_ ≠ (.slice (some ad294) x9_41.length co13 : Value).ownBlock)) (sR_ HO_291002.out) hg (.inl rfl)); have n3_ := Aside0.mk (blk_grown (sB_ BK278.out) hg (Kd.R_ne HO_11.out BK278.out (by decide))); have n4_ := Aside0.mk (blk_grown (sB_ BK279.out) hg (Kd.R_ne HO_11.out BK279.out (by decide))); have n5_ := Aside0.mk (blk_grown (sB_ BK290.out) hg (Kd.R_ne HO_11.out BK290.out (by decide))); have n6_ := Aside0.mk ((by rw [hw]; exact below_set (HB.out) GB56.out : Below w.heap.size w w59)); clear HO_9 HO_11 HO_291002 BK278 BK279 BK290 HB; have HO_9 := n0_; have HO_11 := n1_; have HO_291002 := n2_; have BK278 := n3_; have BK279 := n4_; have BK290 := n5_; have HB := n6_; clear n0_ n1_ n2_ n3_ n4_ n5_ n6_; clear hg hw hp_) | (go_at_call 57; (with_reducible refine (impl_shares.calls kj41 _ _ l0 x18_41 t297 _ ?side1 ?side2 A57.out).mono ?_); (case side1 => repeat (first | exact (Kd.C_below HR0.out HB.out) | (with_reducible refine Kd.C_alloc ?_ _) | (with_reducible refine Kd.C_drewN ?_ _) | (with_reducible refine Kd.C_drew ?_))); (case side2 => exact HC0.out); rintro e w60 ⟨v298, rfl, ho0, hb⟩; have n0_ := Aside0.mk (Kd.R_elder' (sR_ HO_9.out) (Kd.R_base ho0) hb); have n1_ := Aside0.mk (Kd.R_elder' (sR_ HO_11.out) (Kd.R_base ho0) hb); have n2_ := Aside0.mk (Kd.R_elder' (sR_ HO_291002.out) (Kd.R_base ho0) hb); have n3_ := Aside0.mk (Kd.R_lower (Kd.R_new' (Kd.R_new' (Kd.R_new' ho0 (Kd.R_lt (sR_ HO_9.out))) (Kd.R_lt (sR_ HO_11.out))) (Kd.R_lt (sR_ HO_291002.out))) (below_size (sW_ HB.out))); have n4_ := Aside0.mk (blk_below (sB_ BK278.out) hb); have n5_ := Aside0.mk (blk_below (sB_ BK279.out) hb); have n6_ := Aside0.mk (blk_below (sB_ BK290.out) hb); have n7_ := Aside0.mk (below_step (sW_ HB.out) hb); clear HO_9 HO_11 HO_291002 BK278 BK279 BK290 HB; have HO_9 := n0_; have HO_11 := n1_; have HO_291002 := n2_; have HO299 := n3_; have BK278 := n4_; have BK279 := n5_; have BK290 := n6_; have HB := n7_; clear n0_ n1_ n2_ n3_ n4_ n5_ n6_ n7_; (try clear hb); (try clear hb2); (try clear hk); (try clear hi); (try clear ho0); obtain ⟨Ao61, co61, eo61⟩ := Kd.R_slice HO299.out; subst eo61))
                     repeat (go_quiet (first | ((with_reducible refine gate_store (t := 3) (p := 80) rfl ?_); (try (rw [drewN_self wc]; generalize hq_ : World.drewN wc _ = wc; have n0_ := Aside0.mk (Kd.R_at hq_ HO_9.out); have n1_ := Aside0.mk (Kd.R_at hq_ HO_11.out); have n2_ := Aside0.mk (Kd.R_at hq_ HO_291002.out); have n3_ := Aside0.mk (blk_at hq_ BK278.out); have n4_ := Aside0.mk (blk_at hq_ BK279.out); have n5_ := Aside0.mk (blk_at hq_ BK290.out); have n6_ := Aside0.mk (below_at hq_ HB.out); clear hq_ HO_9 HO_11 HO_291002 BK278 BK279 BK290 HB; have HO_9 := n0_; have HO_11 := n1_; have HO_291002 := n2_; have BK278 := n3_; have BK279 := n4_; have BK290 := n5_; have HB := n6_; clear n0_ n1_ n2_ n3_ n4_ n5_ n6_; (try (have HP58 := Kd.R_putg HO_11.out (ji39 : Int) x18_41)))); refine store_event (t := 3) (p := 80) (v := ?vo_w59) (w1 := (wc.setCell ⟨go56, (ji39 : Int).toNat, none⟩ (.int .i64 x18_41))) ?hg ?ho ?hn ?hr ?_; (case ho => rfl); (case hg => rfl); (case hn => rfl); (case hr => first | (go_simp; done) | (go_simp; rfl)); intro w59 hw; have hg : wc.grownBy w59 (some go56) := (by rw [hw]; exact HP58.2); have hp_ : Kd.R (Kd.int .i64) 3 w59 w.heap.size (fun k_ => some k_ ≠ (.slice (some ad294) x9_41.length co13 : Value).ownBlock ∧ some k_ ≠ (u291002 : Value).ownBlock) (.slice (some ⟨go56, 0, none⟩) x11_41.length co56) y296 := (by rw [hw, Ny296.out]; exact HP58.1); clear HP58; have n0_ := Aside0.mk (Kd.R_after (v := (.slice (some ⟨go56, 0, none⟩) x11_41.length co56)) (v1 := (.slice (some ⟨go56, 0, none⟩) x11_41.length co56)) (ok := (fun k_ => some k_ ≠ (u291002 : Value).ownBlock)) (by (with_reducible repeat (first | apply Kd.R_alloc | apply Kd.R_drewN | apply Kd.R_drew)); exact Kd.R_mono HO_9.out (fun _ hk => ⟨hk.2, hk.1⟩)) hg (.inl rfl)); have n1_ := Aside0.mk (hp_); have n2_ := Aside0.mk (Kd.R_after (v := (.slice (some ⟨go56, 0, none⟩) x11_41.length co56)) (v1 := (.slice (some ⟨go56, 0, none⟩) x11_41.length co56)) (ok := (fun k_ => some k_ ≠ (.slice (some ad294) x9_41.length co13 : Value).ownBlock)) (sR_ HO_291002.out) hg (.inl rfl)); have n3_ := Aside0.mk (blk_grown (sB_ BK278.out) hg (Kd.R_ne HO_11.out BK278.out (by decide))); have n4_ := Aside0.mk (blk_grown (sB_ BK279.out) hg (Kd.R_ne HO_11.out BK279.out (by decide))); have n5_ := Aside0.mk (blk_grown (sB_ BK290.out) hg (Kd.R_ne HO_11.out BK290.out (by decide))); have n6_ := Aside0.mk ((by rw [hw]; exact below_set (HB.out) GB56.out : Below w.heap.size w w59)); clear HO_9 HO_11 HO_291002 BK278 BK279 BK290 HB; have HO_9 := n0_; have HO_11 := n1_; have HO_291002 := n2_; have BK278 := n3_; have BK279 := n4_; have BK290 := n5_; have HB := n6_; clear n0_ n1_ n2_ n3_ n4_ n5_ n6_; clear hg hw hp_) | (go_at_call 57; (with_reducible refine (impl_shares.calls kj41 _ _ l0 x18_41 t297 _ ?side1 ?side2 A57.out).mono ?_); (case side1 => repeat (first | exact (Kd.C_below HR0.out HB.out) | (with_reducible refine Kd.C_alloc ?_ _) | (with_reducible refine Kd.C_drewN ?_ _) | (with_reducible refine Kd.C_drew ?_))); (case side2 => exact HC0.out); rintro e w60 ⟨v298, rfl, ho0, hb⟩; have n0_ := Aside0.mk (Kd.R_elder' (sR_ HO_9.out) (Kd.R_base ho0) hb); have n1_ := Aside0.mk (Kd.R_elder' (sR_ HO_11.out) (Kd.R_base ho0) hb); have n2_ := Aside0.mk (Kd.R_elder' (sR_ HO_291002.out) (Kd.R_base ho0) hb); have n3_ := Aside0.mk (Kd.R_lower (Kd.R_new' (Kd.R_new' (Kd.R_new' ho0 (Kd.R_lt (sR_ HO_9.out))) (Kd.R_lt (sR_ HO_11.out))) (Kd.R_lt (sR_ HO_291002.out))) (below_size (sW_ HB.out))); have n4_ := Aside0.mk (blk_below (sB_ BK278.out) hb); have n5_ := Aside0.mk (blk_below (sB_ BK279.out) hb); have n6_ := Aside0.mk (blk_below (sB_ BK290.out) hb); have n7_ := Aside0.mk (below_step (sW_ HB.out) hb); clear HO_9 HO_11 HO_291002 BK278 BK279 BK290 HB; have HO_9 := n0_; have HO_11 := n1_; have HO_291002 := n2_; have HO299 := n3_; have BK278 := n4_; have BK279 := n5_; have BK290 := n6_; have HB := n7_; clear n0_ n1_ n2_ n3_ n4_ n5_ n6_ n7_; (try clear hb); (try clear hb2); (try clear hk); (try clear hi); (try clear ho0); obtain ⟨Ao61, co61, eo61⟩ := Kd.R_slice HO299.out; subst eo61)); try go_wp2_with (first | ((with_reducible refine gate_store (t := 3) (p := 80) rfl ?_); (try (rw [drewN_self wc]; generalize hq_ : World.drewN wc _ = wc; have n0_ := Aside0.mk (Kd.R_at hq_ HO_9.out); have n1_ := Aside0.mk (Kd.R_at hq_ HO_11.out); have n2_ := Aside0.mk (Kd.R_at hq_ HO_291002.out); have n3_ := Aside0.mk (blk_at hq_ BK278.out); have n4_ := Aside0.mk (blk_at hq_ BK279.out); have n5_ := Aside0.mk (blk_at hq_ BK290.out); have n6_ := Aside0.mk (below_at hq_ HB.out); clear hq_ HO_9 HO_11 HO_291002 BK278 BK279 BK290 HB; have HO_9 := n0_; have HO_11 := n1_; have HO_291002 := n2_; have BK278 := n3_; have BK279 := n4_; have BK290 := n5_; have HB := n6_; clear n0_ n1_ n2_ n3_ n4_ n5_ n6_; (try (have HP58 := Kd.R_putg HO_11.out (ji39 : Int) x18_41)))); refine store_event (t := 3) (p := 80) (v := ?vo_w59) (w1 := (wc.setCell ⟨go56, (ji39 : Int).toNat, none⟩ (.int .i64 x18_41))) ?hg ?ho ?hn ?hr ?_; (case ho => rfl); (case hg => rfl); (case hn => rfl); (case hr => first | (go_simp; done) | (go_simp; rfl)); intro w59 hw; have hg : wc.grownBy w59 (some go56) := (by rw [hw]; exact HP58.2); have hp_ : Kd.R (Kd.int .i64) 3 w59 w.heap.size (fun k_ => some k_ ≠ (.slice (some ad294) x9_41.length co13 : Value).ownBlock ∧ some k_ ≠ (u291002 : Value).ownBlock) (.slice (some ⟨go56, 0, none⟩) x11_41.length co56) y296 := (by rw [hw, Ny296.out]; exact HP58.1); clear HP58; have n0_ := Aside0.mk (Kd.R_after (v := (.slice (some ⟨go56, 0, none⟩) x11_41.length co56)) (v1 := (.slice (some ⟨go56, 0, none⟩) x11_41.length co56)) (ok := (fun k_ => some k_ ≠ (u291002 : Value).ownBlock)) (by (with_reducible repeat (first | apply Kd.R_alloc | apply Kd.R_drewN | apply Kd.R_drew)); exact Kd.R_mono HO_9.out (fun _ hk => ⟨hk.2, hk.1⟩)) hg (.inl rfl)); have n1_ := Aside0.mk (hp_); have n2_ := Aside0.mk (Kd.R_after (v := (.slice (some ⟨go56, 0, none⟩) x11_41.length co56)) (v1 := (.slice (some ⟨go56, 0, none⟩) x11_41.length co56)) (ok := (fun k_ => some k_ ≠ (.slice (some ad294) x9_41.length co13 : Value).ownBlock)) (sR_ HO_291002.out) hg (.inl rfl)); have n3_ := Aside0.mk (blk_grown (sB_ BK278.out) hg (Kd.R_ne HO_11.out BK278.out (by decide))); have n4_ := Aside0.mk (blk_grown (sB_ BK279.out) hg (Kd.R_ne HO_11.out BK279.out (by decide))); have n5_ := Aside0.mk (blk_grown (sB_ BK290.out) hg (Kd.R_ne HO_11.out BK290.out (by decide))); have n6_ := Aside0.mk ((by rw [hw]; exact below_set (HB.out) GB56.out : Below w.heap.size w w59)); clear HO_9 HO_11 HO_291002 BK278 BK279 BK290 HB; have HO_9 := n0_; have HO_11 := n1_; have HO_291002 := n2_; have BK278 := n3_; have BK279 := n4_; have BK290 := n5_; have HB := n6_; clear n0_ n1_ n2_ n3_ n4_ n5_ n6_; clear hg hw hp_) | (go_at_call 57; (with_reducible refine (impl_shares.calls kj41 _ _ l0 x18_41 t297 _ ?side1 ?side2 A57.out).mono ?_); (case side1 => repeat (first | exact (Kd.C_below HR0.out HB.out) | (with_reducible refine Kd.C_alloc ?_ _) | (with_reducible refine Kd.C_drewN ?_ _) | (with_reducible refine Kd.C_drew ?_))); (case side2 => exact HC0.out); rintro e w60 ⟨v298, rfl, ho0, hb⟩; have n0_ := Aside0.mk (Kd.R_elder' (sR_ HO_9.out) (Kd.R_base ho0) hb); have n1_ := Aside0.mk (Kd.R_elder' (sR_ HO_11.out) (Kd.R_base ho0) hb); have n2_ := Aside0.mk (Kd.R_elder' (sR_ HO_291002.out) (Kd.R_base ho0) hb); have n3_ := Aside0.mk (Kd.R_lower (Kd.R_new' (Kd.R_new' (Kd.R_new' ho0 (Kd.R_lt (sR_ HO_9.out))) (Kd.R_lt (sR_ HO_11.out))) (Kd.R_lt (sR_ HO_291002.out))) (below_size (sW_ HB.out))); have n4_ := Aside0.mk (blk_below (sB_ BK278.out) hb); have n5_ := Aside0.mk (blk_below (sB_ BK279.out) hb); have n6_ := Aside0.mk (blk_below (sB_ BK290.out) hb); have n7_ := Aside0.mk (below_step (sW_ HB.out) hb); clear HO_9 HO_11 HO_291002 BK278 BK279 BK290 HB; have HO_9 := n0_; have HO_11 := n1_; have HO_291002 := n2_; have HO299 := n3_; have BK278 := n4_; have BK279 := n5_; have BK290 := n6_; have HB := n7_; clear n0_ n1_ n2_ n3_ n4_ n5_ n6_ n7_; (try clear hb); (try clear hb2); (try clear hk); (try clear hi); (try clear ho0); obtain ⟨Ao61, co61, eo61⟩ := Kd.R_slice HO299.out; subst eo61)))
                     go_loopg [12, 85] kj41 (fun kq v12 v85 w' => ∃ (x9_7 : List Int) (x12_7 : Int) (x85_7 : Int), v12 = .int .i64 x12_7 ∧ v85 = .int .i64 x85_7 ∧ Aside0 (impl_diffused.l2 kq l0 a2 x9_7 y296 x12_7 x37_1 x14_27 x16_33 a1_1 x37_1 a1_0 x48_4 t297 (t297.length : Int) x85_7 a1_0 a1_1 l1_2 t285 t286 x291002_41 = some (r1, r2, r3, r4, r5)) ∧ Aside0 (kq ≤ kj41) ∧ Aside0 (Kd.R (Kd.int .i64) 3 w' w.heap.size (fun k_ => some k_ ≠ ((.slice (some ⟨go56, 0, none⟩) x11_41.length co56) : Value).ownBlock ∧ some k_ ≠ ((.slice Ao61 t297.length co61) : Value).ownBlock ∧ some k_ ≠ (u291002 : Value).ownBlock) (.slice (some ad294) x9_41.length co13) x9_7) ∧ Aside0 (Kd.R (Kd.int .i64) 3 w' w.heap.size (fun k_ => some k_ ≠ ((.slice (some ad294) x9_41.length co13) : Value).ownBlock ∧ some k_ ≠ ((.slice Ao61 t297.length co61) : Value).ownBlock ∧ some k_ ≠ (u291002 : Value).ownBlock) (.slice (some ⟨go56, 0, none⟩) x11_41.length co56) y296) ∧ Aside0 (Kd.R (Kd.int .i64) 3 w' w.heap.size (fun k_ => some k_ ≠ ((.slice (some ad294) x9_41.length co13) : Value).ownBlock ∧ some k_ ≠ ((.slice (some ⟨go56, 0, none⟩) x11_41.length co56) : Value).ownBlock ∧ some k_ ≠ (u291002 : Value).ownBlock) (.slice Ao61 t297.length co61) t297) ∧ Aside0 (Kd.R (Kd.int .i64) 3 w' w.heap.size (fun k_ => some k_ ≠ ((.slice (some ad294) x9_41.length co13) : Value).ownBlock ∧ some k_ ≠ ((.slice (some ⟨go56, 0, none⟩) x11_41.length co56) : Value).ownBlock ∧ some k_ ≠ ((.slice Ao61 t297.length co61) : Value).ownBlock) u291002 x291002_41) ∧ Aside0 (w'.heap[gb278]? = some (.cells #[.int .i64 a1_0, .int .i64 a1_1, (.slice A1_2 l1_2.length c1_2)] 27 (0, 0))) ∧ Aside0 (w'.heap[gb279]? = some (.cells #[.int .i64 0, .int .i64 0, (.slice none 0 0)] 27 (0, 0))) ∧ Aside0 (w'.heap[gb290]? = some (.cells #[.int .i64 t285, .int .i64 t286, u291002] 27 (0, 0))) ∧ Aside0 (Below w.heap.size w w'))
                     case atStart => exact ⟨(x9_41), (x12_4), (0), (by first | rfl | (simp; done) | (simp [*]; done)), (by first | rfl | (simp; done) | (simp [*]; done)), H', ⟨Nat.le_refl _⟩, ⟨by (try simp only [hl9_1]); (try simp only [hl9_4]); (try simp only [hl9_41]); (with_reducible repeat (first | apply Kd.R_alloc | apply Kd.R_drewN | apply Kd.R_drew)); exact Kd.R_mono HO_9.out (fun _ hk => ⟨hk.1.2, ⟨hk.2, hk.1.1⟩⟩)⟩, ⟨by (try simp only [hl9_1]); (try simp only [hl9_4]); (try simp only [hl9_41]); (with_reducible repeat (first | apply Kd.R_alloc | apply Kd.R_drewN | apply Kd.R_drew)); exact Kd.R_mono HO_11.out (fun _ hk => ⟨hk.1.1, ⟨hk.2, hk.1.2⟩⟩)⟩, ⟨by (try simp only [hl9_1]); (try simp only [hl9_4]); (try simp only [hl9_41]); (with_reducible repeat (first | apply Kd.R_alloc | apply Kd.R_drewN | apply Kd.R_drew)); exact Kd.R_mono HO299.out (fun _ hk => ⟨hk.1.1.2, ⟨hk.1.2, hk.2⟩⟩)⟩, ⟨by (try simp only [hl9_1]); (try simp only [hl9_4]); (try simp only [hl9_41]); (with_reducible repeat (first | apply Kd.R_alloc | apply Kd.R_drewN | apply Kd.R_drew)); exact Kd.R_mono HO_291002.out (fun _ hk => ⟨hk.1.1, ⟨hk.1.2, hk.2⟩⟩)⟩, ⟨by (try simp only [hl9_1]); (try simp only [hl9_4]); (try simp only [hl9_41]); refine sB_ ?_; exact BK278.out⟩, ⟨by (try simp only [hl9_1]); (try simp only [hl9_4]); (try simp only [hl9_41]); refine sB_ ?_; exact BK279.out⟩, ⟨by (try simp only [hl9_1]); (try simp only [hl9_4]); (try simp only [hl9_41]); refine sB_ ?_; exact BK290.out⟩, ⟨by repeat (first | (with_reducible first | exact HB.out | apply below_alloc | apply pw_below_drewN | apply below_drew1 | refine below_set ?_ GE278.out | refine below_set ?_ GE279.out | refine below_set ?_ GE290.out) | exact HB.out)⟩⟩
                     case round =>
                      clear H'
                      try clear c1
                      try clear c2
                      try clear p2
                      try clear q2
                      try clear hx2
                      try clear c3
                      try clear c4
                      try clear p4
                      try clear q4
                      try clear hx4
                      try clear hf4
                      try clear c5
                      try clear p5
                      try clear q5
                      try clear hx5
                      try clear hf5
                      try clear c6
                      try clear c6b0
                      try clear c6b1
                      try clear p6
                      try clear c7
                      try clear c7b0
                      try clear c7b1
                      try clear c10
                      try clear c17
                      try clear c18
                      try clear c25
                      try clear c25b0
                      try clear c27
                      try clear c29
                      try clear p29
                      try clear q29
                      try clear hx29
                      try clear c30
                      try clear c31
                      try clear c33
                      try clear c33b0
                      try clear c35
                      try clear c35b0
                      try clear c36
                      try clear c37
                      try clear c40
                      try clear c40b0
                      try clear c41
                      try clear c41b0
                      try clear c43
                      try clear c44
                      try clear c46
                      try clear c46b0
                      try clear c47
                      try clear c47b0
                      try clear p48
                      try clear q48
                      try clear hx48
                      try clear hf48
                      try clear c49
                      try clear c50
                      try clear c54
                      try clear c54b0
                      try clear c55
                      try clear c55b0
                      try clear p56
                      try clear q56
                      try clear hx56
                      try clear hf56
                      try clear hcz11_0
                      try clear hcz11_1
                      try clear hcz11_2
                      try clear hcz14_0
                      try clear hcz14_1
                      try clear hcz14_2
                      try clear hcz19_0
                      try clear hcz19_1
                      try clear hcz19_2
                      try clear hcz21_0
                      try clear hcz21_1
                      try clear hcz21_2
                      try clear hcz24_0
                      try clear hcz24_1
                      try clear hcz24_2
                      try clear hcz32_0
                      try clear hcz32_1
                      try clear hcz32_2
                      try clear hcz38_0
                      try clear hcz38_1
                      try clear hcz38_2
                      try clear hcz45_0
                      try clear hcz45_1
                      try clear hcz45_2
                      try clear hcz51_0
                      try clear hcz51_1
                      try clear hcz51_2
                      try clear hfz11_0
                      try clear hfz11_1
                      try clear hfz11_2
                      try clear hfz14_0
                      try clear hfz14_1
                      try clear hfz14_2
                      try clear hfz19_0
                      try clear hfz19_1
                      try clear hfz19_2
                      try clear hfz21_0
                      try clear hfz21_1
                      try clear hfz21_2
                      try clear hfz24_0
                      try clear hfz24_1
                      try clear hfz24_2
                      try clear hfz32_0
                      try clear hfz32_1
                      try clear hfz32_2
                      try clear hfz38_0
                      try clear hfz38_1
                      try clear hfz38_2
                      try clear hfz45_0
                      try clear hfz45_1
                      try clear hfz45_2
                      try clear hfz51_0
                      try clear hfz51_1
                      try clear hfz51_2
                      try clear hx294_0
                      try clear hx48_0
                      try clear hx56_0
                      try clear p2
                      try clear p29
                      try clear p294
                      try clear p4
                      try clear p48
                      try clear p56
                      try clear p6
                      try clear q2
                      try clear q29
                      try clear q294
                      try clear q4
                      try clear q48
                      try clear q56
                      obtain ⟨x9_7, x12_7, x85_7, rfl, rfl, HA, HK7, HO_9, HO_11, HO_83, HO_291002, BK278, BK279, BK290, HB⟩ := hrel
                      have hl9_7 := (Kd.R_reads' HO_9.out).1
                      rw [hl9_7] at HO_9
                      (try simp only [hl9_7])
                      (try simp only [hl9_7] at BK278)
                      (try simp only [hl9_7] at BK279)
                      (try simp only [hl9_7] at BK290)
                      (try simp only [hl9_7] at HO_11)
                      (try simp only [hl9_7] at HO_83)
                      (try simp only [hl9_7] at HO_291002)
                      have hl11_7 := (Kd.R_reads' HO_11.out).1
                      rw [hl11_7] at HO_11
                      (try simp only [hl11_7])
                      (try simp only [hl11_7] at BK278)
                      (try simp only [hl11_7] at BK279)
                      (try simp only [hl11_7] at BK290)
                      (try simp only [hl11_7] at HO_9)
                      (try simp only [hl11_7] at HO_83)
                      (try simp only [hl11_7] at HO_291002)
                      cases gk with
                      | zero => exact absurd HA.out (by simp [impl_diffused.l2])
                      | succ k7 =>
                       have H := HA.out; clear HA
                       simp only [impl_diffused.l2] at H
                       by_cases c62 : x85_7 < (t297.length : Int)
                       ·rw [if_pos c62] at H
                        have c62b0 : decide (x85_7 < (t297.length : Int)) = true := decide_eq_true c62
                        clear c62
                        by_cases c63 : 0 ≤ x85_7
                        ·rw [if_pos c63] at H
                         have c63b0 : decide (0 ≤ x85_7) = true := decide_eq_true c63
                         clear c63
                         by_cases c64 : x85_7 < (t297.length : Int)
                         ·rw [if_pos c64] at H
                          have c64b0 : decide (x85_7 < (t297.length : Int)) = true := decide_eq_true c64
                          clear c64
                          by_cases c65 : x85_7 < (l0.length : Int)
                          ·rw [if_pos c65] at H
                           have c65b0 : decide (x85_7 < (l0.length : Int)) = true := decide_eq_true c65
                           clear c65
                           by_cases c66 : (wrap64 (x16_33 + (wrap64 (x14_27 * ((rd_T68 l0 x85_7).f0))))) < 0
                           ·rw [if_pos c66] at H
                            have c66b0 : decide ((wrap64 (x16_33 + (wrap64 (x14_27 * ((rd_T68 l0 x85_7).f0))))) < 0) = true := decide_eq_true c66
                            clear c66
                            have H' := Aside0.mk H
                            clear H
                            have p300 : 0 ≤ (x85_7 : Int) := of_decide_eq_true (by first | (with_reducible assumption) | assumption)
                            have q300 : x85_7 < (t297.length : Int) := of_decide_eq_true (by first | (with_reducible assumption) | assumption)
                            obtain ⟨ad300, e300, hx300_0⟩ := Kd.at_int (Kd.R_reads' HO_83.out).2.2 x85_7 p300 q300
                            cases e300
                            replace p300 := eq_true p300
                            replace q300 := eq_true q300
                            have p301 : 0 ≤ (x85_7 : Int) := of_decide_eq_true (by first | (with_reducible assumption) | assumption)
                            have q301 : x85_7 < (l0.length : Int) := of_decide_eq_true (by first | (with_reducible assumption) | assumption)
                            obtain ⟨ad301, e301, hx301_0, hx301_1, hx301_2⟩ := at_T68 HR0.out x85_7 p301 q301
                            cases e301
                            replace hx301_0 := (HB.out.cell (World.block_lt_of_cell? w _ hx301_0)).trans hx301_0
                            replace hx301_1 := (HB.out.cell (World.block_lt_of_cell? w _ hx301_1)).trans hx301_1
                            replace hx301_2 := (HB.out.cell (World.block_lt_of_cell? w _ hx301_2)).trans hx301_2
                            replace p301 := eq_true p301
                            replace q301 := eq_true q301
                            have p302 : 0 ≤ (x85_7 : Int) := of_decide_eq_true (by first | (with_reducible assumption) | assumption)
                            have q302 : x85_7 < (l0.length : Int) := of_decide_eq_true (by first | (with_reducible assumption) | assumption)
                            obtain ⟨ad302, e302, hx302_0, hx302_1, hx302_2⟩ := at_T68 HR0.out x85_7 p302 q302
                            obtain rfl : ad301 = ad302 := (by injection e302)
                            replace hx302_0 := (HB.out.cell (World.block_lt_of_cell? w _ hx302_0)).trans hx302_0
                            replace hx302_1 := (HB.out.cell (World.block_lt_of_cell? w _ hx302_1)).trans hx302_1
                            replace hx302_2 := (HB.out.cell (World.block_lt_of_cell? w _ hx302_2)).trans hx302_2
                            replace p302 := eq_true p302
                            replace q302 := eq_true q302
                            go_wp2
                            repeat (go_quiet (fail); try go_wp2)
                            (try simp only [← hl9_7, ← hl11_7])
                            go_roundg k7
                            case measure => have := HK1.out; have := HJ25.out; have := HJ27.out; have := HK4.out; have := HJ33.out; have := HJ41.out; have := HK7.out; omega
                            case rel => exact ⟨(x9_7), (wrap64 (x12_7 + (rd t297 x85_7))), (wrap64 (x85_7 + 1)), (by first | rfl | (simp; done) | (simp [*]; done)), (by first | rfl | (simp; done) | (simp [*]; done)), H', ⟨by have := HK1.out; have := HJ25.out; have := HJ27.out; have := HK4.out; have := HJ33.out; have := HJ41.out; have := HK7.out; omega⟩, ⟨by (try simp only [hl9_1]); (try simp only [hl9_4]); (try simp only [hl9_41]); (try simp only [hl9_7]); (try simp only [hl11_7]); (with_reducible repeat (first | apply Kd.R_alloc | apply Kd.R_drewN | apply Kd.R_drew)); exact HO_9.out⟩, ⟨by (try simp only [hl9_1]); (try simp only [hl9_4]); (try simp only [hl9_41]); (try simp only [hl9_7]); (try simp only [hl11_7]); (with_reducible repeat (first | apply Kd.R_alloc | apply Kd.R_drewN | apply Kd.R_drew)); exact HO_11.out⟩, ⟨by (try simp only [hl9_1]); (try simp only [hl9_4]); (try simp only [hl9_41]); (try simp only [hl9_7]); (try simp only [hl11_7]); (with_reducible repeat (first | apply Kd.R_alloc | apply Kd.R_drewN | apply Kd.R_drew)); exact HO_83.out⟩, ⟨by (try simp only [hl9_1]); (try simp only [hl9_4]); (try simp only [hl9_41]); (try simp only [hl9_7]); (try simp only [hl11_7]); (with_reducible repeat (first | apply Kd.R_alloc | apply Kd.R_drewN | apply Kd.R_drew)); exact HO_291002.out⟩, ⟨by (try simp only [hl9_1]); (try simp only [hl9_4]); (try simp only [hl9_41]); (try simp only [hl9_7]); (try simp only [hl11_7]); refine sB_ ?_; exact BK278.out⟩, ⟨by (try simp only [hl9_1]); (try simp only [hl9_4]); (try simp only [hl9_41]); (try simp only [hl9_7]); (try simp only [hl11_7]); refine sB_ ?_; exact BK279.out⟩, ⟨by (try simp only [hl9_1]); (try simp only [hl9_4]); (try simp only [hl9_41]); (try simp only [hl9_7]); (try simp only [hl11_7]); refine sB_ ?_; exact BK290.out⟩, ⟨by repeat (first | (with_reducible first | exact HB.out | apply below_alloc | apply pw_below_drewN | apply below_drew1 | refine below_set ?_ GE278.out | refine below_set ?_ GE279.out | refine below_set ?_ GE290.out) | exact HB.out)⟩⟩
                           rw [if_neg c66] at H
                           have c66b0 : decide ((wrap64 (x16_33 + (wrap64 (x14_27 * ((rd_T68 l0 x85_7).f0))))) < 0) = false := decide_eq_false c66
                           clear c66
                           by_cases c67 : (wrap64 (x16_33 + (wrap64 (x14_27 * ((rd_T68 l0 x85_7).f0))))) ≥ a1_0
                           ·rw [if_pos c67] at H
                            have c67b0 : decide (a1_0 ≤ (wrap64 (x16_33 + (wrap64 (x14_27 * ((rd_T68 l0 x85_7).f0)))))) = true := decide_eq_true c67
                            clear c67
                            have H' := Aside0.mk H
                            clear H
                            have p300 : 0 ≤ (x85_7 : Int) := of_decide_eq_true (by first | (with_reducible assumption) | assumption)
                            have q300 : x85_7 < (t297.length : Int) := of_decide_eq_true (by first | (with_reducible assumption) | assumption)
                            obtain ⟨ad300, e300, hx300_0⟩ := Kd.at_int (Kd.R_reads' HO_83.out).2.2 x85_7 p300 q300
                            cases e300
                            replace p300 := eq_true p300
                            replace q300 := eq_true q300
                            have p301 : 0 ≤ (x85_7 : Int) := of_decide_eq_true (by first | (with_reducible assumption) | assumption)
                            have q301 : x85_7 < (l0.length : Int) := of_decide_eq_true (by first | (with_reducible assumption) | assumption)
                            obtain ⟨ad301, e301, hx301_0, hx301_1, hx301_2⟩ := at_T68 HR0.out x85_7 p301 q301
                            cases e301
                            replace hx301_0 := (HB.out.cell (World.block_lt_of_cell? w _ hx301_0)).trans hx301_0
                            replace hx301_1 := (HB.out.cell (World.block_lt_of_cell? w _ hx301_1)).trans hx301_1
                            replace hx301_2 := (HB.out.cell (World.block_lt_of_cell? w _ hx301_2)).trans hx301_2
                            replace p301 := eq_true p301
                            replace q301 := eq_true q301
                            have p302 : 0 ≤ (x85_7 : Int) := of_decide_eq_true (by first | (with_reducible assumption) | assumption)
                            have q302 : x85_7 < (l0.length : Int) := of_decide_eq_true (by first | (with_reducible assumption) | assumption)
                            obtain ⟨ad302, e302, hx302_0, hx302_1, hx302_2⟩ := at_T68 HR0.out x85_7 p302 q302
                            obtain rfl : ad301 = ad302 := (by injection e302)
                            replace hx302_0 := (HB.out.cell (World.block_lt_of_cell? w _ hx302_0)).trans hx302_0
                            replace hx302_1 := (HB.out.cell (World.block_lt_of_cell? w _ hx302_1)).trans hx302_1
                            replace hx302_2 := (HB.out.cell (World.block_lt_of_cell? w _ hx302_2)).trans hx302_2
                            replace p302 := eq_true p302
                            replace q302 := eq_true q302
                            have hnb68 := NB278_279.out; have hnc68 := NB279_278.out; have hnb69 := NB278_290.out; have hnc69 := NB290_278.out
                            obtain ⟨hcz70_0, hcz70_1, hcz70_2, hfz70_0, hfz70_1, hfz70_2⟩ := sZ_ BK278.out
                            go_wp2
                            repeat (go_quiet (fail); try go_wp2)
                            (try simp only [← hl9_7, ← hl11_7])
                            go_roundg k7
                            case measure => have := HK1.out; have := HJ25.out; have := HJ27.out; have := HK4.out; have := HJ33.out; have := HJ41.out; have := HK7.out; omega
                            case rel => exact ⟨(x9_7), (wrap64 (x12_7 + (rd t297 x85_7))), (wrap64 (x85_7 + 1)), (by first | rfl | (simp; done) | (simp [*]; done)), (by first | rfl | (simp; done) | (simp [*]; done)), H', ⟨by have := HK1.out; have := HJ25.out; have := HJ27.out; have := HK4.out; have := HJ33.out; have := HJ41.out; have := HK7.out; omega⟩, ⟨by (try simp only [hl9_1]); (try simp only [hl9_4]); (try simp only [hl9_41]); (try simp only [hl9_7]); (try simp only [hl11_7]); (with_reducible repeat (first | apply Kd.R_alloc | apply Kd.R_drewN | apply Kd.R_drew)); exact HO_9.out⟩, ⟨by (try simp only [hl9_1]); (try simp only [hl9_4]); (try simp only [hl9_41]); (try simp only [hl9_7]); (try simp only [hl11_7]); (with_reducible repeat (first | apply Kd.R_alloc | apply Kd.R_drewN | apply Kd.R_drew)); exact HO_11.out⟩, ⟨by (try simp only [hl9_1]); (try simp only [hl9_4]); (try simp only [hl9_41]); (try simp only [hl9_7]); (try simp only [hl11_7]); (with_reducible repeat (first | apply Kd.R_alloc | apply Kd.R_drewN | apply Kd.R_drew)); exact HO_83.out⟩, ⟨by (try simp only [hl9_1]); (try simp only [hl9_4]); (try simp only [hl9_41]); (try simp only [hl9_7]); (try simp only [hl11_7]); (with_reducible repeat (first | apply Kd.R_alloc | apply Kd.R_drewN | apply Kd.R_drew)); exact HO_291002.out⟩, ⟨by (try simp only [hl9_1]); (try simp only [hl9_4]); (try simp only [hl9_41]); (try simp only [hl9_7]); (try simp only [hl11_7]); refine sB_ ?_; exact BK278.out⟩, ⟨by (try simp only [hl9_1]); (try simp only [hl9_4]); (try simp only [hl9_41]); (try simp only [hl9_7]); (try simp only [hl11_7]); refine sB_ ?_; exact BK279.out⟩, ⟨by (try simp only [hl9_1]); (try simp only [hl9_4]); (try simp only [hl9_41]); (try simp only [hl9_7]); (try simp only [hl11_7]); refine sB_ ?_; exact BK290.out⟩, ⟨by repeat (first | (with_reducible first | exact HB.out | apply below_alloc | apply pw_below_drewN | apply below_drew1 | refine below_set ?_ GE278.out | refine below_set ?_ GE279.out | refine below_set ?_ GE290.out) | exact HB.out)⟩⟩
                           rw [if_neg c67] at H
                           have c67b0 : decide (a1_0 ≤ (wrap64 (x16_33 + (wrap64 (x14_27 * ((rd_T68 l0 x85_7).f0)))))) = false := decide_eq_false c67
                           clear c67
                           by_cases c71 : (wrap64 (x37_1 + ((rd_T68 l0 x85_7).f1))) ≥ a1_1
                           ·rw [if_pos c71] at H
                            have c71b0 : decide (a1_1 ≤ (wrap64 (x37_1 + ((rd_T68 l0 x85_7).f1)))) = true := decide_eq_true c71
                            clear c71
                            have H' := Aside0.mk H
                            clear H
                            have p300 : 0 ≤ (x85_7 : Int) := of_decide_eq_true (by first | (with_reducible assumption) | assumption)
                            have q300 : x85_7 < (t297.length : Int) := of_decide_eq_true (by first | (with_reducible assumption) | assumption)
                            obtain ⟨ad300, e300, hx300_0⟩ := Kd.at_int (Kd.R_reads' HO_83.out).2.2 x85_7 p300 q300
                            cases e300
                            replace p300 := eq_true p300
                            replace q300 := eq_true q300
                            have p301 : 0 ≤ (x85_7 : Int) := of_decide_eq_true (by first | (with_reducible assumption) | assumption)
                            have q301 : x85_7 < (l0.length : Int) := of_decide_eq_true (by first | (with_reducible assumption) | assumption)
                            obtain ⟨ad301, e301, hx301_0, hx301_1, hx301_2⟩ := at_T68 HR0.out x85_7 p301 q301
                            cases e301
                            replace hx301_0 := (HB.out.cell (World.block_lt_of_cell? w _ hx301_0)).trans hx301_0
                            replace hx301_1 := (HB.out.cell (World.block_lt_of_cell? w _ hx301_1)).trans hx301_1
                            replace hx301_2 := (HB.out.cell (World.block_lt_of_cell? w _ hx301_2)).trans hx301_2
                            replace p301 := eq_true p301
                            replace q301 := eq_true q301
                            have p302 : 0 ≤ (x85_7 : Int) := of_decide_eq_true (by first | (with_reducible assumption) | assumption)
                            have q302 : x85_7 < (l0.length : Int) := of_decide_eq_true (by first | (with_reducible assumption) | assumption)
                            obtain ⟨ad302, e302, hx302_0, hx302_1, hx302_2⟩ := at_T68 HR0.out x85_7 p302 q302
                            obtain rfl : ad301 = ad302 := (by injection e302)
                            replace hx302_0 := (HB.out.cell (World.block_lt_of_cell? w _ hx302_0)).trans hx302_0
                            replace hx302_1 := (HB.out.cell (World.block_lt_of_cell? w _ hx302_1)).trans hx302_1
                            replace hx302_2 := (HB.out.cell (World.block_lt_of_cell? w _ hx302_2)).trans hx302_2
                            replace p302 := eq_true p302
                            replace q302 := eq_true q302
                            have hnb72 := NB278_279.out; have hnc72 := NB279_278.out; have hnb73 := NB278_290.out; have hnc73 := NB290_278.out
                            obtain ⟨hcz74_0, hcz74_1, hcz74_2, hfz74_0, hfz74_1, hfz74_2⟩ := sZ_ BK278.out
                            go_wp2
                            repeat (go_quiet (fail); try go_wp2)
                            (try simp only [← hl9_7, ← hl11_7])
                            go_roundg k7
                            case measure => have := HK1.out; have := HJ25.out; have := HJ27.out; have := HK4.out; have := HJ33.out; have := HJ41.out; have := HK7.out; omega
                            case rel => exact ⟨(x9_7), (wrap64 (x12_7 + (rd t297 x85_7))), (wrap64 (x85_7 + 1)), (by first | rfl | (simp; done) | (simp [*]; done)), (by first | rfl | (simp; done) | (simp [*]; done)), H', ⟨by have := HK1.out; have := HJ25.out; have := HJ27.out; have := HK4.out; have := HJ33.out; have := HJ41.out; have := HK7.out; omega⟩, ⟨by (try simp only [hl9_1]); (try simp only [hl9_4]); (try simp only [hl9_41]); (try simp only [hl9_7]); (try simp only [hl11_7]); (with_reducible repeat (first | apply Kd.R_alloc | apply Kd.R_drewN | apply Kd.R_drew)); exact HO_9.out⟩, ⟨by (try simp only [hl9_1]); (try simp only [hl9_4]); (try simp only [hl9_41]); (try simp only [hl9_7]); (try simp only [hl11_7]); (with_reducible repeat (first | apply Kd.R_alloc | apply Kd.R_drewN | apply Kd.R_drew)); exact HO_11.out⟩, ⟨by (try simp only [hl9_1]); (try simp only [hl9_4]); (try simp only [hl9_41]); (try simp only [hl9_7]); (try simp only [hl11_7]); (with_reducible repeat (first | apply Kd.R_alloc | apply Kd.R_drewN | apply Kd.R_drew)); exact HO_83.out⟩, ⟨by (try simp only [hl9_1]); (try simp only [hl9_4]); (try simp only [hl9_41]); (try simp only [hl9_7]); (try simp only [hl11_7]); (with_reducible repeat (first | apply Kd.R_alloc | apply Kd.R_drewN | apply Kd.R_drew)); exact HO_291002.out⟩, ⟨by (try simp only [hl9_1]); (try simp only [hl9_4]); (try simp only [hl9_41]); (try simp only [hl9_7]); (try simp only [hl11_7]); refine sB_ ?_; exact BK278.out⟩, ⟨by (try simp only [hl9_1]); (try simp only [hl9_4]); (try simp only [hl9_41]); (try simp only [hl9_7]); (try simp only [hl11_7]); refine sB_ ?_; exact BK279.out⟩, ⟨by (try simp only [hl9_1]); (try simp only [hl9_4]); (try simp only [hl9_41]); (try simp only [hl9_7]); (try simp only [hl11_7]); refine sB_ ?_; exact BK290.out⟩, ⟨by repeat (first | (with_reducible first | exact HB.out | apply below_alloc | apply pw_below_drewN | apply below_drew1 | refine below_set ?_ GE278.out | refine below_set ?_ GE279.out | refine below_set ?_ GE290.out) | exact HB.out)⟩⟩
                           rw [if_neg c71] at H
                           have c71b0 : decide (a1_1 ≤ (wrap64 (x37_1 + ((rd_T68 l0 x85_7).f1)))) = false := decide_eq_false c71
                           clear c71
                           obtain ⟨ji75, hji75⟩ : ∃ j_ : Int, (wrap64 ((wrap64 ((wrap64 (x37_1 + ((rd_T68 l0 x85_7).f1))) * a1_0)) + (wrap64 (x16_33 + (wrap64 (x14_27 * ((rd_T68 l0 x85_7).f0))))))) = j_ := ⟨_, rfl⟩
                           replace H : (if 0 ≤ (ji75) then (if (ji75) < (x9_7.length : Int) then (impl_diffused.l2 k7 l0 a2 (x9_7.set ((ji75) : Int).toNat (wrap64 ((rd x9_7 (ji75)) + (rd t297 x85_7)))) y296 x12_7 x37_1 x14_27 x16_33 a1_1 x37_1 a1_0 x48_4 t297 (t297.length : Int) (wrap64 (x85_7 + 1)) a1_0 a1_1 l1_2 t285 t286 x291002_41) else (none)) else (none)) = some (r1, r2, r3, r4, r5) := by first | (rw [hji75] at H; exact H) | (simp only [hji75] at H ⊢; exact H)
                           have hji75w : (IntKind.i64.wrap ((wrap64 ((wrap64 (x37_1 + ((rd_T68 l0 x85_7).f1))) * a1_0)) + (wrap64 (x16_33 + (wrap64 (x14_27 * ((rd_T68 l0 x85_7).f0))))))) = ji75 := (i64_w _).trans hji75
                           have hji75n : (IntKind.i64.wrap ((IntKind.i64.wrap ((IntKind.i64.wrap (x37_1 + ((rd_T68 l0 x85_7).f1))) * a1_0)) + (IntKind.i64.wrap (x16_33 + (IntKind.i64.wrap (x14_27 * ((rd_T68 l0 x85_7).f0))))))) = ji75 := by first | (simpa only [i64_w] using hji75) | (simp only [i64_w]; exact hji75)
                           by_cases c76 : 0 ≤ (ji75)
                           ·rw [if_pos c76] at H
                            have c76b0 : decide (0 ≤ (ji75)) = true := decide_eq_true c76
                            clear c76
                            by_cases c77 : (ji75) < (x9_7.length : Int)
                            ·rw [if_pos c77] at H
                             have c77b0 : decide ((ji75) < (x9_7.length : Int)) = true := decide_eq_true c77
                             clear c77
                             obtain ⟨y304, hy304⟩ : ∃ y_ : List Int, y_ = (x9_7.set ((ji75) : Int).toNat (wrap64 ((rd x9_7 (ji75)) + (rd t297 x85_7)))) := ⟨_, rfl⟩
                             replace H : (impl_diffused.l2 k7 l0 a2 y304 y296 x12_7 x37_1 x14_27 x16_33 a1_1 x37_1 a1_0 x48_4 t297 (t297.length : Int) (wrap64 (x85_7 + 1)) a1_0 a1_1 l1_2 t285 t286 x291002_41) = some (r1, r2, r3, r4, r5) := by first | (rw [hy304]; with_reducible exact H) | (have H2_ := (Option.bind_some _ _).symm.trans H; rw [hy304]; with_reducible exact H2_) | (have H2_ := (Option.bind_some _ _).symm.trans H; with_reducible exact H2_) | with_reducible exact H | (rw [hy304]; exact H) | exact H
                             have Ny304 := Aside0.mk hy304
                             clear hy304
                             have H' := Aside0.mk H
                             clear H
                             have p300 : 0 ≤ (x85_7 : Int) := of_decide_eq_true (by first | (with_reducible assumption) | assumption)
                             have q300 : x85_7 < (t297.length : Int) := of_decide_eq_true (by first | (with_reducible assumption) | assumption)
                             obtain ⟨ad300, e300, hx300_0⟩ := Kd.at_int (Kd.R_reads' HO_83.out).2.2 x85_7 p300 q300
                             cases e300
                             replace p300 := eq_true p300
                             replace q300 := eq_true q300
                             have p301 : 0 ≤ (x85_7 : Int) := of_decide_eq_true (by first | (with_reducible assumption) | assumption)
                             have q301 : x85_7 < (l0.length : Int) := of_decide_eq_true (by first | (with_reducible assumption) | assumption)
                             obtain ⟨ad301, e301, hx301_0, hx301_1, hx301_2⟩ := at_T68 HR0.out x85_7 p301 q301
                             cases e301
                             replace hx301_0 := (HB.out.cell (World.block_lt_of_cell? w _ hx301_0)).trans hx301_0
                             replace hx301_1 := (HB.out.cell (World.block_lt_of_cell? w _ hx301_1)).trans hx301_1
                             replace hx301_2 := (HB.out.cell (World.block_lt_of_cell? w _ hx301_2)).trans hx301_2
                             replace p301 := eq_true p301
                             replace q301 := eq_true q301
                             have p302 : 0 ≤ (x85_7 : Int) := of_decide_eq_true (by first | (with_reducible assumption) | assumption)
                             have q302 : x85_7 < (l0.length : Int) := of_decide_eq_true (by first | (with_reducible assumption) | assumption)
                             obtain ⟨ad302, e302, hx302_0, hx302_1, hx302_2⟩ := at_T68 HR0.out x85_7 p302 q302
                             obtain rfl : ad301 = ad302 := (by injection e302)
                             replace hx302_0 := (HB.out.cell (World.block_lt_of_cell? w _ hx302_0)).trans hx302_0
                             replace hx302_1 := (HB.out.cell (World.block_lt_of_cell? w _ hx302_1)).trans hx302_1
                             replace hx302_2 := (HB.out.cell (World.block_lt_of_cell? w _ hx302_2)).trans hx302_2
                             replace p302 := eq_true p302
                             replace q302 := eq_true q302
                             have hnb79 := NB278_279.out; have hnc79 := NB279_278.out; have hnb80 := NB278_290.out; have hnc80 := NB290_278.out
                             obtain ⟨hcz81_0, hcz81_1, hcz81_2, hfz81_0, hfz81_1, hfz81_2⟩ := sZ_ BK278.out
                             have p303 : 0 ≤ ((ji75) : Int) := of_decide_eq_true (by first | (with_reducible assumption) | assumption)
                             have q303 : (ji75) < (x9_7.length : Int) := of_decide_eq_true (by first | (with_reducible assumption) | assumption)
                             obtain ⟨ad303, e303, hx303_0⟩ := Kd.at_int (Kd.R_reads' HO_9.out).2.2 (ji75) p303 q303
                             obtain rfl : ad294 = ad303 := (by injection e303)
                             replace p303 := eq_true p303
                             replace q303 := eq_true q303
                             have p78 : 0 ≤ ((ji75) : Int) := of_decide_eq_true (by first | (with_reducible assumption) | assumption)
                             have q78 : ((ji75) : Int) < ((x9_7.length : Int) : Int) := of_decide_eq_true (by first | (with_reducible assumption) | assumption)
                             obtain ⟨go78, co78, eo78, gb78, gl78, cl78, HG78⟩ := Kd.R_form HO_9.out (by omega)
                             (first | cases eo78 | (injection eo78 with ea_ en_ ec_; (first | subst ea_ | (injection ea_ with ea_; subst ea_)); subst ec_; clear en_))
                             have GB78 := Aside0.mk gb78
                             have GG78 := Aside0.mk HG78
                             clear gb78 gl78 HG78
                             (first | simp only [add_plain] at hx294_0 | skip)
                             (first | simp only [add_plain] at hx303_0 | skip)
                             obtain ⟨hx78_0, hf78_0⟩ := Kd.R_celln 0 HO_9.out ((ji75) : Int) p78 q78
                             replace p78 := eq_true p78
                             replace q78 := eq_true q78
                             have HP82 := Kd.R_putg HO_9.out ((ji75) : Int) (wrap64 ((rd x9_7 (ji75)) + (rd t297 x85_7)))
                             go_wp2_with (first | ((with_reducible refine gate_store (t := 3) (p := 134) rfl ?_); have HP82q := Kd.R_putg (Kd.R_drewN HO_9.out nq) ((ji75) : Int) (wrap64 ((rd x9_7 (ji75)) + (rd t297 x85_7))); refine store_event (t := 3) (p := 134) (v := ?vo_w83) (w1 := ((wr.drewN nq).setCell ⟨go78, ((ji75) : Int).toNat, none⟩ (.int .i64 (wrap64 ((rd x9_7 (ji75)) + (rd t297 x85_7)))))) ?hg ?ho ?hn ?hr ?_; (case ho => rfl); (case hg => rfl); (case hn => rfl); (case hr => first | (go_simp; done) | (go_simp; rfl)); intro w83 hw; have hg : (wr.drewN nq).grownBy w83 (some go78) := (by rw [hw]; exact HP82q.2); have hp_ : Kd.R (Kd.int .i64) 3 w83 w.heap.size (fun k_ => some k_ ≠ (.slice (some ⟨go56, 0, none⟩) y296.length co56 : Value).ownBlock ∧ some k_ ≠ (.slice (some ad300) t297.length co61 : Value).ownBlock ∧ some k_ ≠ (u291002 : Value).ownBlock) (.slice (some ⟨go78, 0, none⟩) x9_7.length co13) y304 := (by rw [hw, Ny304.out]; exact HP82q.1); clear HP82 HP82q; have n0_ := Aside0.mk (hp_); have n1_ := Aside0.mk (Kd.R_after (v := (.slice (some ⟨go78, 0, none⟩) x9_7.length co13)) (v1 := (.slice (some ⟨go78, 0, none⟩) x9_7.length co13)) (ok := (fun k_ => some k_ ≠ (.slice (some ad300) t297.length co61 : Value).ownBlock ∧ some k_ ≠ (u291002 : Value).ownBlock)) (by (with_reducible repeat (first | apply Kd.R_alloc | apply Kd.R_drewN | apply Kd.R_drew)); exact Kd.R_mono HO_11.out (fun _ hk => ⟨⟨hk.2.1, hk.2.2⟩, hk.1⟩)) hg (.inl rfl)); have n2_ := Aside0.mk (Kd.R_after (v := (.slice (some ⟨go78, 0, none⟩) x9_7.length co13)) (v1 := (.slice (some ⟨go78, 0, none⟩) x9_7.length co13)) (ok := (fun k_ => some k_ ≠ (.slice (some ⟨go56, 0, none⟩) y296.length co56 : Value).ownBlock ∧ some k_ ≠ (u291002 : Value).ownBlock)) (by (with_reducible repeat (first | apply Kd.R_alloc | apply Kd.R_drewN | apply Kd.R_drew)); exact Kd.R_mono HO_83.out (fun _ hk => ⟨⟨hk.2.1, hk.2.2⟩, hk.1⟩)) hg (.inl rfl)); have n3_ := Aside0.mk (Kd.R_after (v := (.slice (some ⟨go78, 0, none⟩) x9_7.length co13)) (v1 := (.slice (some ⟨go78, 0, none⟩) x9_7.length co13)) (ok := (fun k_ => some k_ ≠ (.slice (some ⟨go56, 0, none⟩) y296.length co56 : Value).ownBlock ∧ some k_ ≠ (.slice (some ad300) t297.length co61 : Value).ownBlock)) (by (with_reducible repeat (first | apply Kd.R_alloc | apply Kd.R_drewN | apply Kd.R_drew)); exact Kd.R_mono HO_291002.out (fun _ hk => ⟨⟨hk.2.1, hk.2.2⟩, hk.1⟩)) hg (.inl rfl)); have n4_ := Aside0.mk (blk_grown (g := gb278) (blk_drewN BK278.out nq) hg (Kd.R_ne HO_9.out BK278.out (by decide))); have n5_ := Aside0.mk (blk_grown (g := gb279) (blk_drewN BK279.out nq) hg (Kd.R_ne HO_9.out BK279.out (by decide))); have n6_ := Aside0.mk (blk_grown (g := gb290) (blk_drewN BK290.out nq) hg (Kd.R_ne HO_9.out BK290.out (by decide))); have n7_ := Aside0.mk ((by rw [hw]; exact below_set (pw_below_drewN HB.out nq) GB78.out : Below w.heap.size w w83)); clear HO_9 HO_11 HO_83 HO_291002 BK278 BK279 BK290 HB; have HO_9 := n0_; have HO_11 := n1_; have HO_83 := n2_; have HO_291002 := n3_; have BK278 := n4_; have BK279 := n5_; have BK290 := n6_; have HB := n7_; clear n0_ n1_ n2_ n3_ n4_ n5_ n6_ n7_; clear hg hw hp_))
                             repeat (go_quiet (first | ((with_reducible refine gate_store (t := 3) (p := 134) rfl ?_); have HP82q := Kd.R_putg (Kd.R_drewN HO_9.out nq) ((ji75) : Int) (wrap64 ((rd x9_7 (ji75)) + (rd t297 x85_7))); refine store_event (t := 3) (p := 134) (v := ?vo_w83) (w1 := ((wr.drewN nq).setCell ⟨go78, ((ji75) : Int).toNat, none⟩ (.int .i64 (wrap64 ((rd x9_7 (ji75)) + (rd t297 x85_7)))))) ?hg ?ho ?hn ?hr ?_; (case ho => rfl); (case hg => rfl); (case hn => rfl); (case hr => first | (go_simp; done) | (go_simp; rfl)); intro w83 hw; have hg : (wr.drewN nq).grownBy w83 (some go78) := (by rw [hw]; exact HP82q.2); have hp_ : Kd.R (Kd.int .i64) 3 w83 w.heap.size (fun k_ => some k_ ≠ (.slice (some ⟨go56, 0, none⟩) y296.length co56 : Value).ownBlock ∧ some k_ ≠ (.slice (some ad300) t297.length co61 : Value).ownBlock ∧ some k_ ≠ (u291002 : Value).ownBlock) (.slice (some ⟨go78, 0, none⟩) x9_7.length co13) y304 := (by rw [hw, Ny304.out]; exact HP82q.1); clear HP82 HP82q; have n0_ := Aside0.mk (hp_); have n1_ := Aside0.mk (Kd.R_after (v := (.slice (some ⟨go78, 0, none⟩) x9_7.length co13)) (v1 := (.slice (some ⟨go78, 0, none⟩) x9_7.length co13)) (ok := (fun k_ => some k_ ≠ (.slice (some ad300) t297.length co61 : Value).ownBlock ∧ some k_ ≠ (u291002 : Value).ownBlock)) (by (with_reducible repeat (first | apply Kd.R_alloc | apply Kd.R_drewN | apply Kd.R_drew)); exact Kd.R_mono HO_11.out (fun _ hk => ⟨⟨hk.2.1, hk.2.2⟩, hk.1⟩)) hg (.inl rfl)); have n2_ := Aside0.mk (Kd.R_after (v := (.slice (some ⟨go78, 0, none⟩) x9_7.length co13)) (v1 := (.slice (some ⟨go78, 0, none⟩) x9_7.length co13)) (ok := (fun k_ => some k_ ≠ (.slice (some ⟨go56, 0, none⟩) y296.length co56 : Value).ownBlock ∧ some k_ ≠ (u291002 : Value).ownBlock)) (by (with_reducible repeat (first | apply Kd.R_alloc | apply Kd.R_drewN | apply Kd.R_drew)); exact Kd.R_mono HO_83.out (fun _ hk => ⟨⟨hk.2.1, hk.2.2⟩, hk.1⟩)) hg (.inl rfl)); have n3_ := Aside0.mk (Kd.R_after (v := (.slice (some ⟨go78, 0, none⟩) x9_7.length co13)) (v1 := (.slice (some ⟨go78, 0, none⟩) x9_7.length co13)) (ok := (fun k_ => some k_ ≠ (.slice (some ⟨go56, 0, none⟩) y296.length co56 : Value).ownBlock ∧ some k_ ≠ (.slice (some ad300) t297.length co61 : Value).ownBlock)) (by (with_reducible repeat (first | apply Kd.R_alloc | apply Kd.R_drewN | apply Kd.R_drew)); exact Kd.R_mono HO_291002.out (fun _ hk => ⟨⟨hk.2.1, hk.2.2⟩, hk.1⟩)) hg (.inl rfl)); have n4_ := Aside0.mk (blk_grown (g := gb278) (blk_drewN BK278.out nq) hg (Kd.R_ne HO_9.out BK278.out (by decide))); have n5_ := Aside0.mk (blk_grown (g := gb279) (blk_drewN BK279.out nq) hg (Kd.R_ne HO_9.out BK279.out (by decide))); have n6_ := Aside0.mk (blk_grown (g := gb290) (blk_drewN BK290.out nq) hg (Kd.R_ne HO_9.out BK290.out (by decide))); have n7_ := Aside0.mk ((by rw [hw]; exact below_set (pw_below_drewN HB.out nq) GB78.out : Below w.heap.size w w83)); clear HO_9 HO_11 HO_83 HO_291002 BK278 BK279 BK290 HB; have HO_9 := n0_; have HO_11 := n1_; have HO_83 := n2_; have HO_291002 := n3_; have BK278 := n4_; have BK279 := n5_; have BK290 := n6_; have HB := n7_; clear n0_ n1_ n2_ n3_ n4_ n5_ n6_ n7_; clear hg hw hp_)); try go_wp2_with (first | ((with_reducible refine gate_store (t := 3) (p := 134) rfl ?_); have HP82q := Kd.R_putg (Kd.R_drewN HO_9.out nq) ((ji75) : Int) (wrap64 ((rd x9_7 (ji75)) + (rd t297 x85_7))); refine store_event (t := 3) (p := 134) (v := ?vo_w83) (w1 := ((wr.drewN nq).setCell ⟨go78, ((ji75) : Int).toNat, none⟩ (.int .i64 (wrap64 ((rd x9_7 (ji75)) + (rd t297 x85_7)))))) ?hg ?ho ?hn ?hr ?_; (case ho => rfl); (case hg => rfl); (case hn => rfl); (case hr => first | (go_simp; done) | (go_simp; rfl)); intro w83 hw; have hg : (wr.drewN nq).grownBy w83 (some go78) := (by rw [hw]; exact HP82q.2); have hp_ : Kd.R (Kd.int .i64) 3 w83 w.heap.size (fun k_ => some k_ ≠ (.slice (some ⟨go56, 0, none⟩) y296.length co56 : Value).ownBlock ∧ some k_ ≠ (.slice (some ad300) t297.length co61 : Value).ownBlock ∧ some k_ ≠ (u291002 : Value).ownBlock) (.slice (some ⟨go78, 0, none⟩) x9_7.length co13) y304 := (by rw [hw, Ny304.out]; exact HP82q.1); clear HP82 HP82q; have n0_ := Aside0.mk (hp_); have n1_ := Aside0.mk (Kd.R_after (v := (.slice (some ⟨go78, 0, none⟩) x9_7.length co13)) (v1 := (.slice (some ⟨go78, 0, none⟩) x9_7.length co13)) (ok := (fun k_ => some k_ ≠ (.slice (some ad300) t297.length co61 : Value).ownBlock ∧ some k_ ≠ (u291002 : Value).ownBlock)) (by (with_reducible repeat (first | apply Kd.R_alloc | apply Kd.R_drewN | apply Kd.R_drew)); exact Kd.R_mono HO_11.out (fun _ hk => ⟨⟨hk.2.1, hk.2.2⟩, hk.1⟩)) hg (.inl rfl)); have n2_ := Aside0.mk (Kd.R_after (v := (.slice (some ⟨go78, 0, none⟩) x9_7.length co13)) (v1 := (.slice (some ⟨go78, 0, none⟩) x9_7.length co13)) (ok := (fun k_ => some k_ ≠ (.slice (some ⟨go56, 0, none⟩) y296.length co56 : Value).ownBlock ∧ some k_ ≠ (u291002 : Value).ownBlock)) (by (with_reducible repeat (first | apply Kd.R_alloc | apply Kd.R_drewN | apply Kd.R_drew)); exact Kd.R_mono HO_83.out (fun _ hk => ⟨⟨hk.2.1, hk.2.2⟩, hk.1⟩)) hg (.inl rfl)); have n3_ := Aside0.mk (Kd.R_after (v := (.slice (some ⟨go78, 0, none⟩) x9_7.length co13)) (v1 := (.slice (some ⟨go78, 0, none⟩) x9_7.length co13)) (ok := (fun k_ => some k_ ≠ (.slice (some ⟨go56, 0, none⟩) y296.length co56 : Value).ownBlock ∧ some k_ ≠ (.slice (some ad300) t297.length co61 : Value).ownBlock)) (by (with_reducible repeat (first | apply Kd.R_alloc | apply Kd.R_drewN | apply Kd.R_drew)); exact Kd.R_mono HO_291002.out (fun _ hk => ⟨⟨hk.2.1, hk.2.2⟩, hk.1⟩)) hg (.inl rfl)); have n4_ := Aside0.mk (blk_grown (g := gb278) (blk_drewN BK278.out nq) hg (Kd.R_ne HO_9.out BK278.out (by decide))); have n5_ := Aside0.mk (blk_grown (g := gb279) (blk_drewN BK279.out nq) hg (Kd.R_ne HO_9.out BK279.out (by decide))); have n6_ := Aside0.mk (blk_grown (g := gb290) (blk_drewN BK290.out nq) hg (Kd.R_ne HO_9.out BK290.out (by decide))); have n7_ := Aside0.mk ((by rw [hw]; exact below_set (pw_below_drewN HB.out nq) GB78.out : Below w.heap.size w w83)); clear HO_9 HO_11 HO_83 HO_291002 BK278 BK279 BK290 HB; have HO_9 := n0_; have HO_11 := n1_; have HO_83 := n2_; have HO_291002 := n3_; have BK278 := n4_; have BK279 := n5_; have BK290 := n6_; have HB := n7_; clear n0_ n1_ n2_ n3_ n4_ n5_ n6_ n7_; clear hg hw hp_)))
                             (try simp only [← hl9_7, ← hl11_7])
                             go_roundg k7
                             case measure => have := HK1.out; have := HJ25.out; have := HJ27.out; have := HK4.out; have := HJ33.out; have := HJ41.out; have := HK7.out; omega
                             case rel => exact ⟨(y304), (x12_7), (wrap64 (x85_7 + 1)), (by first | rfl | (simp; done) | (simp [*]; done)), (by first | rfl | (simp; done) | (simp [*]; done)), H', ⟨by have := HK1.out; have := HJ25.out; have := HJ27.out; have := HK4.out; have := HJ33.out; have := HJ41.out; have := HK7.out; omega⟩, ⟨by (try simp only [hl9_1]); (try simp only [hl9_4]); (try simp only [hl9_41]); (try simp only [hl9_7]); (try simp only [hl11_7]); (with_reducible repeat (first | apply Kd.R_alloc | apply Kd.R_drewN | apply Kd.R_drew)); exact HO_9.out⟩, ⟨by (try simp only [hl9_1]); (try simp only [hl9_4]); (try simp only [hl9_41]); (try simp only [hl9_7]); (try simp only [hl11_7]); (with_reducible repeat (first | apply Kd.R_alloc | apply Kd.R_drewN | apply Kd.R_drew)); exact Kd.R_mono HO_11.out (fun _ hk => ⟨hk.2, ⟨hk.1.1, hk.1.2⟩⟩)⟩, ⟨by (try simp only [hl9_1]); (try simp only [hl9_4]); (try simp only [hl9_41]); (try simp only [hl9_7]); (try simp only [hl11_7]); (with_reducible repeat (first | apply Kd.R_alloc | apply Kd.R_drewN | apply Kd.R_drew)); exact Kd.R_mono HO_83.out (fun _ hk => ⟨hk.2, ⟨hk.1.1, hk.1.2⟩⟩)⟩, ⟨by (try simp only [hl9_1]); (try simp only [hl9_4]); (try simp only [hl9_41]); (try simp only [hl9_7]); (try simp only [hl11_7]); (with_reducible repeat (first | apply Kd.R_alloc | apply Kd.R_drewN | apply Kd.R_drew)); exact Kd.R_mono HO_291002.out (fun _ hk => ⟨hk.2, ⟨hk.1.1, hk.1.2⟩⟩)⟩, ⟨by (try simp only [hl9_1]); (try simp only [hl9_4]); (try simp only [hl9_41]); (try simp only [hl9_7]); (try simp only [hl11_7]); refine sB_ ?_; exact BK278.out⟩, ⟨by (try simp only [hl9_1]); (try simp only [hl9_4]); (try simp only [hl9_41]); (try simp only [hl9_7]); (try simp only [hl11_7]); refine sB_ ?_; exact BK279.out⟩, ⟨by (try simp only [hl9_1]); (try simp only [hl9_4]); (try simp only [hl9_41]); (try simp only [hl9_7]); (try simp only [hl11_7]); refine sB_ ?_; exact BK290.out⟩, ⟨by repeat (first | (with_reducible first | exact HB.out | apply below_alloc | apply pw_below_drewN | apply below_drew1 | refine below_set ?_ GE278.out | refine below_set ?_ GE279.out | refine below_set ?_ GE290.out) | exact HB.out)⟩⟩
                            rw [if_neg c77] at H
                            exact absurd H (by simp)
                           rw [if_neg c76] at H
                           exact absurd H (by simp)
                          rw [if_neg c65] at H
                          exact absurd H (by simp)
                         rw [if_neg c64] at H
                         exact absurd H (by simp)
                        rw [if_neg c63] at H
                        exact absurd H (by simp)
                       rw [if_neg c62] at H
                       have c62b0 : decide (x85_7 < (t297.length : Int)) = false := decide_eq_false c62
                       clear c62
                       have H' := Aside0.mk H
                       clear H
                       go_wp2
                       repeat (go_quiet (fail); try go_wp2)
                       (try simp only [← hl9_4, ← hl9_41, ← hl9_7, ← hl11_7])
                       go_roundg k7
                       case measure => have := HK1.out; have := HJ25.out; have := HJ27.out; have := HK4.out; have := HJ33.out; have := HJ41.out; have := HK7.out; omega
                       case rel => exact ⟨(x9_7), (y296), (x12_7), (wrap64 (x48_4 + 1)), (x291002_41), (u291002), (by first | rfl | (simp; done) | (simp [*]; done)), (by first | rfl | (simp; done) | (simp [*]; done)), H', ⟨by have := HK1.out; have := HJ25.out; have := HJ27.out; have := HK4.out; have := HJ33.out; have := HJ41.out; have := HK7.out; omega⟩, ⟨by (try simp only [hl9_1]); (try simp only [hl9_4]); (try simp only [hl9_41]); (try simp only [hl9_7]); (try simp only [hl11_7]); (with_reducible repeat (first | apply Kd.R_alloc | apply Kd.R_drewN | apply Kd.R_drew)); exact Kd.R_mono HO_9.out (fun _ hk => ⟨hk.1, hk.2.2⟩)⟩, ⟨by (try simp only [hl9_1]); (try simp only [hl9_4]); (try simp only [hl9_41]); (try simp only [hl9_7]); (try simp only [hl11_7]); (with_reducible repeat (first | apply Kd.R_alloc | apply Kd.R_drewN | apply Kd.R_drew)); exact Kd.R_mono HO_11.out (fun _ hk => ⟨hk.1, hk.2.2⟩)⟩, ⟨by (try simp only [hl9_1]); (try simp only [hl9_4]); (try simp only [hl9_41]); (try simp only [hl9_7]); (try simp only [hl11_7]); (with_reducible repeat (first | apply Kd.R_alloc | apply Kd.R_drewN | apply Kd.R_drew)); exact Kd.R_mono HO_291002.out (fun _ hk => ⟨hk.1, hk.2.1⟩)⟩, ⟨by (try simp only [hl9_1]); (try simp only [hl9_4]); (try simp only [hl9_41]); (try simp only [hl9_7]); (try simp only [hl11_7]); refine sB_ ?_; exact BK278.out⟩, ⟨by (try simp only [hl9_1]); (try simp only [hl9_4]); (try simp only [hl9_41]); (try simp only [hl9_7]); (try simp only [hl11_7]); refine sB_ ?_; exact BK279.out⟩, ⟨by (try simp only [hl9_1]); (try simp only [hl9_4]); (try simp only [hl9_41]); (try simp only [hl9_7]); (try simp only [hl11_7]); refine sB_ ?_; exact BK290.out⟩, ⟨by repeat (first | (with_reducible first | exact HB.out | apply below_alloc | apply pw_below_drewN | apply below_drew1 | refine below_set ?_ GE278.out | refine below_set ?_ GE279.out | refine below_set ?_ GE290.out) | exact HB.out)⟩⟩
                    rw [if_neg c55] at H
                    exact absurd H (by simp)
                   rw [if_neg c54] at H
                   exact absurd H (by simp)
                rw [if_neg c41] at H
                exact absurd H (by simp)
               rw [if_neg c40] at H
               exact absurd H (by simp)
            rw [if_neg c33] at H
            have c33b0 : decide (x48_4 < a1_0) = false := decide_eq_false c33
            clear c33
            have H' := Aside0.mk H
            clear H
            go_wp2
            repeat (go_quiet (fail); try go_wp2)
            (try simp only [← hl9_1, ← hl9_4])
            go_roundg k4
            case measure => have := HK1.out; have := HJ25.out; have := HJ27.out; have := HK4.out; omega
            case rel => exact ⟨(x9_4), (x11_4), (x12_4), (wrap64 (x37_1 + 1)), (x291002_4), (u291002), (by first | rfl | (simp; done) | (simp [*]; done)), (by first | rfl | (simp; done) | (simp [*]; done)), H', ⟨by have := HK1.out; have := HJ25.out; have := HJ27.out; have := HK4.out; omega⟩, ⟨by (try simp only [hl9_1]); (try simp only [hl9_4]); (with_reducible repeat (first | apply Kd.R_alloc | apply Kd.R_drewN | apply Kd.R_drew)); exact HO_9.out⟩, ⟨by (try simp only [hl9_1]); (try simp only [hl9_4]); (with_reducible repeat (first | apply Kd.R_alloc | apply Kd.R_drewN | apply Kd.R_drew)); exact HO_11.out⟩, ⟨by (try simp only [hl9_1]); (try simp only [hl9_4]); (with_reducible repeat (first | apply Kd.R_alloc | apply Kd.R_drewN | apply Kd.R_drew)); exact HO_291002.out⟩, ⟨by (try simp only [hl9_1]); (try simp only [hl9_4]); refine sB_ ?_; exact BK278.out⟩, ⟨by (try simp only [hl9_1]); (try simp only [hl9_4]); refine sB_ ?_; exact BK279.out⟩, ⟨by (try simp only [hl9_1]); (try simp only [hl9_4]); refine sB_ ?_; exact BK290.out⟩, ⟨by repeat (first | (with_reducible first | exact HB.out | apply below_alloc | apply pw_below_drewN | apply below_drew1 | refine below_set ?_ GE278.out | refine below_set ?_ GE279.out | refine below_set ?_ GE290.out) | exact HB.out)⟩⟩
     rw [if_neg c25] at H
     have c25b0 : decide (x37_1 < a1_1) = false := decide_eq_false c25
     clear c25
     simp only [Option.some.injEq, Prod.mk.injEq] at H
     obtain ⟨rfl, rfl, rfl, rfl, rfl⟩ := H
     have hnb84 := NB290_278.out; have hnc84 := NB278_290.out; have hnb85 := NB290_279.out; have hnc85 := NB279_290.out
     obtain ⟨hcz86_0, hcz86_1, hcz86_2, hfz86_0, hfz86_1, hfz86_2⟩ := sZ_ BK290.out
     have hnb87 := NB279_278.out; have hnc87 := NB278_279.out
     obtain ⟨hcz88_0, hcz88_1, hcz88_2, hfz88_0, hfz88_1, hfz88_2⟩ := sZ_ BK279.out
     obtain ⟨Ao89, co89, eo89⟩ := Kd.R_slice HO_291002.out
     subst eo89
     go_wp2
     repeat (go_quiet (fail); try go_wp2)
     refine bodyPost_ret (results_ctt rfl _ _ gb279 27 #[.int .i64 t285, .int .i64 t286, .slice Ao89 x291002_1.length co89] (0, 0) _ rfl (by refine sB_ ?_; refine blk_put (cs := #[.int .i64 t285, .int .i64 t286, .slice none 0 0]) ?_ 2 _ rfl; refine sB_ ?_; refine blk_put (cs := #[.int .i64 t285, .int .i64 0, .slice none 0 0]) ?_ 1 _ rfl; refine sB_ ?_; refine blk_put (cs := #[.int .i64 0, .int .i64 0, .slice none 0 0]) ?_ 0 _ rfl; refine sB_ ?_; exact BK279.out) Try.underlying27 rfl (by kernel_rfl)) rfl ?_
     exact ⟨_, _, by first | rfl | (simp [errW_none, errW_some] <;> rfl) | (simp [*, errW_none, errW_some] <;> rfl), by (with_reducible repeat (first | apply Kd.R_alloc | apply Kd.R_drewN | apply Kd.R_drew)); exact Kd.R_mono (Kd.R_far (p := ⟨gb279, 2, none⟩) (Kd.R_far (p := ⟨gb279, 1, none⟩) (Kd.R_far (p := ⟨gb279, 0, none⟩) (Kd.R_types HO_291002.out BK279.out (by decide)) (fun _ hk => hk.2) (.int .i64 t285)) (fun _ hk => hk.2) (.int .i64 t286)) (fun _ hk => hk.2) (.slice Ao89 x291002_1.length co89)) (fun _ hk => hk.1.2), by (with_reducible repeat (first | apply Kd.R_alloc | apply Kd.R_drewN | apply Kd.R_drew)); exact Kd.R_mono (Kd.R_far (p := ⟨gb279, 2, none⟩) (Kd.R_far (p := ⟨gb279, 1, none⟩) (Kd.R_far (p := ⟨gb279, 0, none⟩) (Kd.R_types HO_11.out BK279.out (by decide)) (fun _ hk => hk.2) (.int .i64 t285)) (fun _ hk => hk.2) (.int .i64 t286)) (fun _ hk => hk.2) (.slice Ao89 x291002_1.length co89)) (fun _ hk => hk.1.2), by repeat (first | (with_reducible first | exact HB.out | apply below_alloc | apply pw_below_drewN | apply below_drew1 | refine below_set ?_ GE278.out | refine below_set ?_ GE279.out | refine below_set ?_ GE290.out) | exact HB.out)⟩
  rw [if_neg c7] at H
  exact absurd H (by simp)
 rw [if_neg c6] at H
 exact absurd H (by simp)

end Go.Proofs.Ytndnklicfibkeaa.P
