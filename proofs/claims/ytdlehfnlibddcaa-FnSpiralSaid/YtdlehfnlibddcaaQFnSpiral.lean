/- The law FnSpiral: ranks of a spiral that follow each other are in cells side by side, from the left upper one on; for the inputs that the law draws. -/
import Derived.Test.YtdlehfnlibddcaaFimplSpiralMatrix
import Derived.Test.YtdlehfnlibddcaaFlawsFnSpiral
import Derived.Test.YtdlehfnlibddcaaFlawsat
import Derived.Test.YtdlehfnlibddcaaFspecIsMatrix
import Derived.Test.YtdlehfnlibddcaaP0
namespace Go.Proofs.Ytdlehfnlibddcaa.Q
open Go.RowKit Go.Proofs.Ytdlehfnlibddcaa.P Go.Proofs.YtdlehfnlibddcaaW.PrintWords
set_option linter.unusedVariables false
set_option linter.unusedSimpArgs false
theorem wid (x : Int) (h0 : -9223372036854775808 ≤ x) (h1 : x ≤ 9223372036854775807) : wrap64 x = x := by unfold wrap64; omega
theorem rd_nat (l : List Int) (i : Nat) : rd l (i : Int) = l.getD i 0 := by unfold rd; rw [Int.toNat_natCast]
theorem getD_of_lt {α : Type} (l : List α) (d : α) (i : Nat) (h : i < l.length) : l.getD i d = l[i] := by simp [List.getD_eq_getElem?_getD, List.getElem?_eq_getElem h]
theorem getD_mem (l : List Int) (i : Nat) (h : i < l.length) : l.getD i 0 ∈ l := by rw [getD_of_lt l 0 i h]; exact List.getElem_mem h
theorem at_ok (s : List Int) (n : Int) (hl : s.length ≤ 1048576) (h0 : 0 ≤ n) (h1 : n ≤ 100) (hx : ∀ x ∈ s, 0 ≤ x ∧ x ≤ 255) : ∃ v : Int, laws_at.f s n = some v ∧ 0 ≤ v ∧ v ≤ 255 := by
  unfold laws_at.f
  by_cases h : n < (s.length : Int)
  · rw [if_pos h, if_pos h0]
    obtain ⟨m, rfl⟩ : ∃ m : Nat, n = (m : Int) := ⟨n.toNat, by omega⟩
    rw [rd_nat]
    have := hx _ (getD_mem s m (by omega))
    rw [wid _ (by omega) (by omega)]
    exact ⟨_, rfl, this.1, this.2⟩
  · rw [if_neg h, wid (n * 37) (by omega) (by omega), wid ((s.length : Int) * 11) (by omega) (by omega), wid _ (by omega) (by omega)]
    refine ⟨_, rfl, Int.tmod_nonneg _ (by omega), ?_⟩
    have := Int.tmod_lt_of_pos (n * 37 + (s.length : Int) * 11) (b := 256) (by omega)
    omega
theorem u8_bd {l : List Int} (h : ∀ x ∈ l, (Lit.int .u8 x).wf = true) : ∀ x ∈ l, 0 ≤ x ∧ x ≤ 255 := by
  intro x hx
  have := h x hx
  simp [Lit.wf] at this
  have e1 : IntKind.u8.min = 0 := rfl
  have e2 : IntKind.u8.max = 255 := rfl
  omega
/-! The spiral's cells, side by side: reckoned for each of its sixteen sides. -/
def spTail (k : Nat) (a : Int) : Option Bool := (impl_SpiralMatrix.f a).bind fun bt114 => (if bt114.2.2.2 = true then (if bt114.1 = a then (if bt114.2.1 = a then (if (bt114.2.2.1.length : Int) = (wrap64 (a * a)) then ((spec_IsMatrix.f k bt114.1 bt114.2.1 bt114.2.2.1).bind fun t121 => (if t121 = true then (if 0 < (bt114.2.2.1.length : Int) then (if (rd bt114.2.2.1 0) = 0 then (if 0 ≤ (wrap64 (a - 1)) then (if (wrap64 (a - 1)) < (bt114.2.2.1.length : Int) then (laws_FnSpiral.j0 k a ((rd bt114.2.2.1 (wrap64 (a - 1))) != (wrap64 (a - 1))) bt114.1 bt114.2.1 bt114.2.2.1) else (none)) else (none)) else (laws_FnSpiral.j0 k a true bt114.1 bt114.2.1 bt114.2.2.1)) else (none)) else (laws_FnSpiral.j0 k a true bt114.1 bt114.2.1 bt114.2.2.1))) else (laws_FnSpiral.j0 k a true bt114.1 bt114.2.1 bt114.2.2.1)) else (laws_FnSpiral.j0 k a true bt114.1 bt114.2.1 bt114.2.2.1)) else (laws_FnSpiral.j0 k a true bt114.1 bt114.2.1 bt114.2.2.1)) else (laws_FnSpiral.j0 k a true bt114.1 bt114.2.1 bt114.2.2.1))
theorem spTail_1 : spTail 7 1 = some true := by decide +kernel
theorem spTail_2 : spTail 13 2 = some true := by decide +kernel
theorem spTail_3 : spTail 23 3 = some true := by decide +kernel
theorem spTail_4 : spTail 37 4 = some true := by decide +kernel
theorem spTail_5 : spTail 55 5 = some true := by decide +kernel
theorem spTail_6 : spTail 77 6 = some true := by decide +kernel
theorem spTail_7 : spTail 103 7 = some true := by decide +kernel
theorem spTail_8 : spTail 133 8 = some true := by decide +kernel
theorem spTail_9 : spTail 167 9 = some true := by decide +kernel
theorem spTail_10 : spTail 205 10 = some true := by decide +kernel
theorem spTail_11 : spTail 247 11 = some true := by decide +kernel
theorem spTail_12 : spTail 293 12 = some true := by decide +kernel
theorem spTail_13 : spTail 343 13 = some true := by decide +kernel
theorem spTail_14 : spTail 397 14 = some true := by decide +kernel
theorem spTail_15 : spTail 455 15 = some true := by decide +kernel
theorem spTail_16 : spTail 517 16 = some true := by decide +kernel
theorem spTail_all (a : Int) (h0 : 1 ≤ a) (h1 : a ≤ 16) : ∃ f, spTail f a = some true := by
  obtain rfl | rfl | rfl | rfl | rfl | rfl | rfl | rfl | rfl | rfl | rfl | rfl | rfl | rfl | rfl | rfl : a = 1 ∨ a = 2 ∨ a = 3 ∨ a = 4 ∨ a = 5 ∨ a = 6 ∨ a = 7 ∨ a = 8 ∨ a = 9 ∨ a = 10 ∨ a = 11 ∨ a = 12 ∨ a = 13 ∨ a = 14 ∨ a = 15 ∨ a = 16 := by omega
  · exact ⟨_, spTail_1⟩
  · exact ⟨_, spTail_2⟩
  · exact ⟨_, spTail_3⟩
  · exact ⟨_, spTail_4⟩
  · exact ⟨_, spTail_5⟩
  · exact ⟨_, spTail_6⟩
  · exact ⟨_, spTail_7⟩
  · exact ⟨_, spTail_8⟩
  · exact ⟨_, spTail_9⟩
  · exact ⟨_, spTail_10⟩
  · exact ⟨_, spTail_11⟩
  · exact ⟨_, spTail_12⟩
  · exact ⟨_, spTail_13⟩
  · exact ⟨_, spTail_14⟩
  · exact ⟨_, spTail_15⟩
  · exact ⟨_, spTail_16⟩
/-- The law FnSpiral: ranks of a spiral that follow each other are in cells side by side, from the left upper one on; for the inputs that the law draws. -/
theorem FnSpiral (l0 : List Int) (h0_ : l0.length ≤ maxLen) (h1_ : l0.length * 1 ≤ 140737488351232) (h2_ : (∀ x ∈ l0, (Lit.int .u8 x).wf = true)) :
    ∃ k, P.laws_FnSpiral.f k l0 = some true := by
  by_cases hl : (l0.length : Int) > 1048576
  · exact ⟨0, if_pos hl⟩
  obtain ⟨a, ea, a0, a1⟩ := at_ok l0 1 (by omega) (by omega) (by omega) (u8_bd h2_)
  have hA : 0 ≤ Int.tmod a 16 ∧ Int.tmod a 16 ≤ 15 := by rw [Int.tmod_eq_emod_of_nonneg a0]; omega
  obtain ⟨k, hk⟩ := spTail_all (1 + Int.tmod a 16) (by omega) (by omega)
  refine ⟨k, (if_neg hl).trans ?_⟩
  rw [ea]
  show spTail k (wrap64 (1 + Int.tmod a 16)) = some true
  rw [wid (1 + Int.tmod a 16) (by omega) (by omega)]
  exact hk
end Go.Proofs.Ytdlehfnlibddcaa.Q
