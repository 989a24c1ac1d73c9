-- Written by tools/seatprint.py (over the kit's print, changed in memory). Not trusted: Lean checks it.
import Derived.Test.YtndnklicfibkeaaP0
import Derived.Test.YtndnklicfibkeaaFpre
namespace Go.Proofs.Ytndnklicfibkeaa.P
open Go.RowKit Go.Proofs.YtndnklicfibkeaaW.PrintWords Go.Proofs.YtndnklicfibkeaaW.PrintLast Go.Proofs.YtndnklicfibkeaaW.PrintMore
attribute [local go_sem] max2_int min2_int max_two min_two max_three min_three max_four min_four   -- for this text's walks alone
set_option linter.unusedVariables false
set_option linter.unusedSimpArgs false

/-! ### slices_IndexFunc_int_int: function 68 -/
set_option maxHeartbeats 8000000 in
set_option maxRecDepth 100000 in
theorem indexfunc_calls (A0 : Option Addr) (c0 : Nat) (l0 : List Int) (g : Nat) (lb : Array Value) (p : Int → Bool) (w : World) (hr0 : Kd.C (Kd.int .i64) w A0 l0.length l0)
  (eg : ∀ args W, (callFunc g args).run Try.prog W = .ok (.enter g args) W)
  (hf : ∀ W x, Below w.heap.size w W → Calls Try.prog g (#[.int .i64 x] ++ lb) W fun e w' => e = .returned (.bool (p x)) ∧ Below W.heap.size W w') :
  Calls Try.prog 68 #[.slice A0 l0.length c0, .func (.func g) #[] lb] w fun e w' => ∃ r : Int, e = .returned (.int .i64 r) ∧ Aside0 (decide (r ≥ 0) = l0.any p) ∧ Below w.heap.size w w' := by
  have HF := Aside0.mk hf
  have EG := Aside0.mk eg
  have HR := Aside0.mk hr0
  have hmax := Kd.C_max hr0
  clear hf eg hr0
  go_enter Try.func68, Try.ntmps68
  go_wp2
  go_loopw [8] (fun s8 wr => ∃ i : Nat, i ≤ l0.length ∧ s8 = .int .i64 i ∧ Aside0 ((∀ m, m < i → p (l0.getD m 0) = false) ∧ Below w.heap.size w wr)) (fun s8 _ => l0.length - (intOf s8).toNat)
  case atStart => exact ⟨0, Nat.zero_le _, rfl, ⟨fun m hm => absurd hm (by omega), Below.refl _ _⟩⟩
  case round =>
    obtain ⟨i, hi, rfl, HH⟩ := hrel
    by_cases hlt : i < l0.length
    · obtain ⟨ad, e, hx⟩ := Kd.at_int (Kd.C_below HR.out HH.out.2) (i : Int) (Int.natCast_nonneg _) (by omega)
      cases e
      have hrd : rd l0 (i : Int) = l0.getD i 0 := by unfold rd; rw [Int.toNat_natCast]
      rw [hrd] at hx
      rw [Int.toNat_natCast] at hx
      clear hrd
      have hlt' : (i : Int) < (l0.length : Int) := by omega
      obtain ⟨v, hv⟩ : ∃ v, l0.getD i 0 = v := ⟨_, rfl⟩
      rw [hv] at hx
      have HV := Aside0.mk hv
      clear hv
      cases hp : p v with
      | true =>
        have HP := Aside0.mk hp
        clear hp
        go_wp2_with (refine goesFL_ (some 16) rfl rfl EG.out #[.int .i64 v] rfl rfl (by simp only [List.map_toArray, List.map_cons, List.map_nil]; rfl) ?_; with_reducible refine (HF.out _ v HH.out.2).mono ?_; rintro e w3 ⟨rfl, hb3⟩; rw [HP.out]; refine ⟨_, rfl, ?_⟩)
        go_ret
        exact ⟨(i : Int), rfl, ⟨by rw [decide_eq_true (by omega)]; symm; rw [List.any_eq_true]; exact ⟨v, by rw [← HV.out, List.getD_eq_getElem?_getD, List.getElem?_eq_getElem hlt]; exact List.getElem_mem hlt, HP.out⟩⟩, below_step HH.out.2 hb3⟩
      | false =>
        have HP := Aside0.mk hp
        clear hp
        go_wp2_with (refine goesFL_ (some 16) rfl rfl EG.out #[.int .i64 v] rfl rfl (by simp only [List.map_toArray, List.map_cons, List.map_nil]; rfl) ?_; with_reducible refine (HF.out _ v HH.out.2).mono ?_; rintro e w3 ⟨rfl, hb3⟩; rw [HP.out]; refine ⟨_, rfl, ?_⟩)
        go_roundw
        case rel => exact ⟨i + 1, by omega, by go_num, ⟨fun m hm => (Nat.lt_succ_iff_lt_or_eq.1 hm).elim (HH.out.1 m) (fun h => by rw [h, HV.out]; exact HP.out), below_step HH.out.2 hb3⟩⟩
        case measure => simp [intOf]; omega
    · have hge : ¬ (i : Int) < (l0.length : Int) := by omega
      go_wp2
      go_ret
      refine ⟨-1, rfl, ⟨?_⟩, HH.out.2⟩
      rw [decide_eq_false (by omega)]
      symm
      rw [List.any_eq_false]
      intro x hx
      obtain ⟨m, hm, rfl⟩ := List.mem_iff_getElem.1 hx
      have h1 := HH.out.1 m (by omega)
      rw [List.getD_eq_getElem?_getD, List.getElem?_eq_getElem hm] at h1
      simpa using h1


end Go.Proofs.Ytndnklicfibkeaa.P
