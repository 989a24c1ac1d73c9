-- Written by tools/seatprint.py (over the kit's print, changed in memory). Not trusted: Lean checks it.
import Derived.WalkSpells
import Derived.Test.YtndnklicfibkeaaP0
namespace Go.Proofs.Ytndnklicfibkeaa.P
open Go.RowKit Go.Proofs.YtndnklicfibkeaaW.PrintWords Go.Proofs.YtndnklicfibkeaaW.PrintLast Go.Proofs.YtndnklicfibkeaaW.PrintMore
attribute [local go_sem] max2_int min2_int max_two min_two max_three min_three max_four min_four   -- for this text's walks alone
set_option linter.unusedVariables false
set_option linter.unusedSimpArgs false

/-! ### slices_Clone_int_int: function 65 -/
set_option maxHeartbeats 8000000 in
set_option maxRecDepth 100000 in
theorem clone_calls (A0 : Option Addr) (c0 : Nat) (l0 : List Int) (w : World) (hr0 : Kd.C (Kd.int .i64) w A0 l0.length l0) (hl : l0.length ≤ 1048576) :
    Calls Try.prog 65 #[.slice A0 l0.length c0] w fun e w' => ∃ v : Value, e = .returned v ∧ Kd.R (Kd.int .i64) 3 w' w.heap.size (fun _ => True) v l0 ∧ Below w.heap.size w w' := by
  have HR := Aside0.mk hr0
  have HN := Aside0.mk hr0.2.2
  have HB := Aside0.mk (Below.refl w.heap.size w)
  have heq := fun (W : World) (a : Option Addr) (n c : Nat) => Lib.run_eql_slice_nil (P := Try.prog) W 25 3 a n c 0 0 Try.underlying25
  clear hr0
  cases A0 with
  | none =>
    have h0 : l0.length = 0 := by
      rcases Nat.eq_zero_or_pos l0.length with h | h
      · exact h
      · obtain ⟨_, h, _⟩ := HN.out h
        cases h
    obtain rfl := List.eq_nil_of_length_eq_zero h0
    go_enter Try.func65, Try.ntmps65
    go_wp2
    go_ret
    exact ⟨_, rfl, Kd.R_nil _ _ _ _ _, Below.refl _ _⟩
  | some ad =>
    go_enter Try.func65, Try.ntmps65
    go_wp2_with (first | ((with_reducible refine gate_dst (N := 5) rfl ?_); refine Kd.R_lit (Kd.int .i64) w.heap.size 3 ?hg (N := 5) rfl (xs := []) (inner := []) (ok := fun _ => True) (okp := fun _ => True) ?hr ?hrep (fun _ h => h) trivial HB.out (Nat.le_refl _) (Nat.zero_le _) ?_; (case hg => rfl); (case hr => first | (go_simp; done) | (go_simp; rfl)); (case hrep => exact Reps.none _ _); intro v1 w1 HO hb1 hg1 hat1; clear HB hg1 hat1; have HO := Aside0.mk HO; have HB := Aside0.mk hb1; clear hb1) | ((with_reducible refine gate_dst (N := 7) rfl ?_); refine Kd.R_append_row (Value.int .i64) (0 : Int) (h1 := fun _ => rfl) w.heap.size (by rfl) _ _ 25 3 (.int .i64 0) 8 rfl Try.underlying25 info3 rfl (by decide) v1 [] l0 (some ad) l0.length c0 (fun _ => True) rfl rfl (fun _ _ => trivial) HO.out (Kd.C_below HR.out HB.out) HB.out (below_size HB.out) ?hl ?_; (case hl => simp only [List.length_nil]; omega); intro v2 w2 HO2 hb2 hg2 hat2; clear hg2 hat2; have HO2 := Aside0.mk HO2; have HB2 := Aside0.mk hb2; clear hb2))
    go_ret
    exact ⟨_, rfl, HO2.out, HB2.out⟩


end Go.Proofs.Ytndnklicfibkeaa.P
