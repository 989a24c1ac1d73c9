-- Written by tools/seatprint.py (over the kit's print, changed in memory). Not trusted: Lean checks it.
import Derived.Test.YtndnklicfibkeaaP0
import Derived.Test.YtndnklicfibkeaaFpre
import Derived.Test.YtndnklicfibkeaaFslicesContainsFuncintint
namespace Go.Proofs.Ytndnklicfibkeaa.P
open Go.RowKit Go.Proofs.YtndnklicfibkeaaW.PrintWords Go.Proofs.YtndnklicfibkeaaW.PrintLast Go.Proofs.YtndnklicfibkeaaW.PrintMore
attribute [local go_sem] max2_int min2_int max_two min_two max_three min_three max_four min_four   -- for this text's walks alone
set_option linter.unusedVariables false
set_option linter.unusedSimpArgs false

/-! ### impl_within: function 37 -/
set_option maxHeartbeats 8000000 in
set_option maxRecDepth 100000 in
theorem impl_within.clo (W : World) (g : Nat) (m n : Int) (BK : W.heap[g]? = some (.cells #[.int .i64 m] 3 (0, 0))) :
    Calls Try.prog 59 #[.int .i64 n, .pointer (some ⟨g, 0, none⟩)] W fun e w' => e = .returned (.bool (badN m n)) ∧ Below W.heap.size W w' := by
  unfold badN
  have hc0 : W.cell? ⟨g, 0, none⟩ = some (.int .i64 m) := (blk_cell BK 0).trans rfl
  by_cases h0 : n < 0
  · rw [decide_eq_false (by omega)]
    go_enter Try.func59, Try.ntmps59
    go_wp2
    go_ret
    exact ⟨rfl, Below.refl _ _⟩
  · by_cases h1 : m < n
    · rw [decide_eq_false (by omega)]
      go_enter Try.func59, Try.ntmps59
      go_wp2
      go_ret
      exact ⟨rfl, Below.refl _ _⟩
    · rw [decide_eq_true (by omega)]
      go_enter Try.func59, Try.ntmps59
      go_wp2
      go_ret
      exact ⟨rfl, Below.refl _ _⟩
def impl_within.f (l0 : List Int) (a1 : Int) : Option Bool := some (withinB l0 a1)
set_option maxHeartbeats 8000000 in
set_option maxRecDepth 100000 in
theorem impl_within.calls (A0 : Option Addr) (c0 : Nat) (l0 : List Int) (a1 : Int) (r : Bool) (w : World) (hr0 : Kd.C (Kd.int .i64) w A0 l0.length l0) (hc0 : l0.length ≤ c0) (h : impl_within.f l0 a1 = some r) :
    Calls Try.prog 37 #[.slice A0 l0.length c0, .int .i64 a1] w fun e w' => e = .returned (.bool r) ∧ Below w.heap.size w w' := by
  have hmf : ∀ (fn : Fn) (first cap : Array Value) (w : World), (Instr.makeFunc fn first cap).run Try.prog w = .ok (.func fn first cap) w := fun _ _ _ _ => rfl
  obtain rfl := Option.some.inj h
  have HR := Aside0.mk hr0
  have HB := Aside0.mk (Below.refl w.heap.size w)
  clear hr0 hc0 h
  go_enter Try.func37, Try.ntmps37
  go_wp2_with (first | ((with_reducible refine gate_dst (N := 3) rfl ?_); refine box_event ?hg (N := 3) ?hd (cs := #[Value.int .i64 a1]) (t := 3) ?hr ?_; (case hd => rfl); (case hg => rfl); (case hr => first | (go_simp; done) | (go_simp; rfl)); intro gA hg_ wA hbox_ hb_; have n0_ := Aside0.mk (below_step (by first | exact HB.out | exact pw_below_drewN HB.out _ | exact pw_below_drewN (pw_below_drewN HB.out _) _) hb_); have GEA := Aside0.mk (show w.heap.size ≤ gA by rw [hg_]; exact below_size (by first | exact HB.out | exact pw_below_drewN HB.out _ | exact pw_below_drewN (pw_below_drewN HB.out _) _)); clear HB; have HB := n0_; clear n0_; have BKA := Aside0.mk hbox_; clear hbox_ hb_ hg_; have hcA0 := (blk_cell BKA.out 0).trans rfl; have hfA0 := blk_frozen BKA.out 0) | (go_at_call 58; refine (containsfunc_calls A0 c0 l0 59 #[.pointer (some ⟨gA, 0, none⟩)] (badN a1) _ (Kd.C_below HR.out HB.out) ?deg ?df).mono ?_; (rotate_right; rintro e w5 ⟨rfl, hb5⟩)))
  case deg => exact fun args W => enters_ Try.func59 (by kernel_rfl) rfl args W
  case df =>
    intro W x hb
    exact impl_within.clo W gA a1 x (blk_below BKA.out hb)
  go_ret
  refine ⟨?_, below_step HB.out hb5⟩
  unfold withinB
  rw [List.all_eq_not_any_not]
  rfl


end Go.Proofs.Ytndnklicfibkeaa.P
