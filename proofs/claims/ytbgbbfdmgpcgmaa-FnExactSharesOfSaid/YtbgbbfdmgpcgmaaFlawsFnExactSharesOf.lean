-- Written by tools/seatprint.py (over the kit's print, changed in memory). Not trusted: Lean checks it.
import Derived.Test.YtbgbbfdmgpcgmaaP0
import Derived.Test.YtbgbbfdmgpcgmaaFlawseqPartS
import Derived.Test.YtbgbbfdmgpcgmaaFlawsmarkPartS
import Derived.Test.YtbgbbfdmgpcgmaaFlawsszPartS
import Derived.Test.YtbgbbfdmgpcgmaaFlawstoPartS
import Derived.Test.YtbgbbfdmgpcgmaaFlawseqIntS
import Derived.Test.YtbgbbfdmgpcgmaaFimplSharesOf
import Derived.Test.YtbgbbfdmgpcgmaaFlawsmarkIntS
import Derived.Test.YtbgbbfdmgpcgmaaFlawsheldIntS
import Derived.Test.YtbgbbfdmgpcgmaaFspecSharesOf
namespace Go.Proofs.Ytbgbbfdmgpcgmaa.P
open Go.RowKit Go.Proofs.YtbgbbfdmgpcgmaaW.PrintWords Go.Proofs.YtbgbbfdmgpcgmaaW.PrintLast Go.Proofs.YtbgbbfdmgpcgmaaW.PrintMore
attribute [local go_sem] max2_int min2_int max_two min_two max_three min_three max_four min_four   -- for this text's walks alone
set_option linter.unusedVariables false
set_option linter.unusedSimpArgs false

/-! ### laws_FnExactSharesOf: function 32 -/
def laws_FnExactSharesOf.j0 : Nat → List (S83) → Int → List Int → List Int → Bool → Option (Bool)
  | 0, _, _, _, _, _ => none
  | k + 1, x0, x1, x6, x8, x46 => if x46 = true then (some false) else ((laws_markIntS.f k x8 1).bind fun bt1638 => ((laws_heldIntS.f k bt1638.2 1).bind fun t1640 => (if t1640 < 0 then (some false) else (if t1640 = bt1638.1 then ((laws_toPartS.f k x0).bind fun t1641 => ((impl_SharesOf.f k t1641 x1).bind fun t1644 => ((laws_eqIntS.f k t1644 x6).bind fun t1647 => (if t1647 = true then ((laws_heldIntS.f k bt1638.2 1).bind fun t1648 => (if t1648 < 0 then (some false) else (if t1648 = bt1638.1 then (some true) else (some false)))) else (some false))))) else (some false)))))
def laws_FnExactSharesOf.f (k : Nat) (l0 : List (S83)) (a1 : Int) : Option (Bool) := (laws_szPartS.f l0 1048576).bind fun t1617 => (if t1617 < 0 then (some true) else ((laws_toPartS.f k l0).bind fun t1618 => ((spec_SharesOf.f k t1618 a1).bind fun t1621 => ((laws_toPartS.f k l0).bind fun t1624 => ((impl_SharesOf.f k t1624 a1).bind fun t1627 => ((laws_eqIntS.f k t1627 t1621).bind fun t1630 => (if t1630 = true then ((laws_toPartS.f k l0).bind fun t1631 => ((laws_eqPartS.f k t1624 t1631).bind fun t1634 => (if t1634 = true then ((laws_markPartS.f k t1624 1).bind fun bt1635 => (if bt1635.1 < 0 then (laws_FnExactSharesOf.j0 k l0 a1 t1621 t1627 true) else ((laws_eqIntS.f k t1627 t1621).bind fun t1637 => (laws_FnExactSharesOf.j0 k l0 a1 t1621 t1627 (!t1637))))) else (some false)))) else (some false))))))))
theorem laws_FnExactSharesOf.mono_l : ∀ k, (∀ y0 y1 y2 y3 y4, LeO (laws_FnExactSharesOf.j0 k y0 y1 y2 y3 y4) (laws_FnExactSharesOf.j0 (k + 1) y0 y1 y2 y3 y4))
  | 0 => fun _ _ _ _ _ r h => by simp [laws_FnExactSharesOf.j0] at h
  | k + 1 => by
    have ih0 := laws_FnExactSharesOf.mono_l k
    · intro y0 y1 y2 y3 y4
      unfold laws_FnExactSharesOf.j0
      repeat' first
      | (with_reducible exact ih0 _ _ _ _ _)
      | (with_reducible exact impl_SharesOf.mono _ _ _)
      | (with_reducible exact laws_eqIntS.mono _ _ _)
      | (with_reducible exact laws_eqPartS.mono _ _ _)
      | (with_reducible exact laws_heldIntS.mono _ _ _)
      | (with_reducible exact laws_markIntS.mono _ _ _)
      | (with_reducible exact laws_markPartS.mono _ _ _)
      | (with_reducible exact laws_toPartS.mono _ _)
      | (with_reducible exact spec_SharesOf.mono _ _ _)
      | (with_reducible exact LeO.refl _)
      | (with_reducible exact LeO.none _)
      | (with_reducible refine LeO.ite ?_ ?_)
      | (with_reducible refine LeO.bind ?_ (fun _ => ?_))
      | exact ih0 _ _ _ _ _
      | exact impl_SharesOf.mono _ _ _
      | exact laws_eqIntS.mono _ _ _
      | exact laws_eqPartS.mono _ _ _
      | exact laws_heldIntS.mono _ _ _
      | exact laws_markIntS.mono _ _ _
      | exact laws_markPartS.mono _ _ _
      | exact laws_toPartS.mono _ _
      | exact spec_SharesOf.mono _ _ _
      | exact LeO.none _
      | refine LeO.ite ?_ ?_
      | refine LeO.bind ?_ (fun _ => ?_)
theorem laws_FnExactSharesOf.mono : ∀ a0 a1 k, LeO (laws_FnExactSharesOf.f k a0 a1) (laws_FnExactSharesOf.f (k + 1) a0 a1) := by
  intro a0 a1 k
  have ih0 := laws_FnExactSharesOf.mono_l k
  unfold laws_FnExactSharesOf.f
  repeat' first
      | (with_reducible exact ih0 _ _ _ _ _)
      | (with_reducible exact impl_SharesOf.mono _ _ _)
      | (with_reducible exact laws_eqIntS.mono _ _ _)
      | (with_reducible exact laws_eqPartS.mono _ _ _)
      | (with_reducible exact laws_heldIntS.mono _ _ _)
      | (with_reducible exact laws_markIntS.mono _ _ _)
      | (with_reducible exact laws_markPartS.mono _ _ _)
      | (with_reducible exact laws_toPartS.mono _ _)
      | (with_reducible exact spec_SharesOf.mono _ _ _)
      | (with_reducible exact LeO.refl _)
      | (with_reducible exact LeO.none _)
      | (with_reducible refine LeO.ite ?_ ?_)
      | (with_reducible refine LeO.bind ?_ (fun _ => ?_))
      | exact ih0 _ _ _ _ _
      | exact impl_SharesOf.mono _ _ _
      | exact laws_eqIntS.mono _ _ _
      | exact laws_eqPartS.mono _ _ _
      | exact laws_heldIntS.mono _ _ _
      | exact laws_markIntS.mono _ _ _
      | exact laws_markPartS.mono _ _ _
      | exact laws_toPartS.mono _ _
      | exact spec_SharesOf.mono _ _ _
      | exact LeO.none _
      | refine LeO.ite ?_ ?_
      | refine LeO.bind ?_ (fun _ => ?_)
set_option maxHeartbeats 8000000 in
set_option maxRecDepth 100000 in
theorem laws_FnExactSharesOf.calls (k : Nat) (A0 : Option Addr) (c0 : Nat) (l0 : List (S83)) (a1 : Int) (r : Bool) (w : World) (hr0 : Kd.C k83 w A0 l0.length l0) (hc0 : l0.length ≤ c0) (hT : Aside0 (r = true)) (h : laws_FnExactSharesOf.f k l0 a1 = some r) :
    Calls Try.prog 32 #[.slice A0 l0.length c0, .int .i64 a1] w fun e w' => e = .returned (.bool r) ∧ Below w.heap.size w w' := by
  have HR0 := Aside0.mk hr0
  have HC0 := Aside0.mk hc0
  clear hr0 hc0
  have HB := Aside0.mk (Below.refl w.heap.size w)
  have H : ((laws_szPartS.f l0 1048576).bind fun t1617 => (if t1617 < 0 then (some true) else ((laws_toPartS.f k l0).bind fun t1618 => ((spec_SharesOf.f k t1618 a1).bind fun t1621 => ((laws_toPartS.f k l0).bind fun t1624 => ((impl_SharesOf.f k t1624 a1).bind fun t1627 => ((laws_eqIntS.f k t1627 t1621).bind fun t1630 => (if t1630 = true then ((laws_toPartS.f k l0).bind fun t1631 => ((laws_eqPartS.f k t1624 t1631).bind fun t1634 => (if t1634 = true then ((laws_markPartS.f k t1624 1).bind fun bt1635 => (if bt1635.1 < 0 then (laws_FnExactSharesOf.j0 k l0 a1 t1621 t1627 true) else ((laws_eqIntS.f k t1627 t1621).bind fun t1637 => (laws_FnExactSharesOf.j0 k l0 a1 t1621 t1627 (!t1637))))) else (some false)))) else (some false))))))))) = some r := h
  clear h
  replace H := Option.bind_eq_some_iff.mp H
  obtain ⟨t1617, A30, H⟩ := H
  replace H : (if t1617 < 0 then (some true) else ((laws_toPartS.f k l0).bind fun t1618 => ((spec_SharesOf.f k t1618 a1).bind fun t1621 => ((laws_toPartS.f k l0).bind fun t1624 => ((impl_SharesOf.f k t1624 a1).bind fun t1627 => ((laws_eqIntS.f k t1627 t1621).bind fun t1630 => (if t1630 = true then ((laws_toPartS.f k l0).bind fun t1631 => ((laws_eqPartS.f k t1624 t1631).bind fun t1634 => (if t1634 = true then ((laws_markPartS.f k t1624 1).bind fun bt1635 => (if bt1635.1 < 0 then (laws_FnExactSharesOf.j0 k l0 a1 t1621 t1627 true) else ((laws_eqIntS.f k t1627 t1621).bind fun t1637 => (laws_FnExactSharesOf.j0 k l0 a1 t1621 t1627 (!t1637))))) else (some false)))) else (some false)))))))) = some r := H
  have A3 := Aside0.mk A30
  clear A30
  by_cases c4 : t1617 < 0
  · rw [if_pos c4] at H
    have c4b0 : decide (t1617 < 0) = true := decide_eq_true c4
    clear c4
    obtain rfl := Option.some.inj H
    go_enter Try.func32, Try.ntmps32
    go_wp2_with (first | ((with_reducible refine gate_callee (f := 42) rfl ?_); refine goesL_ (some 15) rfl rfl Try.func42 (by kernel_rfl) rfl #[.slice A0 l0.length c0, .int .i64 1048576] rfl (by (try simp only [List.map_toArray, List.map_cons, List.map_nil]); first | done | rfl | (simp only [List.length_drop, List.length_take]; rfl)) ?_; (with_reducible refine (laws_szPartS.calls _ _ l0 1048576 t1617 _ ?side1 ?side2 A3.out).mono ?_); (case side1 => repeat (first | exact HR0.out | (with_reducible refine Kd.C_alloc ?_ _) | (with_reducible refine Kd.C_drewN ?_ _) | (with_reducible refine Kd.C_drew ?_))); (case side2 => exact HC0.out); rintro e w' ⟨rfl, ⟨nd, rfl⟩⟩; refine ⟨_, rfl, ?_⟩))
    go_ret
    exact ⟨by first | rfl | (simp [errW_none, errW_some] <;> rfl) | (simp [*, errW_none, errW_some] <;> rfl), by repeat (first | (with_reducible first | exact HB.out | apply below_alloc | apply pw_below_drewN | apply below_drew1) | exact HB.out)⟩
  · rw [if_neg c4] at H
    have c4b0 : decide (t1617 < 0) = false := decide_eq_false c4
    clear c4
    replace H := Option.bind_eq_some_iff.mp H
    obtain ⟨t1618, A50, H⟩ := H
    replace H : ((spec_SharesOf.f k t1618 a1).bind fun t1621 => ((laws_toPartS.f k l0).bind fun t1624 => ((impl_SharesOf.f k t1624 a1).bind fun t1627 => ((laws_eqIntS.f k t1627 t1621).bind fun t1630 => (if t1630 = true then ((laws_toPartS.f k l0).bind fun t1631 => ((laws_eqPartS.f k t1624 t1631).bind fun t1634 => (if t1634 = true then ((laws_markPartS.f k t1624 1).bind fun bt1635 => (if bt1635.1 < 0 then (laws_FnExactSharesOf.j0 k l0 a1 t1621 t1627 true) else ((laws_eqIntS.f k t1627 t1621).bind fun t1637 => (laws_FnExactSharesOf.j0 k l0 a1 t1621 t1627 (!t1637))))) else (some false)))) else (some false)))))) = some r := H
    have A5 := Aside0.mk A50
    clear A50
    replace H := Option.bind_eq_some_iff.mp H
    obtain ⟨t1621, A60, H⟩ := H
    replace H : ((laws_toPartS.f k l0).bind fun t1624 => ((impl_SharesOf.f k t1624 a1).bind fun t1627 => ((laws_eqIntS.f k t1627 t1621).bind fun t1630 => (if t1630 = true then ((laws_toPartS.f k l0).bind fun t1631 => ((laws_eqPartS.f k t1624 t1631).bind fun t1634 => (if t1634 = true then ((laws_markPartS.f k t1624 1).bind fun bt1635 => (if bt1635.1 < 0 then (laws_FnExactSharesOf.j0 k l0 a1 t1621 t1627 true) else ((laws_eqIntS.f k t1627 t1621).bind fun t1637 => (laws_FnExactSharesOf.j0 k l0 a1 t1621 t1627 (!t1637))))) else (some false)))) else (some false))))) = some r := H
    have A6 := Aside0.mk A60
    clear A60
    replace H := Option.bind_eq_some_iff.mp H
    obtain ⟨t1624, A70, H⟩ := H
    replace H : ((impl_SharesOf.f k t1624 a1).bind fun t1627 => ((laws_eqIntS.f k t1627 t1621).bind fun t1630 => (if t1630 = true then ((laws_toPartS.f k l0).bind fun t1631 => ((laws_eqPartS.f k t1624 t1631).bind fun t1634 => (if t1634 = true then ((laws_markPartS.f k t1624 1).bind fun bt1635 => (if bt1635.1 < 0 then (laws_FnExactSharesOf.j0 k l0 a1 t1621 t1627 true) else ((laws_eqIntS.f k t1627 t1621).bind fun t1637 => (laws_FnExactSharesOf.j0 k l0 a1 t1621 t1627 (!t1637))))) else (some false)))) else (some false)))) = some r := H
    have A7 := Aside0.mk A70
    clear A70
    replace H := Option.bind_eq_some_iff.mp H
    obtain ⟨t1627, A80, H⟩ := H
    replace H : ((laws_eqIntS.f k t1627 t1621).bind fun t1630 => (if t1630 = true then ((laws_toPartS.f k l0).bind fun t1631 => ((laws_eqPartS.f k t1624 t1631).bind fun t1634 => (if t1634 = true then ((laws_markPartS.f k t1624 1).bind fun bt1635 => (if bt1635.1 < 0 then (laws_FnExactSharesOf.j0 k l0 a1 t1621 t1627 true) else ((laws_eqIntS.f k t1627 t1621).bind fun t1637 => (laws_FnExactSharesOf.j0 k l0 a1 t1621 t1627 (!t1637))))) else (some false)))) else (some false))) = some r := H
    have A8 := Aside0.mk A80
    clear A80
    replace H := Option.bind_eq_some_iff.mp H
    obtain ⟨t1630, A90, H⟩ := H
    replace H : (if t1630 = true then ((laws_toPartS.f k l0).bind fun t1631 => ((laws_eqPartS.f k t1624 t1631).bind fun t1634 => (if t1634 = true then ((laws_markPartS.f k t1624 1).bind fun bt1635 => (if bt1635.1 < 0 then (laws_FnExactSharesOf.j0 k l0 a1 t1621 t1627 true) else ((laws_eqIntS.f k t1627 t1621).bind fun t1637 => (laws_FnExactSharesOf.j0 k l0 a1 t1621 t1627 (!t1637))))) else (some false)))) else (some false)) = some r := H
    have A9 := Aside0.mk A90
    clear A90
    by_cases c10 : t1630 = true
    · subst c10
      have H1 : ((laws_toPartS.f k l0).bind fun t1631 => ((laws_eqPartS.f k t1624 t1631).bind fun t1634 => (if t1634 = true then ((laws_markPartS.f k t1624 1).bind fun bt1635 => (if bt1635.1 < 0 then (laws_FnExactSharesOf.j0 k l0 a1 t1621 t1627 true) else ((laws_eqIntS.f k t1627 t1621).bind fun t1637 => (laws_FnExactSharesOf.j0 k l0 a1 t1621 t1627 (!t1637))))) else (some false)))) = some r := by rw [if_pos rfl] at H; exact H
      clear H
      have H := H1
      clear H1
      replace H := Option.bind_eq_some_iff.mp H
      obtain ⟨t1631, A110, H⟩ := H
      replace H : ((laws_eqPartS.f k t1624 t1631).bind fun t1634 => (if t1634 = true then ((laws_markPartS.f k t1624 1).bind fun bt1635 => (if bt1635.1 < 0 then (laws_FnExactSharesOf.j0 k l0 a1 t1621 t1627 true) else ((laws_eqIntS.f k t1627 t1621).bind fun t1637 => (laws_FnExactSharesOf.j0 k l0 a1 t1621 t1627 (!t1637))))) else (some false))) = some r := H
      have A11 := Aside0.mk A110
      clear A110
      replace H := Option.bind_eq_some_iff.mp H
      obtain ⟨t1634, A120, H⟩ := H
      replace H : (if t1634 = true then ((laws_markPartS.f k t1624 1).bind fun bt1635 => (if bt1635.1 < 0 then (laws_FnExactSharesOf.j0 k l0 a1 t1621 t1627 true) else ((laws_eqIntS.f k t1627 t1621).bind fun t1637 => (laws_FnExactSharesOf.j0 k l0 a1 t1621 t1627 (!t1637))))) else (some false)) = some r := H
      have A12 := Aside0.mk A120
      clear A120
      by_cases c13 : t1634 = true
      · subst c13
        have H1 : ((laws_markPartS.f k t1624 1).bind fun bt1635 => (if bt1635.1 < 0 then (laws_FnExactSharesOf.j0 k l0 a1 t1621 t1627 true) else ((laws_eqIntS.f k t1627 t1621).bind fun t1637 => (laws_FnExactSharesOf.j0 k l0 a1 t1621 t1627 (!t1637))))) = some r := by rw [if_pos rfl] at H; exact H
        clear H
        have H := H1
        clear H1
        replace H := Option.bind_eq_some_iff.mp H
        obtain ⟨⟨t1635, t1636⟩, A140, H⟩ := H
        replace H : (if t1635 < 0 then (laws_FnExactSharesOf.j0 k l0 a1 t1621 t1627 true) else ((laws_eqIntS.f k t1627 t1621).bind fun t1637 => (laws_FnExactSharesOf.j0 k l0 a1 t1621 t1627 (!t1637)))) = some r := H
        have A14 := Aside0.mk A140
        clear A140
        have HC15 := Aside0.mk H
        clear H
        go_enter Try.func32, Try.ntmps32
        go_upto_region 14 with (first | ((with_reducible refine gate_callee (f := 42) rfl ?_); refine goesL_ (some 15) rfl rfl Try.func42 (by kernel_rfl) rfl #[.slice A0 l0.length c0, .int .i64 1048576] rfl (by (try simp only [List.map_toArray, List.map_cons, List.map_nil]); first | done | rfl | (simp only [List.length_drop, List.length_take]; rfl)) ?_; (with_reducible refine (laws_szPartS.calls _ _ l0 1048576 t1617 _ ?side1 ?side2 A3.out).mono ?_); (case side1 => repeat (first | exact HR0.out | (with_reducible refine Kd.C_alloc ?_ _) | (with_reducible refine Kd.C_drewN ?_ _) | (with_reducible refine Kd.C_drew ?_))); (case side2 => exact HC0.out); rintro e w' ⟨rfl, ⟨nd, rfl⟩⟩; refine ⟨_, rfl, ?_⟩) | ((with_reducible refine gate_callee (f := 44) rfl ?_); refine goesL_ (some 19) rfl rfl Try.func44 (by kernel_rfl) rfl #[.slice A0 l0.length c0] rfl (by (try simp only [List.map_toArray, List.map_cons, List.map_nil]); first | done | rfl | (simp only [List.length_drop, List.length_take]; rfl)) ?_; (with_reducible refine (laws_toPartS.calls k _ _ l0 t1618 _ ?side1 ?side2 A5.out).mono ?_); (case side1 => repeat (first | exact HR0.out | (with_reducible refine Kd.C_alloc ?_ _) | (with_reducible refine Kd.C_drewN ?_ _) | (with_reducible refine Kd.C_drew ?_))); (case side2 => exact HC0.out); rintro e w16 ⟨v1619, rfl, ho0, hb⟩; refine ⟨_, rfl, ?_⟩; have n0_ := Aside0.mk (Kd.R_lower ho0 (below_size (by repeat (first | (with_reducible first | exact HB.out | apply below_alloc | apply pw_below_drewN | apply below_drew1) | exact HB.out)))); have n1_ := Aside0.mk (below_step (by repeat (first | (with_reducible first | exact HB.out | apply below_alloc | apply pw_below_drewN | apply below_drew1) | exact HB.out)) hb); clear HB; have HO1620 := n0_; have HB := n1_; clear n0_ n1_; (try clear hb); (try clear hb2); (try clear hk); (try clear hi); (try clear ho0); obtain ⟨Ao17, co17, eo17⟩ := Kd.R_slice HO1620.out; subst eo17) | ((with_reducible refine gate_callee (f := 99) rfl ?_); refine goesL_ (some 21) rfl rfl Try.func99 (by kernel_rfl) rfl #[.slice Ao17 t1618.length co17, .int .i64 a1] rfl (by (try simp only [List.map_toArray, List.map_cons, List.map_nil]); first | done | rfl | (simp only [List.length_drop, List.length_take]; rfl)) ?_; (with_reducible refine (spec_SharesOf.calls k _ _ t1618 a1 t1621 _ ?side1 ?side2 A6.out).mono ?_); (case side1 => repeat (first | exact (Kd.R_reads' HO1620.out).2.2 | (with_reducible refine Kd.C_alloc ?_ _) | (with_reducible refine Kd.C_drewN ?_ _) | (with_reducible refine Kd.C_drew ?_))); (case side2 => exact (Kd.R_reads' HO1620.out).2.1); rintro e w18 ⟨v1622, rfl, ho0, hb⟩; refine ⟨_, rfl, ?_⟩; have n0_ := Aside0.mk (Kd.R_below (by (with_reducible repeat (first | apply Kd.R_alloc | apply Kd.R_drewN | apply Kd.R_drew)); exact HO1620.out) hb); have n1_ := Aside0.mk (Kd.R_lower ho0 (below_size (by repeat (first | (with_reducible first | exact HB.out | apply below_alloc | apply pw_below_drewN | apply below_drew1) | exact HB.out)))); have n2_ := Aside0.mk (below_step (by repeat (first | (with_reducible first | exact HB.out | apply below_alloc | apply pw_below_drewN | apply below_drew1) | exact HB.out)) hb); clear HO1620; clear HB; have HO1620 := n0_; have HO1623 := n1_; have HB := n2_; clear n0_ n1_ n2_; (try clear hb); (try clear hb2); (try clear hk); (try clear hi); (try clear ho0)) | ((with_reducible refine gate_callee (f := 44) rfl ?_); refine goesL_ (some 23) rfl rfl Try.func44 (by kernel_rfl) rfl #[.slice A0 l0.length c0] rfl (by (try simp only [List.map_toArray, List.map_cons, List.map_nil]); first | done | rfl | (simp only [List.length_drop, List.length_take]; rfl)) ?_; (with_reducible refine (laws_toPartS.calls k _ _ l0 t1624 _ ?side1 ?side2 A7.out).mono ?_); (case side1 => repeat (first | exact (Kd.C_below HR0.out HB.out) | (with_reducible refine Kd.C_alloc ?_ _) | (with_reducible refine Kd.C_drewN ?_ _) | (with_reducible refine Kd.C_drew ?_))); (case side2 => exact HC0.out); rintro e w19 ⟨v1625, rfl, ho0, hb⟩; refine ⟨_, rfl, ?_⟩; have n0_ := Aside0.mk (Kd.R_elder' (by (with_reducible repeat (first | apply Kd.R_alloc | apply Kd.R_drewN | apply Kd.R_drew)); exact HO1620.out) (Kd.R_base ho0) hb); have n1_ := Aside0.mk (Kd.R_below (by (with_reducible repeat (first | apply Kd.R_alloc | apply Kd.R_drewN | apply Kd.R_drew)); exact HO1623.out) hb); have n2_ := Aside0.mk (Kd.R_lower (Kd.R_new' ho0 (Kd.R_lt (by (with_reducible repeat (first | apply Kd.R_alloc | apply Kd.R_drewN | apply Kd.R_drew)); exact HO1620.out))) (below_size (by repeat (first | (with_reducible first | exact HB.out | apply below_alloc | apply pw_below_drewN | apply below_drew1) | exact HB.out)))); have n3_ := Aside0.mk (below_step (by repeat (first | (with_reducible first | exact HB.out | apply below_alloc | apply pw_below_drewN | apply below_drew1) | exact HB.out)) hb); clear HO1620; clear HO1623; clear HB; have HO1620 := n0_; have HO1623 := n1_; have HO1626 := n2_; have HB := n3_; clear n0_ n1_ n2_ n3_; (try clear hb); (try clear hb2); (try clear hk); (try clear hi); (try clear ho0); obtain ⟨Ao20, co20, eo20⟩ := Kd.R_slice HO1626.out; subst eo20) | ((with_reducible refine gate_callee (f := 53) rfl ?_); refine goesL_ (some 26) rfl rfl Try.func53 (by kernel_rfl) rfl #[.slice Ao20 t1624.length co20, .int .i64 a1] rfl (by (try simp only [List.map_toArray, List.map_cons, List.map_nil]); first | done | rfl | (simp only [List.length_drop, List.length_take]; rfl)) ?_; (with_reducible refine (impl_SharesOf.calls k _ _ t1624 a1 t1627 _ ?side1 ?side2 A8.out).mono ?_); (case side1 => repeat (first | exact (Kd.R_reads' HO1626.out).2.2 | (with_reducible refine Kd.C_alloc ?_ _) | (with_reducible refine Kd.C_drewN ?_ _) | (with_reducible refine Kd.C_drew ?_))); (case side2 => exact (Kd.R_reads' HO1626.out).2.1); rintro e w21 ⟨v1628, rfl, ho0, hb⟩; refine ⟨_, rfl, ?_⟩; have n0_ := Aside0.mk (Kd.R_below (by (with_reducible repeat (first | apply Kd.R_alloc | apply Kd.R_drewN | apply Kd.R_drew)); exact HO1620.out) hb); have n1_ := Aside0.mk (Kd.R_elder' (by (with_reducible repeat (first | apply Kd.R_alloc | apply Kd.R_drewN | apply Kd.R_drew)); exact HO1623.out) (Kd.R_base ho0) hb); have n2_ := Aside0.mk (Kd.R_below (by (with_reducible repeat (first | apply Kd.R_alloc | apply Kd.R_drewN | apply Kd.R_drew)); exact HO1626.out) hb); have n3_ := Aside0.mk (Kd.R_lower (Kd.R_new' ho0 (Kd.R_lt (by (with_reducible repeat (first | apply Kd.R_alloc | apply Kd.R_drewN | apply Kd.R_drew)); exact HO1623.out))) (below_size (by repeat (first | (with_reducible first | exact HB.out | apply below_alloc | apply pw_below_drewN | apply below_drew1) | exact HB.out)))); have n4_ := Aside0.mk (below_step (by repeat (first | (with_reducible first | exact HB.out | apply below_alloc | apply pw_below_drewN | apply below_drew1) | exact HB.out)) hb); clear HO1620; clear HO1623; clear HO1626; clear HB; have HO1620 := n0_; have HO1623 := n1_; have HO1626 := n2_; have HO1629 := n3_; have HB := n4_; clear n0_ n1_ n2_ n3_ n4_; (try clear hb); (try clear hb2); (try clear hk); (try clear hi); (try clear ho0); obtain ⟨Ao22, co22, eo22⟩ := Kd.R_slice HO1629.out; subst eo22; obtain ⟨Ao23, co23, eo23⟩ := Kd.R_slice HO1623.out; subst eo23) | ((with_reducible refine gate_callee (f := 100) rfl ?_); refine goesL_ (some 29) rfl rfl Try.func100 (by kernel_rfl) rfl #[.slice Ao22 t1627.length co22, .slice Ao23 t1621.length co23] rfl (by (try simp only [List.map_toArray, List.map_cons, List.map_nil]); first | done | rfl | (simp only [List.length_drop, List.length_take]; rfl)) ?_; (with_reducible refine (laws_eqIntS.calls k _ _ t1627 _ _ t1621 true _ ?side1 ?side2 ?side3 ?side4 A9.out).mono ?_); (case side1 => repeat (first | exact (Kd.R_reads' HO1629.out).2.2 | (with_reducible refine Kd.C_alloc ?_ _) | (with_reducible refine Kd.C_drewN ?_ _) | (with_reducible refine Kd.C_drew ?_))); (case side2 => exact (Kd.R_reads' HO1629.out).2.1); (case side3 => repeat (first | exact (Kd.R_reads' HO1623.out).2.2 | (with_reducible refine Kd.C_alloc ?_ _) | (with_reducible refine Kd.C_drewN ?_ _) | (with_reducible refine Kd.C_drew ?_))); (case side4 => exact (Kd.R_reads' HO1623.out).2.1); rintro e w' ⟨rfl, ⟨nd, rfl⟩⟩; refine ⟨_, rfl, ?_⟩) | ((with_reducible refine gate_callee (f := 44) rfl ?_); refine goesL_ (some 33) rfl rfl Try.func44 (by kernel_rfl) rfl #[.slice A0 l0.length c0] rfl (by (try simp only [List.map_toArray, List.map_cons, List.map_nil]); first | done | rfl | (simp only [List.length_drop, List.length_take]; rfl)) ?_; (with_reducible refine (laws_toPartS.calls k _ _ l0 t1631 _ ?side1 ?side2 A11.out).mono ?_); (case side1 => repeat (first | exact (Kd.C_below HR0.out (by repeat (first | (with_reducible first | exact HB.out | apply below_alloc | apply pw_below_drewN | apply below_drew1) | exact HB.out))) | (with_reducible refine Kd.C_alloc ?_ _) | (with_reducible refine Kd.C_drewN ?_ _) | (with_reducible refine Kd.C_drew ?_))); (case side2 => exact HC0.out); rintro e w24 ⟨v1632, rfl, ho0, hb⟩; refine ⟨_, rfl, ?_⟩; have n0_ := Aside0.mk (Kd.R_elder' (by (with_reducible repeat (first | apply Kd.R_alloc | apply Kd.R_drewN | apply Kd.R_drew)); exact HO1620.out) (Kd.R_base ho0) hb); have n1_ := Aside0.mk (Kd.R_below (by (with_reducible repeat (first | apply Kd.R_alloc | apply Kd.R_drewN | apply Kd.R_drew)); exact HO1623.out) hb); have n2_ := Aside0.mk (Kd.R_elder' (by (with_reducible repeat (first | apply Kd.R_alloc | apply Kd.R_drewN | apply Kd.R_drew)); exact HO1626.out) (Kd.R_base ho0) hb); have n3_ := Aside0.mk (Kd.R_below (by (with_reducible repeat (first | apply Kd.R_alloc | apply Kd.R_drewN | apply Kd.R_drew)); exact HO1629.out) hb); have n4_ := Aside0.mk (Kd.R_lower (Kd.R_new' (Kd.R_new' ho0 (Kd.R_lt (by (with_reducible repeat (first | apply Kd.R_alloc | apply Kd.R_drewN | apply Kd.R_drew)); exact HO1620.out))) (Kd.R_lt (by (with_reducible repeat (first | apply Kd.R_alloc | apply Kd.R_drewN | apply Kd.R_drew)); exact HO1626.out))) (below_size (by repeat (first | (with_reducible first | exact HB.out | apply below_alloc | apply pw_below_drewN | apply below_drew1) | exact HB.out)))); have n5_ := Aside0.mk (below_step (by repeat (first | (with_reducible first | exact HB.out | apply below_alloc | apply pw_below_drewN | apply below_drew1) | exact HB.out)) hb); clear HO1620; clear HO1623; clear HO1626; clear HO1629; clear HB; have HO1620 := n0_; have HO1623 := n1_; have HO1626 := n2_; have HO1629 := n3_; have HO1633 := n4_; have HB := n5_; clear n0_ n1_ n2_ n3_ n4_ n5_; (try clear hb); (try clear hb2); (try clear hk); (try clear hi); (try clear ho0); obtain ⟨Ao25, co25, eo25⟩ := Kd.R_slice HO1633.out; subst eo25) | ((with_reducible refine gate_callee (f := 37) rfl ?_); refine goesL_ (some 34) rfl rfl Try.func37 (by kernel_rfl) rfl #[.slice Ao20 t1624.length co20, .slice Ao25 t1631.length co25] rfl (by (try simp only [List.map_toArray, List.map_cons, List.map_nil]); first | done | rfl | (simp only [List.length_drop, List.length_take]; rfl)) ?_; (with_reducible refine (laws_eqPartS.calls k _ _ t1624 _ _ t1631 true _ ?side1 ?side2 ?side3 ?side4 A12.out).mono ?_); (case side1 => repeat (first | exact (Kd.R_reads' HO1626.out).2.2 | (with_reducible refine Kd.C_alloc ?_ _) | (with_reducible refine Kd.C_drewN ?_ _) | (with_reducible refine Kd.C_drew ?_))); (case side2 => exact (Kd.R_reads' HO1626.out).2.1); (case side3 => repeat (first | exact (Kd.R_reads' HO1633.out).2.2 | (with_reducible refine Kd.C_alloc ?_ _) | (with_reducible refine Kd.C_drewN ?_ _) | (with_reducible refine Kd.C_drew ?_))); (case side4 => exact (Kd.R_reads' HO1633.out).2.1); rintro e w26 ⟨rfl, hb⟩; refine ⟨_, rfl, ?_⟩; have n0_ := Aside0.mk (Kd.R_below (by (with_reducible repeat (first | apply Kd.R_alloc | apply Kd.R_drewN | apply Kd.R_drew)); exact HO1620.out) hb); have n1_ := Aside0.mk (Kd.R_below (by (with_reducible repeat (first | apply Kd.R_alloc | apply Kd.R_drewN | apply Kd.R_drew)); exact HO1623.out) hb); have n2_ := Aside0.mk (Kd.R_below (by (with_reducible repeat (first | apply Kd.R_alloc | apply Kd.R_drewN | apply Kd.R_drew)); exact HO1626.out) hb); have n3_ := Aside0.mk (Kd.R_below (by (with_reducible repeat (first | apply Kd.R_alloc | apply Kd.R_drewN | apply Kd.R_drew)); exact HO1629.out) hb); have n4_ := Aside0.mk (Kd.R_below (by (with_reducible repeat (first | apply Kd.R_alloc | apply Kd.R_drewN | apply Kd.R_drew)); exact HO1633.out) hb); have n5_ := Aside0.mk (below_step (by repeat (first | (with_reducible first | exact HB.out | apply below_alloc | apply pw_below_drewN | apply below_drew1) | exact HB.out)) hb); clear HO1620; clear HO1623; clear HO1626; clear HO1629; clear HO1633; clear HB; have HO1620 := n0_; have HO1623 := n1_; have HO1626 := n2_; have HO1629 := n3_; have HO1633 := n4_; have HB := n5_; clear n0_ n1_ n2_ n3_ n4_ n5_; (try clear hb); (try clear hb2); (try clear hk); (try clear hi)) | ((with_reducible refine gate_callee (f := 38) rfl ?_); refine goesL_ (some 38) rfl rfl Try.func38 (by kernel_rfl) rfl #[.slice Ao20 t1624.length co20, .int .i64 1] rfl (by (try simp only [List.map_toArray, List.map_cons, List.map_nil]); first | done | rfl | (simp only [List.length_drop, List.length_take]; rfl)) ?_; (with_reducible refine (laws_markPartS.calls k (fun k_ => some k_ = (.slice Ao20 t1624.length co20 : Value).ownBlock) (.slice Ao20 t1624.length co20) t1624 1 t1635 t1636 w _ ?side1 ?side2 A14.out).mono ?_); (case side1 => repeat (first | (with_reducible first | exact HB.out | apply below_alloc | apply pw_below_drewN | apply below_drew1) | exact HB.out)); (case side2 => exact Kd.R_tight rfl HO1626.out); rintro e w27 ⟨rfl, hy0, hb, hkp⟩; refine ⟨_, rfl, ?_⟩; have n0_ := Aside0.mk (Kd.R_mono (ok' := fun k_ => some k_ ≠ (.slice Ao20 t1624.length co20 : Value).ownBlock ∧ some k_ ≠ (.slice Ao25 t1631.length co25 : Value).ownBlock) (Kd.R_keptB (HO1620.out) hkp (fun k_ hk_ hs_ => (hk_.1.2) hs_)) (fun k_ hk_ => ⟨hk_.1.1.2, hk_.1.2⟩)); have n1_ := Aside0.mk (Kd.R_mono (ok' := fun k_ => some k_ ≠ (.slice Ao22 t1627.length co22 : Value).ownBlock) (Kd.R_keptB ((Kd.R_apart' HO1623.out (Kd.R_typed HO1626.out) (by decide))) hkp (fun k_ hk_ hs_ => (hk_.2) hs_)) (fun k_ hk_ => hk_.1.1.2)); have n2_ := Aside0.mk (Kd.R_reok rfl hy0 (fun k_ e_ => HO1626.out.1 k_ e_)); have n3_ := Aside0.mk (Kd.R_mono (ok' := fun k_ => some k_ ≠ (.slice Ao23 t1621.length co23 : Value).ownBlock) (Kd.R_keptB ((Kd.R_apart' HO1629.out (Kd.R_typed HO1626.out) (by decide))) hkp (fun k_ hk_ hs_ => (hk_.2) hs_)) (fun k_ hk_ => hk_.1.1.2)); have n4_ := Aside0.mk (Kd.R_mono (ok' := fun k_ => some k_ ≠ (.slice Ao17 t1618.length co17 : Value).ownBlock ∧ some k_ ≠ (.slice Ao20 t1624.length co20 : Value).ownBlock) (Kd.R_keptB (HO1633.out) hkp (fun k_ hk_ hs_ => (hk_.2) hs_)) (fun k_ hk_ => ⟨hk_.1.1.2, hk_.1.2⟩)); have n5_ := Aside0.mk (hb); clear HO1620; clear HO1623; clear HO1626; clear HO1629; clear HO1633; clear HB; have HO1620 := n0_; have HO1623 := n1_; have HO1626 := n2_; have HO1629 := n3_; have HO1633 := n4_; have HB := n5_; clear n0_ n1_ n2_ n3_ n4_ n5_; (try clear hb); (try clear hkp); (try clear hy0)))
        (try simp only [Act.put, List.setIfInBounds_toArray, List.set_cons_zero, List.set_cons_succ])
        go_cut [46] (fun v46 wc => ∃ (kq : Nat) (x46_14 : Bool), v46 = .bool x46_14 ∧ Aside0 (laws_FnExactSharesOf.j0 kq l0 a1 t1621 t1627 x46_14 = some r) ∧ Aside0 (kq ≤ k) ∧ Aside0 (Kd.R (Kd.int .i64) 3 wc w.heap.size (fun k_ => some k_ ≠ ((.slice Ao22 t1627.length co22) : Value).ownBlock) (.slice Ao23 t1621.length co23) t1621) ∧ Aside0 (Kd.R (Kd.int .i64) 3 wc w.heap.size (fun k_ => some k_ ≠ ((.slice Ao23 t1621.length co23) : Value).ownBlock) (.slice Ao22 t1627.length co22) t1627) ∧ Aside0 (Below w.heap.size w wc))
        case first =>
          have H := HC15.out
          clear HC15
          by_cases c28 : t1635 < 0
          · rw [if_pos c28] at H
            have c28b0 : decide (t1635 < 0) = true := decide_eq_true c28
            clear c28
            (first | rw [c28b0] | (simp only [i64_w, i32_w]; rw [c28b0]) | skip)
            have H' := Aside0.mk H
            clear H
            go_wp2
            go_meet
            case rel => exact ⟨_, (true), (by first | rfl | (simp; done) | (simp [*]; done)), H', ⟨by first | omega | exact Nat.le_refl _⟩, ⟨by (with_reducible repeat (first | apply Kd.R_alloc | apply Kd.R_drewN | apply Kd.R_drew)); exact HO1623.out⟩, ⟨by (with_reducible repeat (first | apply Kd.R_alloc | apply Kd.R_drewN | apply Kd.R_drew)); exact HO1629.out⟩, ⟨by repeat (first | (with_reducible first | exact HB.out | apply below_alloc | apply pw_below_drewN | apply below_drew1) | exact HB.out)⟩⟩
          · rw [if_neg c28] at H
            have c28b0 : decide (t1635 < 0) = false := decide_eq_false c28
            clear c28
            (first | rw [c28b0] | (simp only [i64_w, i32_w]; rw [c28b0]) | skip)
            replace H := Option.bind_eq_some_iff.mp H
            obtain ⟨t1637, A290, H⟩ := H
            replace H : (laws_FnExactSharesOf.j0 k l0 a1 t1621 t1627 (!t1637)) = some r := H
            have A29 := Aside0.mk A290
            clear A290
            have H' := Aside0.mk H
            clear H
            go_wp2_with (first | (go_at_call 100; (with_reducible refine (laws_eqIntS.calls k _ _ t1627 _ _ t1621 t1637 _ ?side1 ?side2 ?side3 ?side4 A29.out).mono ?_); (case side1 => repeat (first | exact (Kd.R_reads' HO1629.out).2.2 | (with_reducible refine Kd.C_alloc ?_ _) | (with_reducible refine Kd.C_drewN ?_ _) | (with_reducible refine Kd.C_drew ?_))); (case side2 => exact (Kd.R_reads' HO1629.out).2.1); (case side3 => repeat (first | exact (Kd.R_reads' HO1623.out).2.2 | (with_reducible refine Kd.C_alloc ?_ _) | (with_reducible refine Kd.C_drewN ?_ _) | (with_reducible refine Kd.C_drew ?_))); (case side4 => exact (Kd.R_reads' HO1623.out).2.1); rintro e w' ⟨rfl, ⟨nd, rfl⟩⟩))
            go_meet
            case rel => exact ⟨_, (!t1637), (by first | rfl | (simp; done) | (simp [*]; done)), H', ⟨by first | omega | exact Nat.le_refl _⟩, ⟨by (with_reducible repeat (first | apply Kd.R_alloc | apply Kd.R_drewN | apply Kd.R_drew)); exact HO1623.out⟩, ⟨by (with_reducible repeat (first | apply Kd.R_alloc | apply Kd.R_drewN | apply Kd.R_drew)); exact HO1629.out⟩, ⟨by repeat (first | (with_reducible first | exact HB.out | apply below_alloc | apply pw_below_drewN | apply below_drew1) | exact HB.out)⟩⟩
        case rest =>
          clear HC15
          try clear c1
          try clear c2
          try clear p2
          try clear c3
          try clear c4
          try clear c4b0
          try clear c5
          try clear c9
          try clear c10
          try clear c13
          try clear c28
          try clear c28b0
          obtain ⟨kq, x46_14, rfl, HA, HJ14, HO_6, HO_8, HB⟩ := hcut
          cases kq with
          | zero => exact absurd HA.out (by simp [laws_FnExactSharesOf.j0])
          | succ kj14 =>
            have H := HA.out
            clear HA
            simp only [laws_FnExactSharesOf.j0] at H
            by_cases c30 : x46_14 = true
            · subst c30
              have H1 : (some false) = some r := by rw [if_pos rfl] at H; exact H
              clear H
              have H := H1
              clear H1
              exact absurd ((Option.some.inj H).trans hT.out) (by decide)
            · replace c30 := Bool.eq_false_iff.mpr c30
              subst c30
              have H1 : ((laws_markIntS.f kj14 t1627 1).bind fun bt1638 => ((laws_heldIntS.f kj14 bt1638.2 1).bind fun t1640 => (if t1640 < 0 then (some false) else (if t1640 = bt1638.1 then ((laws_toPartS.f kj14 l0).bind fun t1641 => ((impl_SharesOf.f kj14 t1641 a1).bind fun t1644 => ((laws_eqIntS.f kj14 t1644 t1621).bind fun t1647 => (if t1647 = true then ((laws_heldIntS.f kj14 bt1638.2 1).bind fun t1648 => (if t1648 < 0 then (some false) else (if t1648 = bt1638.1 then (some true) else (some false)))) else (some false))))) else (some false))))) = some r := by rw [if_neg (show ¬ (false = true) by decide)] at H; exact H
              clear H
              have H := H1
              clear H1
              replace H := Option.bind_eq_some_iff.mp H
              obtain ⟨⟨t1638, t1639⟩, A310, H⟩ := H
              replace H : ((laws_heldIntS.f kj14 t1639 1).bind fun t1640 => (if t1640 < 0 then (some false) else (if t1640 = t1638 then ((laws_toPartS.f kj14 l0).bind fun t1641 => ((impl_SharesOf.f kj14 t1641 a1).bind fun t1644 => ((laws_eqIntS.f kj14 t1644 t1621).bind fun t1647 => (if t1647 = true then ((laws_heldIntS.f kj14 t1639 1).bind fun t1648 => (if t1648 < 0 then (some false) else (if t1648 = t1638 then (some true) else (some false)))) else (some false))))) else (some false)))) = some r := H
              have A31 := Aside0.mk A310
              clear A310
              replace H := Option.bind_eq_some_iff.mp H
              obtain ⟨t1640, A320, H⟩ := H
              replace H : (if t1640 < 0 then (some false) else (if t1640 = t1638 then ((laws_toPartS.f kj14 l0).bind fun t1641 => ((impl_SharesOf.f kj14 t1641 a1).bind fun t1644 => ((laws_eqIntS.f kj14 t1644 t1621).bind fun t1647 => (if t1647 = true then ((laws_heldIntS.f kj14 t1639 1).bind fun t1648 => (if t1648 < 0 then (some false) else (if t1648 = t1638 then (some true) else (some false)))) else (some false))))) else (some false))) = some r := H
              have A32 := Aside0.mk A320
              clear A320
              by_cases c33 : t1640 < 0
              · rw [if_pos c33] at H
                have c33b0 : decide (t1640 < 0) = true := decide_eq_true c33
                clear c33
                exact absurd ((Option.some.inj H).trans hT.out) (by decide)
              · rw [if_neg c33] at H
                have c33b0 : decide (t1640 < 0) = false := decide_eq_false c33
                clear c33
                by_cases c34 : t1640 = t1638
                · rw [if_pos c34] at H
                  have c34b0 : (t1640 == t1638) = true := beq_iff_eq.mpr c34
                  have c34b1 : (t1640 != t1638) = false := bne_eq_false_iff_eq.mpr c34
                  clear c34
                  replace H := Option.bind_eq_some_iff.mp H
                  obtain ⟨t1641, A350, H⟩ := H
                  replace H : ((impl_SharesOf.f kj14 t1641 a1).bind fun t1644 => ((laws_eqIntS.f kj14 t1644 t1621).bind fun t1647 => (if t1647 = true then ((laws_heldIntS.f kj14 t1639 1).bind fun t1648 => (if t1648 < 0 then (some false) else (if t1648 = t1638 then (some true) else (some false)))) else (some false)))) = some r := H
                  have A35 := Aside0.mk A350
                  clear A350
                  replace H := Option.bind_eq_some_iff.mp H
                  obtain ⟨t1644, A360, H⟩ := H
                  replace H : ((laws_eqIntS.f kj14 t1644 t1621).bind fun t1647 => (if t1647 = true then ((laws_heldIntS.f kj14 t1639 1).bind fun t1648 => (if t1648 < 0 then (some false) else (if t1648 = t1638 then (some true) else (some false)))) else (some false))) = some r := H
                  have A36 := Aside0.mk A360
                  clear A360
                  replace H := Option.bind_eq_some_iff.mp H
                  obtain ⟨t1647, A370, H⟩ := H
                  replace H : (if t1647 = true then ((laws_heldIntS.f kj14 t1639 1).bind fun t1648 => (if t1648 < 0 then (some false) else (if t1648 = t1638 then (some true) else (some false)))) else (some false)) = some r := H
                  have A37 := Aside0.mk A370
                  clear A370
                  by_cases c38 : t1647 = true
                  · subst c38
                    have H1 : ((laws_heldIntS.f kj14 t1639 1).bind fun t1648 => (if t1648 < 0 then (some false) else (if t1648 = t1638 then (some true) else (some false)))) = some r := by rw [if_pos rfl] at H; exact H
                    clear H
                    have H := H1
                    clear H1
                    replace H := Option.bind_eq_some_iff.mp H
                    obtain ⟨t1648, A390, H⟩ := H
                    replace H : (if t1648 < 0 then (some false) else (if t1648 = t1638 then (some true) else (some false))) = some r := H
                    have A39 := Aside0.mk A390
                    clear A390
                    by_cases c40 : t1648 < 0
                    · rw [if_pos c40] at H
                      have c40b0 : decide (t1648 < 0) = true := decide_eq_true c40
                      clear c40
                      exact absurd ((Option.some.inj H).trans hT.out) (by decide)
                    · rw [if_neg c40] at H
                      have c40b0 : decide (t1648 < 0) = false := decide_eq_false c40
                      clear c40
                      by_cases c41 : t1648 = t1638
                      · rw [if_pos c41] at H
                        have c41b0 : (t1648 == t1638) = true := beq_iff_eq.mpr c41
                        have c41b1 : (t1648 != t1638) = false := bne_eq_false_iff_eq.mpr c41
                        clear c41
                        obtain rfl := Option.some.inj H
                        go_wp2_with (first | ((with_reducible refine gate_callee (f := 101) rfl ?_); refine goesL_ (some 49) rfl rfl Try.func101 (by kernel_rfl) rfl #[.slice Ao22 t1627.length co22, .int .i64 1] rfl (by (try simp only [List.map_toArray, List.map_cons, List.map_nil]); first | done | rfl | (simp only [List.length_drop, List.length_take]; rfl)) ?_; (with_reducible refine (laws_markIntS.calls kj14 (fun k_ => some k_ = (.slice Ao22 t1627.length co22 : Value).ownBlock) (.slice Ao22 t1627.length co22) t1627 1 t1638 t1639 w _ ?side1 ?side2 A31.out).mono ?_); (case side1 => repeat (first | (with_reducible first | exact HB.out | apply below_alloc | apply pw_below_drewN | apply below_drew1) | exact HB.out)); (case side2 => exact Kd.R_tight rfl HO_8.out); rintro e w42 ⟨rfl, hy0, hb, hkp⟩; refine ⟨_, rfl, ?_⟩; have n0_ := Aside0.mk (Kd.R_mono (ok' := fun k_ => some k_ ≠ (.slice Ao22 t1627.length co22 : Value).ownBlock) (Kd.R_keptB (HO_6.out) hkp (fun k_ hk_ hs_ => (hk_) hs_)) (fun k_ hk_ => hk_.1)); have n1_ := Aside0.mk (Kd.R_reok rfl hy0 (fun k_ e_ => HO_8.out.1 k_ e_)); have n2_ := Aside0.mk (hb); clear HO_6; clear HO_8; clear HB; have HO_6 := n0_; have HO_8 := n1_; have HB := n2_; clear n0_ n1_ n2_; (try clear hb); (try clear hkp); (try clear hy0)) | ((with_reducible refine gate_callee (f := 102) rfl ?_); refine goesL_ (some 52) rfl rfl Try.func102 (by kernel_rfl) rfl #[.slice Ao22 t1639.length co22, .int .i64 1] rfl (by (try simp only [List.map_toArray, List.map_cons, List.map_nil]); first | done | (rw [show t1639.length = t1627.length from (Kd.R_reads' HO_8.out).1.symm] <;> rfl) | rfl | (simp only [List.length_drop, List.length_take]; rfl)) ?_; (with_reducible refine (laws_heldIntS.calls kj14 _ _ t1639 1 t1640 _ ?side1 ?side2 A32.out).mono ?_); (case side1 => repeat (first | exact (Kd.R_reads' HO_8.out).2.2 | (with_reducible refine Kd.C_alloc ?_ _) | (with_reducible refine Kd.C_drewN ?_ _) | (with_reducible refine Kd.C_drew ?_))); (case side2 => rw [show t1639.length = t1627.length from (Kd.R_reads' HO_8.out).1.symm]; exact (Kd.R_reads' HO_8.out).2.1); rintro e w' ⟨rfl, ⟨nd, rfl⟩⟩; refine ⟨_, rfl, ?_⟩) | ((with_reducible refine gate_callee (f := 44) rfl ?_); refine goesL_ (some 59) rfl rfl Try.func44 (by kernel_rfl) rfl #[.slice A0 l0.length c0] rfl (by (try simp only [List.map_toArray, List.map_cons, List.map_nil]); first | done | rfl | (simp only [List.length_drop, List.length_take]; rfl)) ?_; (with_reducible refine (laws_toPartS.calls kj14 _ _ l0 t1641 _ ?side1 ?side2 A35.out).mono ?_); (case side1 => repeat (first | exact (Kd.C_below HR0.out (by repeat (first | (with_reducible first | exact HB.out | apply below_alloc | apply pw_below_drewN | apply below_drew1) | exact HB.out))) | (with_reducible refine Kd.C_alloc ?_ _) | (with_reducible refine Kd.C_drewN ?_ _) | (with_reducible refine Kd.C_drew ?_))); (case side2 => exact HC0.out); rintro e w43 ⟨v1642, rfl, ho0, hb⟩; refine ⟨_, rfl, ?_⟩; have n0_ := Aside0.mk (Kd.R_below (by (with_reducible repeat (first | apply Kd.R_alloc | apply Kd.R_drewN | apply Kd.R_drew)); exact HO_6.out) hb); have n1_ := Aside0.mk (Kd.R_below (by (with_reducible repeat (first | apply Kd.R_alloc | apply Kd.R_drewN | apply Kd.R_drew)); exact HO_8.out) hb); have n2_ := Aside0.mk (Kd.R_lower ho0 (below_size (by repeat (first | (with_reducible first | exact HB.out | apply below_alloc | apply pw_below_drewN | apply below_drew1) | exact HB.out)))); have n3_ := Aside0.mk (below_step (by repeat (first | (with_reducible first | exact HB.out | apply below_alloc | apply pw_below_drewN | apply below_drew1) | exact HB.out)) hb); clear HO_6; clear HO_8; clear HB; have HO_6 := n0_; have HO_8 := n1_; have HO1643 := n2_; have HB := n3_; clear n0_ n1_ n2_ n3_; (try clear hb); (try clear hb2); (try clear hk); (try clear hi); (try clear ho0); obtain ⟨Ao44, co44, eo44⟩ := Kd.R_slice HO1643.out; subst eo44) | ((with_reducible refine gate_callee (f := 53) rfl ?_); refine goesL_ (some 61) rfl rfl Try.func53 (by kernel_rfl) rfl #[.slice Ao44 t1641.length co44, .int .i64 a1] rfl (by (try simp only [List.map_toArray, List.map_cons, List.map_nil]); first | done | rfl | (simp only [List.length_drop, List.length_take]; rfl)) ?_; (with_reducible refine (impl_SharesOf.calls kj14 _ _ t1641 a1 t1644 _ ?side1 ?side2 A36.out).mono ?_); (case side1 => repeat (first | exact (Kd.R_reads' HO1643.out).2.2 | (with_reducible refine Kd.C_alloc ?_ _) | (with_reducible refine Kd.C_drewN ?_ _) | (with_reducible refine Kd.C_drew ?_))); (case side2 => exact (Kd.R_reads' HO1643.out).2.1); rintro e w45 ⟨v1645, rfl, ho0, hb⟩; refine ⟨_, rfl, ?_⟩; have n0_ := Aside0.mk (Kd.R_elder' (by (with_reducible repeat (first | apply Kd.R_alloc | apply Kd.R_drewN | apply Kd.R_drew)); exact HO_6.out) (Kd.R_base ho0) hb); have n1_ := Aside0.mk (Kd.R_elder' (by (with_reducible repeat (first | apply Kd.R_alloc | apply Kd.R_drewN | apply Kd.R_drew)); exact HO_8.out) (Kd.R_base ho0) hb); have n2_ := Aside0.mk (Kd.R_below (by (with_reducible repeat (first | apply Kd.R_alloc | apply Kd.R_drewN | apply Kd.R_drew)); exact HO1643.out) hb); have n3_ := Aside0.mk (Kd.R_lower (Kd.R_new' (Kd.R_new' ho0 (Kd.R_lt (by (with_reducible repeat (first | apply Kd.R_alloc | apply Kd.R_drewN | apply Kd.R_drew)); exact HO_6.out))) (Kd.R_lt (by (with_reducible repeat (first | apply Kd.R_alloc | apply Kd.R_drewN | apply Kd.R_drew)); exact HO_8.out))) (below_size (by repeat (first | (with_reducible first | exact HB.out | apply below_alloc | apply pw_below_drewN | apply below_drew1) | exact HB.out)))); have n4_ := Aside0.mk (below_step (by repeat (first | (with_reducible first | exact HB.out | apply below_alloc | apply pw_below_drewN | apply below_drew1) | exact HB.out)) hb); clear HO_6; clear HO_8; clear HO1643; clear HB; have HO_6 := n0_; have HO_8 := n1_; have HO1643 := n2_; have HO1646 := n3_; have HB := n4_; clear n0_ n1_ n2_ n3_ n4_; (try clear hb); (try clear hb2); (try clear hk); (try clear hi); (try clear ho0); obtain ⟨Ao46, co46, eo46⟩ := Kd.R_slice HO1646.out; subst eo46) | ((with_reducible refine gate_callee (f := 100) rfl ?_); refine goesL_ (some 64) rfl rfl Try.func100 (by kernel_rfl) rfl #[.slice Ao46 t1644.length co46, .slice Ao23 t1621.length co23] rfl (by (try simp only [List.map_toArray, List.map_cons, List.map_nil]); first | done | rfl | (simp only [List.length_drop, List.length_take]; rfl)) ?_; (with_reducible refine (laws_eqIntS.calls kj14 _ _ t1644 _ _ t1621 true _ ?side1 ?side2 ?side3 ?side4 A37.out).mono ?_); (case side1 => repeat (first | exact (Kd.R_reads' HO1646.out).2.2 | (with_reducible refine Kd.C_alloc ?_ _) | (with_reducible refine Kd.C_drewN ?_ _) | (with_reducible refine Kd.C_drew ?_))); (case side2 => exact (Kd.R_reads' HO1646.out).2.1); (case side3 => repeat (first | exact (Kd.R_reads' HO_6.out).2.2 | (with_reducible refine Kd.C_alloc ?_ _) | (with_reducible refine Kd.C_drewN ?_ _) | (with_reducible refine Kd.C_drew ?_))); (case side4 => exact (Kd.R_reads' HO_6.out).2.1); rintro e w' ⟨rfl, ⟨nd, rfl⟩⟩; refine ⟨_, rfl, ?_⟩) | ((with_reducible refine gate_callee (f := 102) rfl ?_); refine goesL_ (some 68) rfl rfl Try.func102 (by kernel_rfl) rfl #[.slice Ao22 t1639.length co22, .int .i64 1] rfl (by (try simp only [List.map_toArray, List.map_cons, List.map_nil]); first | done | (rw [show t1639.length = t1627.length from (Kd.R_reads' HO_8.out).1.symm] <;> rfl) | rfl | (simp only [List.length_drop, List.length_take]; rfl)) ?_; (with_reducible refine (laws_heldIntS.calls kj14 _ _ t1639 1 t1648 _ ?side1 ?side2 A39.out).mono ?_); (case side1 => repeat (first | exact (Kd.R_reads' HO_8.out).2.2 | (with_reducible refine Kd.C_alloc ?_ _) | (with_reducible refine Kd.C_drewN ?_ _) | (with_reducible refine Kd.C_drew ?_))); (case side2 => rw [show t1639.length = t1627.length from (Kd.R_reads' HO_8.out).1.symm]; exact (Kd.R_reads' HO_8.out).2.1); rintro e w' ⟨rfl, ⟨nd, rfl⟩⟩; refine ⟨_, rfl, ?_⟩))
                        go_ret
                        exact ⟨by first | rfl | (simp [errW_none, errW_some] <;> rfl) | (simp [*, errW_none, errW_some] <;> rfl), by repeat (first | (with_reducible first | exact HB.out | apply below_alloc | apply pw_below_drewN | apply below_drew1) | exact HB.out)⟩
                      · rw [if_neg c41] at H
                        have c41b0 : (t1648 == t1638) = false := beq_eq_false_iff_ne.mpr c41
                        have c41b1 : (t1648 != t1638) = true := bne_iff_ne.mpr c41
                        exact absurd ((Option.some.inj H).trans hT.out) (by decide)
                  · replace c38 := Bool.eq_false_iff.mpr c38
                    subst c38
                    have H1 : (some false) = some r := by rw [if_neg (show ¬ (false = true) by decide)] at H; exact H
                    clear H
                    have H := H1
                    clear H1
                    exact absurd ((Option.some.inj H).trans hT.out) (by decide)
                · rw [if_neg c34] at H
                  have c34b0 : (t1640 == t1638) = false := beq_eq_false_iff_ne.mpr c34
                  have c34b1 : (t1640 != t1638) = true := bne_iff_ne.mpr c34
                  exact absurd ((Option.some.inj H).trans hT.out) (by decide)
      · replace c13 := Bool.eq_false_iff.mpr c13
        subst c13
        have H1 : (some false) = some r := by rw [if_neg (show ¬ (false = true) by decide)] at H; exact H
        clear H
        have H := H1
        clear H1
        exact absurd ((Option.some.inj H).trans hT.out) (by decide)
    · replace c10 := Bool.eq_false_iff.mpr c10
      subst c10
      have H1 : (some false) = some r := by rw [if_neg (show ¬ (false = true) by decide)] at H; exact H
      clear H
      have H := H1
      clear H1
      exact absurd ((Option.some.inj H).trans hT.out) (by decide)

end Go.Proofs.Ytbgbbfdmgpcgmaa.P
