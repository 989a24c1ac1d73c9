/- The law FnExactSteinKernel: the program's SteinKernel answers what the reference's answers. -/
import Derived.Test.YtbgbbfdmgpcgmaaFimplSteinKernel
import Derived.Test.YtbgbbfdmgpcgmaaFlawsFnExactSteinKernel
import Derived.Test.YtbgbbfdmgpcgmaaFlawseqPart
import Derived.Test.YtbgbbfdmgpcgmaaFlawseqPartS
import Derived.Test.YtbgbbfdmgpcgmaaFlawsheldPartS
import Derived.Test.YtbgbbfdmgpcgmaaFlawsmarkPartS
import Derived.Test.YtbgbbfdmgpcgmaaFspecSteinKernel
import Derived.Test.YtbgbbfdmgpcgmaaP0
namespace Go.Proofs.Ytbgbbfdmgpcgmaa.Q
open Go.RowKit Go.Proofs.Ytbgbbfdmgpcgmaa.P Go.Proofs.YtbgbbfdmgpcgmaaW.PrintWords
set_option linter.unusedVariables false
set_option linter.unusedSimpArgs false
theorem wsucc (i : Nat) (h : i < 9223372036854775807) : wrap64 ((i : Int) + 1) = ((i + 1 : Nat) : Int) := by unfold wrap64; omega
theorem wid (x : Int) (h0 : -9223372036854775808 ≤ x) (h1 : x ≤ 9223372036854775807) : wrap64 x = x := by unfold wrap64; omega
theorem getD_of_lt {α : Type} (l : List α) (d : α) (i : Nat) (h : i < l.length) : l.getD i d = l[i] := by simp [List.getD_eq_getElem?_getD, List.getElem?_eq_getElem h]
theorem Ev_pos {α : Type} {c : Prop} [Decidable c] {f g : Nat → Option α} {r : α} (hc : c) (h : Ev f r) : Ev (fun k => if c then f k else g k) r := Ev.congr (fun k => if_pos hc) h
theorem Ev_neg {α : Type} {c : Prop} [Decidable c] {f g : Nat → Option α} {r : α} (hc : ¬ c) (h : Ev g r) : Ev (fun k => if c then f k else g k) r := Ev.congr (fun k => if_neg hc) h
theorem set_mid {α : Type} (a b : List α) (y x : α) (i : Nat) (h : a.length = i) : (a ++ y :: b).set i x = a ++ x :: b := by
  subst h
  rw [List.set_append_right _ _ (Nat.le_refl _)]
  simp
theorem getD_mid {α : Type} (a b : List α) (y d : α) (i : Nat) (h : a.length = i) : (a ++ y :: b).getD i d = y := by
  subst h
  simp [List.getD_eq_getElem?_getD]
theorem rdP_nat (l : List S47) (i : Nat) (h : i < l.length) : rd_T47 l (i : Int) = l[i] := by
  unfold rd_T47
  rw [Int.toNat_natCast, getD_of_lt l _ i h]
theorem eqPartS_self (l : List S47) (hl : l.length ≤ 1048576) : Ev (fun k => laws_eqPartS.f k l l) true := by
  have key : ∀ d i : Nat, i + d = l.length → Ev (fun k => laws_eqPartS.l0 k l l (i : Int)) true := by
    intro d
    induction d with
    | zero =>
      intro i hi
      refine Ev.step (f := fun _ => some true) (fun k => ?_) (Ev.now _)
      simp only [laws_eqPartS.l0]
      rw [if_neg (by omega)]
    | succ d ih =>
      intro i hi
      refine Ev.step (fun k => ?_) (ih (i + 1) (by omega))
      simp only [laws_eqPartS.l0, laws_eqPart.f, if_true]
      rw [if_pos (by omega), if_pos (by omega), if_pos (by omega), Option.bind_some, if_pos rfl, wsucc i (by omega)]
  unfold laws_eqPartS.f
  exact Ev_pos rfl (key l.length 0 (by omega))
def markP (x : Int) (j : Nat) : S47 := ⟨x + 3 * (j : Int), x + 3 * (j : Int) + 1, x + 3 * (j : Int) + 2⟩
def marksP (n : Nat) (x : Int) : List S47 := (List.range n).map (markP x)
theorem marksP_len (n : Nat) (x : Int) : (marksP n x).length = n := by simp [marksP]
theorem marksP_succ (n : Nat) (x : Int) : marksP (n + 1) x = marksP n x ++ [markP x n] := by
  unfold marksP
  rw [List.range_succ, List.map_append]
  rfl
theorem rdP_mid (a b : List S47) (y : S47) (i : Nat) (h : a.length = i) : rd_T47 (a ++ y :: b) (i : Int) = y := by
  unfold rd_T47
  rw [Int.toNat_natCast, getD_mid a b y _ i h]
theorem markPartS_ev (l : List S47) (x : Int) (hl : l.length ≤ 1048576) (h0 : 0 ≤ x) (h1 : x ≤ 1073741824) : Ev (fun k => laws_markPartS.f k l x) (x + 3 * (l.length : Int), marksP l.length x) := by
  have key : ∀ d i : Nat, i + d = l.length → Ev (fun k => laws_markPartS.l0 k (marksP i x ++ l.drop i) (x + 3 * (i : Int)) (i : Int)) (x + 3 * (l.length : Int), marksP l.length x) := by
    intro d
    induction d with
    | zero =>
      intro i hi
      obtain rfl : i = l.length := by omega
      refine Ev.step (f := fun _ => some (x + 3 * (l.length : Int), marksP l.length x)) (fun k => ?_) (Ev.now _)
      simp only [laws_markPartS.l0]
      rw [List.drop_length, List.append_nil, if_neg (by rw [marksP_len]; omega)]
    | succ d ih =>
      intro i hi
      have hi' : i < l.length := by omega
      refine Ev.step (fun k => ?_) (ih (i + 1) (by omega))
      simp only [laws_markPartS.l0]
      rw [List.drop_eq_getElem_cons hi']
      have hm := marksP_len i x
      rw [if_pos (by rw [List.length_append, hm, List.length_cons, List.length_drop]; omega), if_pos (by omega), Option.bind_some, Int.toNat_natCast, rdP_mid _ _ _ _ hm, set_mid _ _ _ _ _ hm, Option.bind_some, rdP_mid _ _ _ _ hm, set_mid _ _ _ _ _ hm, rdP_mid _ _ _ _ hm, set_mid _ _ _ _ _ hm, wsucc i (by omega), marksP_succ, List.append_assoc]
      rw [wid (x + 3 * (i : Int) + 1) (by omega) (by omega), wid (x + 3 * (i : Int) + 1 + 1) (by omega) (by omega), wid (x + 3 * (i : Int) + 1 + 1 + 1) (by omega) (by omega)]
      rw [show x + 3 * (i : Int) + 1 + 1 + 1 = x + 3 * ((i + 1 : Nat) : Int) by omega, show x + 3 * (i : Int) + 1 + 1 = x + 3 * (i : Int) + 2 by omega]
      rfl
  refine Ev.congr (fun k => ?_) (key l.length 0 (by omega))
  unfold laws_markPartS.f
  simp [marksP]
theorem heldPartS_ev (n : Nat) (x : Int) (hl : n ≤ 1048576) (h0 : 0 ≤ x) (h1 : x ≤ 1073741824) : Ev (fun k => laws_heldPartS.f k (marksP n x) x) (x + 3 * (n : Int)) := by
  have key : ∀ d i : Nat, i + d = n → Ev (fun k => laws_heldPartS.l0 k (marksP n x) (x + 3 * (i : Int)) (i : Int)) (x + 3 * (n : Int)) := by
    intro d
    induction d with
    | zero =>
      intro i hi
      obtain rfl : i = n := by omega
      refine Ev.step (f := fun _ => some (x + 3 * (i : Int))) (fun k => ?_) (Ev.now _)
      simp only [laws_heldPartS.l0]
      rw [marksP_len, if_neg (by omega)]
    | succ d ih =>
      intro i hi
      refine Ev.step (fun k => ?_) (ih (i + 1) (by omega))
      simp only [laws_heldPartS.l0]
      have hr : rd_T47 (marksP n x) (i : Int) = markP x i := by
        rw [rdP_nat _ _ (by rw [marksP_len]; omega)]
        simp [marksP]
      rw [marksP_len, if_pos (by omega), if_pos (by omega), hr, wid (x + 3 * (i : Int) + 1) (by omega) (by omega), wid (x + 3 * (i : Int) + 1 + 1) (by omega) (by omega), wid (x + 3 * (i : Int) + 1 + 1 + 1) (by omega) (by omega)]
      unfold markP
      rw [if_pos rfl, if_pos rfl, if_pos (by show x + 3 * (i : Int) + 2 = _; omega), wsucc i (by omega), show x + 3 * (i : Int) + 1 + 1 + 1 = x + 3 * ((i + 1 : Nat) : Int) by omega]
  refine Ev.congr (fun k => ?_) (key n 0 (by omega))
  unfold laws_heldPartS.f
  simp
theorem SteinKernel_same : ∃ r : List S47, r.length ≤ 1048576 ∧ Ev (fun _ => spec_SteinKernel.f) r ∧ Ev (fun _ => impl_SteinKernel.f) r := ⟨_, by simp, Ev.now _, Ev.now _⟩
/-- The law FnExactSteinKernel: the program's SteinKernel answers what the reference's answers. -/
theorem FnExactSteinKernel :
    ∃ k, P.laws_FnExactSteinKernel.f k  = some true := by
  refine Ev.rounds ?_
  unfold laws_FnExactSteinKernel.f
  obtain ⟨r, HL, HS, HI⟩ := SteinKernel_same  
  repeat (first
    | exact Ev.now _
    | (refine Ev.bind HS ?_; try dsimp only)
    | (refine Ev.bind HI ?_; try dsimp only)
    | (refine Ev.bind (eqPartS_self _ (by first | assumption | omega | (rw [List.length_map]; omega))) ?_; try dsimp only)
    | (refine Ev.bind (markPartS_ev _ 1 (by first | assumption | omega | (rw [List.length_map]; omega)) (by omega) (by omega)) ?_; try dsimp only)
    | (refine Ev.bind (heldPartS_ev _ 1 (by first | assumption | omega | (rw [List.length_map]; omega)) (by omega) (by omega)) ?_; try dsimp only)
    | (refine Ev_pos (by first | rfl | omega) ?_)
    | (refine Ev_neg (by first | omega | simp) ?_))
end Go.Proofs.Ytbgbbfdmgpcgmaa.Q
