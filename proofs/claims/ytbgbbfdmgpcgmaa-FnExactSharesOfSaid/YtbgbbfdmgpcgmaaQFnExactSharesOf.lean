/- The law FnExactSharesOf: the program's SharesOf answers what the reference's answers. -/
import Derived.Test.YtbgbbfdmgpcgmaaFimplIsKernel
import Derived.Test.YtbgbbfdmgpcgmaaFimplSharesOf
import Derived.Test.YtbgbbfdmgpcgmaaFimpldown
import Derived.Test.YtbgbbfdmgpcgmaaFimplmod
import Derived.Test.YtbgbbfdmgpcgmaaFimplshares
import Derived.Test.YtbgbbfdmgpcgmaaFimplweight
import Derived.Test.YtbgbbfdmgpcgmaaFlawsFnExactSharesOf
import Derived.Test.YtbgbbfdmgpcgmaaFlawseqIntS
import Derived.Test.YtbgbbfdmgpcgmaaFlawseqPart
import Derived.Test.YtbgbbfdmgpcgmaaFlawseqPartS
import Derived.Test.YtbgbbfdmgpcgmaaFlawsheldIntS
import Derived.Test.YtbgbbfdmgpcgmaaFlawsmarkIntS
import Derived.Test.YtbgbbfdmgpcgmaaFlawsmarkPartS
import Derived.Test.YtbgbbfdmgpcgmaaFlawsszPartS
import Derived.Test.YtbgbbfdmgpcgmaaFlawstoPart
import Derived.Test.YtbgbbfdmgpcgmaaFlawstoPartS
import Derived.Test.YtbgbbfdmgpcgmaaFspecIsKernel
import Derived.Test.YtbgbbfdmgpcgmaaFspecSharesOf
import Derived.Test.YtbgbbfdmgpcgmaaFspecWeightOf
import Derived.Test.YtbgbbfdmgpcgmaaFspecl1In
import Derived.Test.YtbgbbfdmgpcgmaaFspecl2Mod
import Derived.Test.YtbgbbfdmgpcgmaaFspecl4Shares
import Derived.Test.YtbgbbfdmgpcgmaaP0
namespace Go.Proofs.Ytbgbbfdmgpcgmaa.Q
open Go.RowKit Go.Proofs.Ytbgbbfdmgpcgmaa.P Go.Proofs.YtbgbbfdmgpcgmaaW.PrintWords
set_option linter.unusedVariables false
set_option linter.unusedSimpArgs false
theorem wsucc (i : Nat) (h : i < 9223372036854775807) : wrap64 ((i : Int) + 1) = ((i + 1 : Nat) : Int) := by unfold wrap64; omega
theorem wid (x : Int) (h0 : -9223372036854775808 ≤ x) (h1 : x ≤ 9223372036854775807) : wrap64 x = x := by unfold wrap64; omega
theorem rd_nat (l : List Int) (i : Nat) : rd l (i : Int) = l.getD i 0 := by unfold rd; rw [Int.toNat_natCast]
theorem getD_of_lt {α : Type} (l : List α) (d : α) (i : Nat) (h : i < l.length) : l.getD i d = l[i] := by simp [List.getD_eq_getElem?_getD, List.getElem?_eq_getElem h]
theorem ext_getD {a b : List Int} (hl : a.length = b.length) (h : ∀ i, i < a.length → a.getD i 0 = b.getD i 0) : a = b := by
  apply List.ext_getElem hl
  intro i h1 h2
  have := h i h1
  rwa [getD_of_lt a 0 i h1, getD_of_lt b 0 i h2] at this
theorem getD_set (l : List Int) (i j : Nat) (x : Int) (hi : i < l.length) : (l.set i x).getD j 0 = if j = i then x else l.getD j 0 := by
  simp only [List.getD_eq_getElem?_getD, List.getElem?_set]
  by_cases h : i = j
  · subst h; simp [hi]
  · rw [if_neg h, if_neg (fun e => h e.symm)]
theorem getD_tab (n : Nat) (f : Nat → Int) (j : Nat) (h : j < n) : ((List.range n).map f).getD j 0 = f j := by
  simp [List.getD_eq_getElem?_getD, List.getElem?_map, List.getElem?_range h]
theorem len_tab (n : Nat) (f : Nat → Int) : ((List.range n).map f).length = n := by simp
theorem tab_congr (n : Nat) (f g : Nat → Int) (h : ∀ i, i < n → f i = g i) : (List.range n).map f = (List.range n).map g :=
  List.map_congr_left (fun i hi => h i (List.mem_range.1 hi))
theorem tab_self (l : List Int) : (List.range l.length).map (fun i => l.getD i 0) = l := by
  apply ext_getD (by simp)
  intro i hi
  rw [len_tab] at hi
  rw [getD_tab _ _ _ hi]
theorem foldl_add (l : List Int) (a : Int) : l.foldl (· + ·) a = a + l.foldl (· + ·) 0 := by
  induction l generalizing a with
  | nil => simp
  | cons x r ih => simp only [List.foldl_cons]; rw [ih (a + x), ih (0 + x)]; omega
def sumL (l : List Int) : Int := l.foldl (· + ·) 0
theorem sumL_append (a b : List Int) : sumL (a ++ b) = sumL a + sumL b := by unfold sumL; rw [List.foldl_append, foldl_add]
theorem sumL_one (x : Int) : sumL [x] = x := by simp [sumL]
/-! The laws' own helpers. -/
def szI (n : Nat) (left : Int) : Int := if left - (n : Int) < 0 then -1 else left - (n : Int)
theorem eqIntS_ev (a b : List Int) (ha : a.length ≤ 1048576) : Ev (fun k => laws_eqIntS.f k a b) (decide (a = b)) := by
  by_cases hl : a.length = b.length
  · have key : ∀ d i : Nat, i + d = a.length → (∀ j, j < i → a.getD j 0 = b.getD j 0) → Ev (fun k => laws_eqIntS.l0 k a b (i : Int)) (decide (a = b)) := by
      intro d
      induction d with
      | zero =>
        intro i hi hj
        have : a = b := ext_getD hl (fun j h => hj j (by omega))
        rw [decide_eq_true this]
        refine Ev.step (f := fun _ => some true) (fun k => ?_) (Ev.now _)
        simp only [laws_eqIntS.l0]
        rw [if_neg (by omega)]
      | succ d ih =>
        intro i hi hj
        by_cases e : a.getD i 0 = b.getD i 0
        · refine Ev.step (fun k => ?_) (ih (i + 1) (by omega) (fun j h => if hji : j = i then hji ▸ e else hj j (by omega)))
          simp only [laws_eqIntS.l0]
          rw [if_pos (by omega), if_pos (by omega), if_pos (by omega), rd_nat, rd_nat, if_pos e, wsucc i (by omega)]
        · rw [decide_eq_false (fun h => e (by rw [h]))]
          refine Ev.step (f := fun _ => some false) (fun k => ?_) (Ev.now _)
          simp only [laws_eqIntS.l0]
          rw [if_pos (by omega), if_pos (by omega), if_pos (by omega), rd_nat, rd_nat, if_neg e]
    refine Ev.congr (fun k => ?_) (key a.length 0 (by omega) (fun j h => absurd h (by omega)))
    unfold laws_eqIntS.f
    rw [if_pos (by omega)]
    rfl
  · rw [decide_eq_false (fun h => hl (by rw [h]))]
    refine Ev.congr (fun k => ?_) (Ev.now _)
    unfold laws_eqIntS.f
    rw [if_neg (by omega)]
/-- The list that marking leaves. -/
def marks (n : Nat) (x : Int) : List Int := (List.range n).map fun (j : Nat) => x + (j : Int)
theorem marks_len (n : Nat) (x : Int) : (marks n x).length = n := len_tab _ _
def marking (l : List Int) (x : Int) (i : Nat) : List Int := (List.range l.length).map fun m => if m < i then x + (m : Int) else l.getD m 0
theorem marking_zero (l : List Int) (x : Int) : marking l x 0 = l := by
  unfold marking
  simp only [Nat.not_lt_zero, if_false]
  exact tab_self l
theorem marking_all (l : List Int) (x : Int) : marking l x l.length = marks l.length x := tab_congr _ _ _ (fun i hi => if_pos hi)
theorem marking_len (l : List Int) (x : Int) (i : Nat) : (marking l x i).length = l.length := len_tab _ _
theorem marking_set (l : List Int) (x : Int) (i : Nat) (hi : i < l.length) : (marking l x i).set i (x + (i : Int)) = marking l x (i + 1) := by
  apply ext_getD (by rw [List.length_set, marking_len, marking_len])
  intro j hj
  rw [List.length_set, marking_len] at hj
  rw [getD_set _ _ _ _ (by rw [marking_len]; exact hi)]
  unfold marking
  rw [getD_tab _ _ _ hj, getD_tab _ _ _ hj]
  by_cases e : j = i
  · subst e
    rw [if_pos rfl, if_pos (by omega)]
  · rw [if_neg e]
    by_cases h : j < i
    · rw [if_pos h, if_pos (by omega)]
    · rw [if_neg h, if_neg (by omega)]
theorem markIntS_ev (l : List Int) (x : Int) (hl : l.length ≤ 1048576) (h0 : 0 ≤ x) (h1 : x ≤ 1073741824) : Ev (fun k => laws_markIntS.f k l x) (x + (l.length : Int), marks l.length x) := by
  have key : ∀ d i : Nat, i + d = l.length → Ev (fun k => laws_markIntS.l0 k (marking l x i) (x + (i : Int)) (i : Int)) (x + (l.length : Int), marks l.length x) := by
    intro d
    induction d with
    | zero =>
      intro i hi
      obtain rfl : i = l.length := by omega
      refine Ev.step (f := fun _ => some (x + (l.length : Int), marks l.length x)) (fun k => ?_) (Ev.now _)
      simp only [laws_markIntS.l0]
      rw [marking_len, if_neg (by omega), marking_all]
    | succ d ih =>
      intro i hi
      refine Ev.step (fun k => ?_) (ih (i + 1) (by omega))
      simp only [laws_markIntS.l0]
      rw [marking_len, if_pos (by omega), if_pos (by omega), wsucc i (by omega), Int.toNat_natCast, marking_set _ _ _ (by omega), wid (x + (i : Int) + 1) (by omega) (by omega)]
      rw [show x + (i : Int) + 1 = x + ((i + 1 : Nat) : Int) by omega]
  refine Ev.congr (fun k => ?_) (key l.length 0 (by omega))
  unfold laws_markIntS.f
  rw [marking_zero]
  simp
theorem heldIntS_ev (n : Nat) (x : Int) (hl : n ≤ 1048576) (h0 : 0 ≤ x) (h1 : x ≤ 1073741824) : Ev (fun k => laws_heldIntS.f k (marks n x) x) (x + (n : Int)) := by
  have key : ∀ d i : Nat, i + d = n → Ev (fun k => laws_heldIntS.l0 k (marks n x) (x + (i : Int)) (i : Int)) (x + (n : Int)) := by
    intro d
    induction d with
    | zero =>
      intro i hi
      obtain rfl : i = n := by omega
      refine Ev.step (f := fun _ => some (x + (i : Int))) (fun k => ?_) (Ev.now _)
      simp only [laws_heldIntS.l0]
      rw [marks_len, if_neg (by omega)]
    | succ d ih =>
      intro i hi
      refine Ev.step (fun k => ?_) (ih (i + 1) (by omega))
      simp only [laws_heldIntS.l0]
      have hr : rd (marks n x) (i : Int) = x + (i : Int) := by rw [rd_nat]; unfold marks; rw [getD_tab _ _ _ (by omega)]
      rw [marks_len, if_pos (by omega), if_pos (by omega), hr, if_pos rfl, wsucc i (by omega), wid (x + (i : Int) + 1) (by omega) (by omega)]
      rw [show x + (i : Int) + 1 = x + ((i + 1 : Nat) : Int) by omega]
  refine Ev.congr (fun k => ?_) (key n 0 (by omega))
  unfold laws_heldIntS.f
  simp
theorem Ev_pos {α : Type} {c : Prop} [Decidable c] {f g : Nat → Option α} {r : α} (hc : c) (h : Ev f r) : Ev (fun k => if c then f k else g k) r := Ev.congr (fun k => if_pos hc) h
theorem Ev_neg {α : Type} {c : Prop} [Decidable c] {f g : Nat → Option α} {r : α} (hc : ¬ c) (h : Ev g r) : Ev (fun k => if c then f k else g k) r := Ev.congr (fun k => if_neg hc) h
/-! The reference's pictures. -/
theorem l1In_eq (x a b : Int) : spec_l1In.f x a b = some (decide (a ≤ x ∧ x ≤ b)) := by
  unfold spec_l1In.f
  by_cases h : x ≥ a
  · rw [if_pos h]
    congr 1
    rw [decide_eq_decide]
    omega
  · rw [if_neg h, decide_eq_false (by omega)]
/-! Lists of parts. -/
def partOf (x : S83) : S47 := ⟨x.f0, x.f1, x.f2⟩
theorem set_mid {α : Type} (a b : List α) (y x : α) (i : Nat) (h : a.length = i) : (a ++ y :: b).set i x = a ++ x :: b := by
  subst h
  rw [List.set_append_right _ _ (Nat.le_refl _)]
  simp
theorem getD_mid {α : Type} (a b : List α) (y d : α) (i : Nat) (h : a.length = i) : (a ++ y :: b).getD i d = y := by
  subst h
  simp [List.getD_eq_getElem?_getD]
theorem rdP_nat (l : List S47) (i : Nat) (h : i < l.length) : rd_T47 l (i : Int) = l[i] := by
  unfold rd_T47
  rw [Int.toNat_natCast, getD_of_lt l _ i h]
theorem rdLP_nat (l : List S83) (i : Nat) (h : i < l.length) : rd_T83 l (i : Int) = l[i] := by
  unfold rd_T83
  rw [Int.toNat_natCast, getD_of_lt l _ i h]
theorem szPartS_eq (l : List S83) (left : Int) (h0 : 0 ≤ left) (h1 : left ≤ 1048576) (hl : l.length ≤ maxLen) : laws_szPartS.f l left = some (szI l.length left) := by
  unfold maxLen at hl
  unfold laws_szPartS.f szI
  rw [wid (left - (l.length : Int)) (by omega) (by omega)]
  split <;> rfl
theorem toPartS_ev (l : List S83) (hl : l.length ≤ 1048576) : Ev (fun k => laws_toPartS.f k l) (l.map partOf) := by
  have key : ∀ d i : Nat, i + d = l.length → Ev (fun k => laws_toPartS.l0 k l ((l.take i).map partOf ++ List.replicate d z47) (i : Int)) (l.map partOf) := by
    intro d
    induction d with
    | zero =>
      intro i hi
      obtain rfl : i = l.length := by omega
      refine Ev.step (f := fun _ => some (l.map partOf)) (fun k => ?_) (Ev.now _)
      simp only [laws_toPartS.l0]
      rw [if_neg (by omega), List.take_length]
      simp
    | succ d ih =>
      intro i hi
      have hlen : ((l.take i).map partOf).length = i := by rw [List.length_map, List.length_take]; omega
      refine Ev.step (fun k => ?_) (ih (i + 1) (by omega))
      simp only [laws_toPartS.l0, laws_toPart.f]
      rw [if_pos (by omega), if_pos (by omega), Option.bind_some, if_pos (by rw [List.length_append, List.length_replicate, hlen]; omega), Int.toNat_natCast, List.replicate_succ, set_mid _ _ _ _ _ hlen, wsucc i (by omega), rdLP_nat l i (by omega), List.take_succ_eq_append_getElem (by omega), List.map_append, List.append_assoc]
      rfl
  refine Ev.congr (fun k => ?_) (key l.length 0 (by omega))
  unfold laws_toPartS.f
  rw [if_pos (by omega), if_pos (by omega), Int.toNat_natCast]
  rfl
theorem eqPartS_self (l : List S47) (hl : l.length ≤ 1048576) : Ev (fun k => laws_eqPartS.f k l l) true := by
  have key : ∀ d i : Nat, i + d = l.length → Ev (fun k => laws_eqPartS.l0 k l l (i : Int)) true := by
    intro d
    induction d with
    | zero =>
      intro i hi
      refine Ev.step (f := fun _ => some true) (fun k => ?_) (Ev.now _)
      simp only [laws_eqPartS.l0]
      rw [if_neg (by omega)]
    | succ d ih =>
      intro i hi
      refine Ev.step (fun k => ?_) (ih (i + 1) (by omega))
      simp only [laws_eqPartS.l0, laws_eqPart.f, if_true]
      rw [if_pos (by omega), if_pos (by omega), if_pos (by omega), Option.bind_some, if_pos rfl, wsucc i (by omega)]
  unfold laws_eqPartS.f
  exact Ev_pos rfl (key l.length 0 (by omega))
theorem eqIntS_self (l : List Int) (hl : l.length ≤ 1048576) : Ev (fun k => laws_eqIntS.f k l l) true := by
  have := eqIntS_ev l l hl
  rwa [decide_eq_true rfl] at this
def markP (x : Int) (j : Nat) : S47 := ⟨x + 3 * (j : Int), x + 3 * (j : Int) + 1, x + 3 * (j : Int) + 2⟩
def marksP (n : Nat) (x : Int) : List S47 := (List.range n).map (markP x)
theorem marksP_len (n : Nat) (x : Int) : (marksP n x).length = n := by simp [marksP]
theorem marksP_succ (n : Nat) (x : Int) : marksP (n + 1) x = marksP n x ++ [markP x n] := by
  unfold marksP
  rw [List.range_succ, List.map_append]
  rfl
theorem rdP_mid (a b : List S47) (y : S47) (i : Nat) (h : a.length = i) : rd_T47 (a ++ y :: b) (i : Int) = y := by
  unfold rd_T47
  rw [Int.toNat_natCast, getD_mid a b y _ i h]
theorem markPartS_ev (l : List S47) (x : Int) (hl : l.length ≤ 1048576) (h0 : 0 ≤ x) (h1 : x ≤ 1073741824) : Ev (fun k => laws_markPartS.f k l x) (x + 3 * (l.length : Int), marksP l.length x) := by
  have key : ∀ d i : Nat, i + d = l.length → Ev (fun k => laws_markPartS.l0 k (marksP i x ++ l.drop i) (x + 3 * (i : Int)) (i : Int)) (x + 3 * (l.length : Int), marksP l.length x) := by
    intro d
    induction d with
    | zero =>
      intro i hi
      obtain rfl : i = l.length := by omega
      refine Ev.step (f := fun _ => some (x + 3 * (l.length : Int), marksP l.length x)) (fun k => ?_) (Ev.now _)
      simp only [laws_markPartS.l0]
      rw [List.drop_length, List.append_nil, if_neg (by rw [marksP_len]; omega)]
    | succ d ih =>
      intro i hi
      have hi' : i < l.length := by omega
      refine Ev.step (fun k => ?_) (ih (i + 1) (by omega))
      simp only [laws_markPartS.l0]
      rw [List.drop_eq_getElem_cons hi']
      have hm := marksP_len i x
      rw [if_pos (by rw [List.length_append, hm, List.length_cons, List.length_drop]; omega), if_pos (by omega), Option.bind_some, Int.toNat_natCast, rdP_mid _ _ _ _ hm, set_mid _ _ _ _ _ hm, Option.bind_some, rdP_mid _ _ _ _ hm, set_mid _ _ _ _ _ hm, rdP_mid _ _ _ _ hm, set_mid _ _ _ _ _ hm, wsucc i (by omega), marksP_succ, List.append_assoc]
      rw [wid (x + 3 * (i : Int) + 1) (by omega) (by omega), wid (x + 3 * (i : Int) + 1 + 1) (by omega) (by omega), wid (x + 3 * (i : Int) + 1 + 1 + 1) (by omega) (by omega)]
      rw [show x + 3 * (i : Int) + 1 + 1 + 1 = x + 3 * ((i + 1 : Nat) : Int) by omega, show x + 3 * (i : Int) + 1 + 1 = x + 3 * (i : Int) + 2 by omega]
      rfl
  refine Ev.congr (fun k => ?_) (key l.length 0 (by omega))
  unfold laws_markPartS.f
  simp [marksP]
/-! Is it a kernel? -/
def okPart (p : S47) : Bool := decide (-4 ≤ p.f0 ∧ p.f0 ≤ 4 ∧ 0 ≤ p.f1 ∧ p.f1 ≤ 4 ∧ ¬ (p.f1 = 0 ∧ p.f0 < 1) ∧ 1 ≤ p.f2 ∧ p.f2 ≤ 100)
def clashFrom (y : List S47) (a b : Int) (j d : Nat) : Bool := (List.range' j d).any fun m => decide (a = (rd_T47 y (m : Int)).f0 ∧ b = (rd_T47 y (m : Int)).f1)
def kernAt (l : List S47) (i : Nat) : Bool := okPart (rd_T47 l (i : Int)) && !clashFrom (l.take i) (rd_T47 l (i : Int)).f0 (rd_T47 l (i : Int)).f1 0 (l.take i).length
def kernFrom (l : List S47) (i d : Nat) : Bool := (List.range' i d).all (kernAt l)
def kernB (l : List S47) : Bool := decide (1 ≤ l.length ∧ l.length ≤ 12) && kernFrom l 0 l.length
theorem spec_inner (x0 x11 : List S47) (x12 x13 a b c : Int) (y : List S47) (hy : y.length < 1000) (r : Bool) (d : Nat) : ∀ j : Nat, j + d = y.length →
    (clashFrom y a b j d = true → r = false) → (clashFrom y a b j d = false → Ev (fun k => spec_IsKernel.l0 k x0 x11 x12 (wrap64 (x13 + 1))) r) →
    Ev (fun k => spec_IsKernel.l1 k x0 x11 x12 x13 y (y.length : Int) (j : Int) a b c) r := by
  induction d with
  | zero =>
    intro j hj _ h2
    exact Ev.step (fun k => by simp only [spec_IsKernel.l1]; rw [if_neg (by omega)]) (h2 rfl)
  | succ d ih =>
    intro j hj h1 h2
    unfold clashFrom at h1 h2
    rw [List.range'_succ, List.any_cons] at h1 h2
    by_cases ha : a = (rd_T47 y (j : Int)).f0
    · by_cases hb : b = (rd_T47 y (j : Int)).f1
      · rw [h1 (by rw [decide_eq_true ⟨ha, hb⟩]; rfl)]
        exact Ev.step (f := fun _ => some false) (fun k => by simp only [spec_IsKernel.l1]; rw [if_pos (by omega), if_pos (by omega), if_pos (by omega), if_pos ha, if_pos hb]) (Ev.now _)
      · rw [decide_eq_false (fun h => hb h.2), Bool.false_or] at h1 h2
        refine Ev.step (fun k => by simp only [spec_IsKernel.l1]; rw [if_pos (by omega), if_pos (by omega), if_pos (by omega), if_pos ha, if_neg hb, wsucc j (by omega)]) (ih (j + 1) (by omega) h1 h2)
    · rw [decide_eq_false (fun h => ha h.1), Bool.false_or] at h1 h2
      refine Ev.step (fun k => by simp only [spec_IsKernel.l1]; rw [if_pos (by omega), if_pos (by omega), if_pos (by omega), if_neg ha, wsucc j (by omega)]) (ih (j + 1) (by omega) h1 h2)
theorem spec_outer (l : List S47) (hl : l.length < 1000) (d : Nat) : ∀ i : Nat, i + d = l.length → Ev (fun k => spec_IsKernel.l0 k l l (l.length : Int) (i : Int)) (kernFrom l i d) := by
  induction d with
  | zero =>
    intro i hi
    exact Ev.step (f := fun _ => some true) (fun k => by simp only [spec_IsKernel.l0]; rw [if_neg (by omega)]) (Ev.now _)
  | succ d ih =>
    intro i hi
    have hk : kernFrom l i (d + 1) = (kernAt l i && kernFrom l (i + 1) d) := by unfold kernFrom; rw [List.range'_succ, List.all_cons]
    have hj : ∀ a b c : Int, a = (rd_T47 l (i : Int)).f0 → b = (rd_T47 l (i : Int)).f1 → okPart (rd_T47 l (i : Int)) = true → Ev (fun k => spec_IsKernel.j1 k l (i : Int) l (l.length : Int) (i : Int) false a b c) (kernFrom l i (d + 1)) := by
      intro a b c ha hb ho
      subst ha
      subst hb
      have ht : (l.take i).length = i := by rw [List.length_take]; omega
      refine Ev.step (fun k => by simp only [spec_IsKernel.j1]; rw [if_neg (by simp), if_pos (by omega), if_pos (by omega), Option.bind_some, Int.toNat_natCast]) ?_
      refine spec_inner l l _ _ _ _ c (l.take i) (by omega) _ (l.take i).length 0 (by omega) (fun h => ?_) (fun h => ?_)
      · rw [hk]; unfold kernAt; rw [h, ho]; rfl
      · rw [hk, wsucc i (by omega)]; unfold kernAt; rw [h, ho]; simp only [Bool.not_false, Bool.and_true, Bool.true_and]
        exact ih (i + 1) (by omega)
    have hbad : ∀ a b c : Int, okPart (rd_T47 l (i : Int)) = false → Ev (fun k => spec_IsKernel.j1 k l (i : Int) l (l.length : Int) (i : Int) true a b c) (kernFrom l i (d + 1)) := by
      intro a b c ho
      have : kernFrom l i (d + 1) = false := by rw [hk]; unfold kernAt; rw [ho]; rfl
      rw [this]
      exact Ev.step (f := fun _ => some false) (fun k => by simp only [spec_IsKernel.j1]; rw [if_pos trivial]) (Ev.now _)
    have hj := hj _ _ (rd_T47 l (i : Int)).f2 rfl rfl
    have hbad := hbad (rd_T47 l (i : Int)).f0 (rd_T47 l (i : Int)).f1 (rd_T47 l (i : Int)).f2
    refine Ev.step (fun k => by rw [spec_IsKernel.l0]) ?_
    refine Ev_pos (by omega) (Ev_pos (by omega) (Ev_pos (by omega) ?_))
    generalize rd_T47 l (i : Int) = p at hj hbad ⊢
    simp only [l1In_eq, Option.bind_some]
    by_cases c1 : -4 ≤ p.f0 ∧ p.f0 ≤ 4
    · refine Ev_pos (decide_eq_true c1) ?_
      by_cases c2 : 0 ≤ p.f1 ∧ p.f1 ≤ 4
      · refine Ev_pos (decide_eq_true c2) ?_
        have fin : ¬ (p.f1 = 0 ∧ p.f0 < 1) → Ev (fun k => spec_IsKernel.j1 k l (i : Int) l (l.length : Int) (i : Int) (!decide (1 ≤ p.f2 ∧ p.f2 ≤ 100)) p.f0 p.f1 p.f2) (kernFrom l i (d + 1)) := by
          intro c5
          by_cases c6 : 1 ≤ p.f2 ∧ p.f2 ≤ 100
          · rw [decide_eq_true c6]
            exact hj (decide_eq_true ⟨c1.1, c1.2, c2.1, c2.2, c5, c6.1, c6.2⟩)
          · rw [decide_eq_false c6]
            exact hbad (decide_eq_false (fun h => c6 ⟨h.2.2.2.2.2.1, h.2.2.2.2.2.2⟩))
        by_cases c3 : p.f1 = 0
        · refine Ev_pos c3 ?_
          by_cases c4 : p.f0 < 1
          · exact Ev_pos c4 (hbad (decide_eq_false (fun h => h.2.2.2.2.1 ⟨c3, c4⟩)))
          · exact Ev_neg c4 (fin (fun h => c4 h.2))
        · exact Ev_neg c3 (fin (fun h => c3 h.1))
      · exact Ev_neg (by rw [decide_eq_false c2]; simp) (hbad (decide_eq_false (fun h => c2 ⟨h.2.2.1, h.2.2.2.1⟩)))
    · exact Ev_neg (by rw [decide_eq_false c1]; simp) (hbad (decide_eq_false (fun h => c1 ⟨h.1, h.2.1⟩)))
theorem impl_inner (x0 x11 : List S47) (x12 x13 a b c : Int) (y : List S47) (hy : y.length < 1000) (r : Bool) (d : Nat) : ∀ j : Nat, j + d = y.length →
    (clashFrom y a b j d = true → r = false) → (clashFrom y a b j d = false → Ev (fun k => impl_IsKernel.l0 k x0 x11 x12 (wrap64 (x13 + 1))) r) →
    Ev (fun k => impl_IsKernel.l1 k x0 x11 x12 x13 y (y.length : Int) (j : Int) a b c) r := by
  induction d with
  | zero =>
    intro j hj _ h2
    exact Ev.step (fun k => by simp only [impl_IsKernel.l1]; rw [if_neg (by omega)]) (h2 rfl)
  | succ d ih =>
    intro j hj h1 h2
    unfold clashFrom at h1 h2
    rw [List.range'_succ, List.any_cons] at h1 h2
    by_cases ha : a = (rd_T47 y (j : Int)).f0
    · by_cases hb : b = (rd_T47 y (j : Int)).f1
      · rw [h1 (by rw [decide_eq_true ⟨ha, hb⟩]; rfl)]
        exact Ev.step (f := fun _ => some false) (fun k => by simp only [impl_IsKernel.l1]; rw [if_pos (by omega), if_pos (by omega), if_pos (by omega), if_pos ha, if_pos hb]) (Ev.now _)
      · rw [decide_eq_false (fun h => hb h.2), Bool.false_or] at h1 h2
        refine Ev.step (fun k => by simp only [impl_IsKernel.l1]; rw [if_pos (by omega), if_pos (by omega), if_pos (by omega), if_pos ha, if_neg hb, wsucc j (by omega)]) (ih (j + 1) (by omega) h1 h2)
    · rw [decide_eq_false (fun h => ha h.1), Bool.false_or] at h1 h2
      refine Ev.step (fun k => by simp only [impl_IsKernel.l1]; rw [if_pos (by omega), if_pos (by omega), if_pos (by omega), if_neg ha, wsucc j (by omega)]) (ih (j + 1) (by omega) h1 h2)
theorem impl_outer (l : List S47) (hl : l.length < 1000) (d : Nat) : ∀ i : Nat, i + d = l.length → Ev (fun k => impl_IsKernel.l0 k l l (l.length : Int) (i : Int)) (kernFrom l i d) := by
  induction d with
  | zero =>
    intro i hi
    exact Ev.step (f := fun _ => some true) (fun k => by simp only [impl_IsKernel.l0]; rw [if_neg (by omega)]) (Ev.now _)
  | succ d ih =>
    intro i hi
    have hk : kernFrom l i (d + 1) = (kernAt l i && kernFrom l (i + 1) d) := by unfold kernFrom; rw [List.range'_succ, List.all_cons]
    have hj : ∀ a b c : Int, a = (rd_T47 l (i : Int)).f0 → b = (rd_T47 l (i : Int)).f1 → okPart (rd_T47 l (i : Int)) = true → Ev (fun k => impl_IsKernel.j2 k l (i : Int) l (l.length : Int) (i : Int) false a b c) (kernFrom l i (d + 1)) := by
      intro a b c ha hb ho
      subst ha
      subst hb
      have ht : (l.take i).length = i := by rw [List.length_take]; omega
      refine Ev.step (fun k => by simp only [impl_IsKernel.j2]; rw [if_neg (by simp), if_pos (by omega), if_pos (by omega), Option.bind_some, Int.toNat_natCast]) ?_
      refine impl_inner l l _ _ _ _ c (l.take i) (by omega) _ (l.take i).length 0 (by omega) (fun h => ?_) (fun h => ?_)
      · rw [hk]; unfold kernAt; rw [h, ho]; rfl
      · rw [hk, wsucc i (by omega)]; unfold kernAt; rw [h, ho]; simp only [Bool.not_false, Bool.and_true, Bool.true_and]
        exact ih (i + 1) (by omega)
    have hbad : ∀ a b c : Int, okPart (rd_T47 l (i : Int)) = false → Ev (fun k => impl_IsKernel.j2 k l (i : Int) l (l.length : Int) (i : Int) true a b c) (kernFrom l i (d + 1)) := by
      intro a b c ho
      have : kernFrom l i (d + 1) = false := by rw [hk]; unfold kernAt; rw [ho]; rfl
      rw [this]
      exact Ev.step (f := fun _ => some false) (fun k => by simp only [impl_IsKernel.j2]; rw [if_pos trivial]) (Ev.now _)
    have hj := hj _ _ (rd_T47 l (i : Int)).f2 rfl rfl
    have hbad := hbad (rd_T47 l (i : Int)).f0 (rd_T47 l (i : Int)).f1 (rd_T47 l (i : Int)).f2
    refine Ev.step (fun k => by rw [impl_IsKernel.l0]) ?_
    refine Ev_pos (by omega) (Ev_pos (by omega) (Ev_pos (by omega) ?_))
    generalize rd_T47 l (i : Int) = p at hj hbad ⊢
    have bad : ¬ (-4 ≤ p.f0 ∧ p.f0 ≤ 4 ∧ 0 ≤ p.f1 ∧ p.f1 ≤ 4 ∧ ¬ (p.f1 = 0 ∧ p.f0 < 1) ∧ 1 ≤ p.f2 ∧ p.f2 ≤ 100) → Ev (fun k => impl_IsKernel.j2 k l (i : Int) l (l.length : Int) (i : Int) true p.f0 p.f1 p.f2) (kernFrom l i (d + 1)) := fun h => hbad (decide_eq_false h)
    by_cases c1 : p.f0 < -4
    · exact Ev_pos c1 (bad (by omega))
    refine Ev_neg c1 ?_
    by_cases c2 : p.f0 > 4
    · exact Ev_pos c2 (bad (by omega))
    refine Ev_neg c2 ?_
    by_cases c3 : p.f1 < 0
    · exact Ev_pos c3 (bad (by omega))
    refine Ev_neg c3 ?_
    by_cases c4 : p.f1 > 4
    · exact Ev_pos c4 (bad (by omega))
    refine Ev_neg c4 ?_
    have fin : ¬ (p.f1 = 0 ∧ p.f0 < 1) → Ev (fun k => if p.f2 < 1 then (impl_IsKernel.j2 k l (i : Int) l (l.length : Int) (i : Int) true p.f0 p.f1 p.f2) else (impl_IsKernel.j2 k l (i : Int) l (l.length : Int) (i : Int) (decide (p.f2 > 100)) p.f0 p.f1 p.f2)) (kernFrom l i (d + 1)) := by
      intro c5
      by_cases c6 : p.f2 < 1
      · exact Ev_pos c6 (bad (by omega))
      refine Ev_neg c6 ?_
      by_cases c7 : p.f2 > 100
      · rw [decide_eq_true c7]
        exact bad (by omega)
      · rw [decide_eq_false c7]
        exact hj (decide_eq_true (by omega))
    by_cases c5 : p.f1 = 0
    · refine Ev_pos c5 ?_
      by_cases c6 : p.f0 < 1
      · exact Ev_pos c6 (bad (by omega))
      · exact Ev_neg c6 (fin (by omega))
    · exact Ev_neg c5 (fin (by omega))
theorem specIsKernel_ev (l : List S47) (hl : l.length ≤ 1048576) : Ev (fun k => spec_IsKernel.f k l) (kernB l) := by
  unfold spec_IsKernel.f kernB
  rw [l1In_eq]
  simp only [Option.bind_some]
  by_cases h : 1 ≤ l.length ∧ l.length ≤ 12
  · rw [decide_eq_true h, Bool.true_and]
    exact Ev_pos (decide_eq_true (by omega)) (spec_outer l (by omega) l.length 0 (by omega))
  · rw [decide_eq_false h, Bool.false_and]
    exact Ev_neg (by rw [decide_eq_false (by omega)]; simp) (Ev.now _)
theorem implIsKernel_ev (l : List S47) (hl : l.length ≤ 1048576) : Ev (fun k => impl_IsKernel.f k l) (kernB l) := by
  unfold impl_IsKernel.f kernB
  have bad : ¬ (1 ≤ l.length ∧ l.length ≤ 12) → Ev (fun k => impl_IsKernel.j0 k l true) (decide (1 ≤ l.length ∧ l.length ≤ 12) && kernFrom l 0 l.length) := by
    intro h
    rw [decide_eq_false h, Bool.false_and]
    refine Ev.step (f := fun _ => some false) (fun k => ?_) (Ev.now _)
    simp only [impl_IsKernel.j0, if_true]
  by_cases c1 : (l.length : Int) < 1
  · exact Ev_pos c1 (bad (by omega))
  refine Ev_neg c1 ?_
  by_cases c2 : (l.length : Int) > 12
  · rw [decide_eq_true c2]
    exact bad (by omega)
  · rw [decide_eq_false c2, decide_eq_true (by omega), Bool.true_and]
    refine Ev.step (fun k => ?_) (impl_outer l (by omega) l.length 0 (by omega))
    simp only [impl_IsKernel.j0]
    rw [if_neg (by simp)]
    rfl
theorem kern_len {l : List S47} (h : kernB l = true) : 1 ≤ l.length ∧ l.length ≤ 12 := by
  unfold kernB at h
  rw [Bool.and_eq_true] at h
  exact of_decide_eq_true h.1
theorem kern_ok {l : List S47} (h : kernB l = true) (i : Nat) (hi : i < l.length) : okPart (rd_T47 l (i : Int)) = true := by
  unfold kernB kernFrom at h
  rw [Bool.and_eq_true, List.all_eq_true] at h
  have := h.2 i (by rw [List.mem_range']; exact ⟨i, by omega, by omega⟩)
  unfold kernAt at this
  rw [Bool.and_eq_true] at this
  exact this.1
def wtTo (l : List S47) (i : Nat) : Int := sumL ((l.take i).map (·.f2))
theorem wtTo_succ (l : List S47) (i : Nat) (h : i < l.length) : wtTo l (i + 1) = wtTo l i + (rd_T47 l (i : Int)).f2 := by
  unfold wtTo
  rw [List.take_succ_eq_append_getElem h, List.map_append, sumL_append, List.map_cons, List.map_nil, sumL_one, rdP_nat l i h]
theorem wtTo_bd {l : List S47} (h : kernB l = true) (i : Nat) (hi : i ≤ l.length) : (i : Int) ≤ wtTo l i ∧ wtTo l i ≤ 100 * (i : Int) := by
  induction i with
  | zero => simp [wtTo, sumL]
  | succ i ih =>
    have := ih (by omega)
    obtain ⟨_, _, _, _, _, q1, q2⟩ := of_decide_eq_true (kern_ok h i (by omega))
    rw [wtTo_succ l i (by omega)]
    omega
theorem spec_WeightOf_ev (l : List S47) (h : kernB l = true) : Ev (fun k => spec_WeightOf.l0 k 0 l (l.length : Int) 0) (wtTo l l.length) := by
  have hk := kern_len h
  have key : ∀ d i : Nat, i + d = l.length → Ev (fun k => spec_WeightOf.l0 k (wtTo l i) l (l.length : Int) (i : Int)) (wtTo l l.length) := by
    intro d
    induction d with
    | zero =>
      intro i hi
      obtain rfl : i = l.length := by omega
      refine Ev.step (f := fun _ => some (wtTo l l.length)) (fun k => ?_) (Ev.now _)
      simp only [spec_WeightOf.l0]
      rw [if_neg (by omega)]
    | succ d ih =>
      intro i hi
      have hb := wtTo_bd h (i + 1) (by omega)
      have hs := wtTo_succ l i (by omega)
      refine Ev.step (fun k => ?_) (ih (i + 1) (by omega))
      simp only [spec_WeightOf.l0]
      rw [if_pos (by omega), if_pos (by omega), if_pos (by omega), ← hs, wid (wtTo l (i + 1)) (by omega) (by omega), wsucc i (by omega)]
  have := key l.length 0 (by omega)
  exact this
theorem impl_weight_ev (l : List S47) (h : kernB l = true) : Ev (fun k => impl_weight.l0 k 0 l (l.length : Int) 0) (wtTo l l.length) := by
  have hk := kern_len h
  have key : ∀ d i : Nat, i + d = l.length → Ev (fun k => impl_weight.l0 k (wtTo l i) l (l.length : Int) (i : Int)) (wtTo l l.length) := by
    intro d
    induction d with
    | zero =>
      intro i hi
      obtain rfl : i = l.length := by omega
      refine Ev.step (f := fun _ => some (wtTo l l.length)) (fun k => ?_) (Ev.now _)
      simp only [impl_weight.l0]
      rw [if_neg (by omega)]
    | succ d ih =>
      intro i hi
      have hb := wtTo_bd h (i + 1) (by omega)
      have hs := wtTo_succ l i (by omega)
      refine Ev.step (fun k => ?_) (ih (i + 1) (by omega))
      simp only [impl_weight.l0]
      rw [if_pos (by omega), if_pos (by omega), if_pos (by omega), ← hs, wid (wtTo l (i + 1)) (by omega) (by omega), wsucc i (by omega)]
  have := key l.length 0 (by omega)
  exact this
theorem specWeight_ev (l : List S47) (hl : l.length ≤ 1048576) : Ev (fun k => spec_WeightOf.f k l) (if kernB l = true then wtTo l l.length else 0) := by
  unfold spec_WeightOf.f
  refine Ev.bind (specIsKernel_ev l hl) ?_
  by_cases h : kernB l = true
  · rw [if_pos h]
    exact Ev_pos h (spec_WeightOf_ev l h)
  · rw [if_neg h]
    exact Ev_neg h (Ev.now _)
theorem szPartS_ok (l : List S83) (left : Int) (h0 : 0 ≤ left) (h1 : left ≤ 1048576) (hl : (l.length : Int) ≤ left) : laws_szPartS.f l left = some (left - (l.length : Int)) := by
  rw [szPartS_eq l left h0 h1 (by unfold maxLen; omega)]
  unfold szI
  rw [if_neg (by omega)]
theorem szPartS_big (l : List S83) (left : Int) (h0 : 0 ≤ left) (h1 : left ≤ 1048576) (hm : l.length ≤ maxLen) (hl : ¬ (l.length : Int) ≤ left) : laws_szPartS.f l left = some (-1) := by
  rw [szPartS_eq l left h0 h1 hm]
  unfold szI
  rw [if_pos (by omega)]
theorem mod_same (a b : Int) (hb : b ≠ 0) : ∃ r : Int, spec_l2Mod.f a b = some r ∧ impl_mod.f a b = some r := by
  unfold spec_l2Mod.f impl_mod.f
  simp only [if_neg hb]
  by_cases h : Int.tmod a b < 0
  · exact ⟨_, if_pos h, if_pos h⟩
  · exact ⟨_, if_neg h, if_neg h⟩
theorem shares_same (l : List S47) (a w : Int) (hl : 1 ≤ l.length ∧ l.length ≤ 12) (hw : w ≠ 0) : ∃ L : List Int, L.length = l.length ∧ Ev (fun k => spec_l4Shares.f k l w a) L ∧ Ev (fun k => impl_shares.l0 k a w [] a l (l.length : Int) 0) L := by
  have key : ∀ (d i : Nat) (acc : List Int) (rest : Int), i + d = l.length → acc.length = i → ∃ L : List Int, L.length = l.length ∧ Ev (fun k => spec_l4Shares.l0 k w a acc rest l (l.length : Int) (i : Int)) L ∧ Ev (fun k => impl_shares.l0 k a w acc rest l (l.length : Int) (i : Int)) L := by
    intro d
    induction d with
    | zero =>
      intro i acc rest hi hacc
      refine ⟨acc.set 0 (wrap64 (rd acc 0 + rest)), by rw [List.length_set]; omega, Ev.step (f := fun _ => some (acc.set 0 (wrap64 (rd acc 0 + rest)))) (fun k => ?_) (Ev.now _), Ev.step (f := fun _ => some (acc.set 0 (wrap64 (rd acc 0 + rest)))) (fun k => ?_) (Ev.now _)⟩
      · simp only [spec_l4Shares.l0]
        rw [if_neg (by omega), if_pos (by omega)]
        rfl
      · simp only [impl_shares.l0]
        rw [if_neg (by omega), if_pos (by omega)]
        rfl
    | succ d ih =>
      intro i acc rest hi hacc
      obtain ⟨r, m1, m2⟩ := mod_same (wrap64 (a * (rd_T47 l (i : Int)).f2)) w hw
      obtain ⟨L, hL, h1, h2⟩ := ih (i + 1) (acc ++ [wrap64 (Int.tdiv (wrap64 (wrap64 (a * (rd_T47 l (i : Int)).f2) - r)) w)]) (wrap64 (rest - wrap64 (Int.tdiv (wrap64 (wrap64 (a * (rd_T47 l (i : Int)).f2) - r)) w))) (by omega) (by rw [List.length_append, hacc]; rfl)
      refine ⟨L, hL, Ev.step (fun k => ?_) h1, Ev.step (fun k => ?_) h2⟩
      · simp only [spec_l4Shares.l0]
        rw [if_pos (by omega), if_pos (by omega), if_pos (by omega), m1, Option.bind_some, if_neg hw, if_pos (by omega), wsucc i (by omega)]
      · simp only [impl_shares.l0, impl_down.f]
        rw [if_pos (by omega), if_pos (by omega), if_pos (by omega), m2, Option.bind_some, if_neg hw, Option.bind_some, if_pos (by omega), wsucc i (by omega)]
  unfold spec_l4Shares.f
  exact key l.length 0 [] a (by omega) rfl
theorem SharesOf_same (l : List S47) (a : Int) (hl : l.length ≤ 1048576) : ∃ L : List Int, L.length ≤ 1048576 ∧ Ev (fun k => spec_SharesOf.f k l a) L ∧ Ev (fun k => impl_SharesOf.f k l a) L := by
  unfold spec_SharesOf.f impl_SharesOf.f
  have bad : Ev (fun k => spec_SharesOf.j0 k l a true) [] := by
    refine Ev.step (f := fun _ => some []) (fun k => ?_) (Ev.now _)
    simp only [spec_SharesOf.j0, if_true]
  rw [l1In_eq]
  simp only [Option.bind_some]
  by_cases h : kernB l = true
  · have hk := kern_len h
    have hw := wtTo_bd h l.length (Nat.le_refl _)
    by_cases ha : -1000000 ≤ a ∧ a ≤ 1000000
    · obtain ⟨L, hL, h1, h2⟩ := shares_same l a (wtTo l l.length) hk (by omega)
      have hsw := specWeight_ev l hl
      rw [if_pos h] at hsw
      refine ⟨L, by omega, Ev.bind (specIsKernel_ev l hl) (Ev_pos h ?_), Ev.bind (implIsKernel_ev l hl) (Ev_pos h (Ev_neg (by omega) (Ev_neg (by omega) ?_)))⟩
      · rw [decide_eq_true ha]
        refine Ev.step (fun k => by rw [spec_SharesOf.j0]) ?_
        exact Ev_neg (by simp) (Ev.bind hsw (Ev.bind h1 (Ev.now _)))
      · unfold impl_shares.f impl_weight.f
        exact Ev.bind (Ev.bind (impl_weight_ev l h) h2) (Ev.now _)
    · refine ⟨[], by simp, Ev.bind (specIsKernel_ev l hl) (Ev_pos h (by rw [decide_eq_false ha]; exact bad)), Ev.bind (implIsKernel_ev l hl) (Ev_pos h ?_)⟩
      by_cases c : a < -1000000
      · exact Ev_pos c (Ev.now _)
      · exact Ev_neg c (Ev_pos (by omega) (Ev.now _))
  · exact ⟨[], by simp, Ev.bind (specIsKernel_ev l hl) (Ev_neg h bad), Ev.bind (implIsKernel_ev l hl) (Ev_neg h (Ev.now _))⟩
/-- The law FnExactSharesOf: the program's SharesOf answers what the reference's answers. -/
theorem FnExactSharesOf (l0 : List S83) (a1 : Int) (h0_ : l0.length ≤ maxLen) (h1_ : (∀ x ∈ l0, (Lit.int .i64 x.f0).wf = true ∧ (Lit.int .i64 x.f1).wf = true ∧ (Lit.int .i64 x.f2).wf = true)) (h2_ : (Lit.int .i64 a1).wf = true) :
    ∃ k, P.laws_FnExactSharesOf.f k l0 a1 = some true := by
  refine Ev.rounds ?_
  unfold laws_FnExactSharesOf.f
  by_cases hl0 : (l0.length : Int) ≤ 1048576
  · rw [szPartS_ok l0 (1048576) (by omega) (by omega) hl0]
    simp only [Option.bind_some]
    refine Ev_neg (by omega) ?_
    have hpl : (l0.map partOf).length = l0.length := by simp
    obtain ⟨L, HL, HS, HI⟩ := SharesOf_same (l0.map partOf) a1 (by omega)
    repeat (first
      | exact Ev.now _
      | (refine Ev.bind HS ?_; try dsimp only)
      | (refine Ev.bind HI ?_; try dsimp only)
      | (refine Ev.bind (toPartS_ev _ (by first | assumption | omega | (rw [List.length_map]; omega))) ?_; try dsimp only)
      | (refine Ev.bind (eqPartS_self _ (by first | assumption | omega | (rw [List.length_map]; omega))) ?_; try dsimp only)
      | (refine Ev.bind (markPartS_ev _ 1 (by first | assumption | omega | (rw [List.length_map]; omega)) (by omega) (by omega)) ?_; try dsimp only)
      | (refine Ev.bind (eqIntS_self _ (by first | assumption | omega | (rw [List.length_map]; omega))) ?_; try dsimp only)
      | (refine Ev.bind (markIntS_ev _ 1 (by first | assumption | omega | (rw [List.length_map]; omega)) (by omega) (by omega)) ?_; try dsimp only)
      | (refine Ev.bind (heldIntS_ev _ 1 (by first | assumption | omega | (rw [List.length_map]; omega)) (by omega) (by omega)) ?_; try dsimp only)
      | (refine Ev_pos (by first | rfl | omega) ?_)
      | (refine Ev_neg (by first | omega | simp) ?_)
      | (refine Ev.step (fun k => by rw [laws_FnExactSharesOf.j0]) ?_))
  · rw [szPartS_big l0 (1048576) (by omega) (by omega) h0_ hl0]
    simp only [Option.bind_some]
    exact Ev.now _
end Go.Proofs.Ytbgbbfdmgpcgmaa.Q
