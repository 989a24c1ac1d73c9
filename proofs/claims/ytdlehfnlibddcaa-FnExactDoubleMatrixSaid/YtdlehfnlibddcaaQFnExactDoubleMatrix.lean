/- The law FnExactDoubleMatrix: the program's DoubleMatrix answers what the reference's answers. -/
import Derived.Test.YtdlehfnlibddcaaFimplDoubleMatrix
import Derived.Test.YtdlehfnlibddcaaFimplIsMatrix
import Derived.Test.YtdlehfnlibddcaaFimplcelled
import Derived.Test.YtdlehfnlibddcaaFimplmod
import Derived.Test.YtdlehfnlibddcaaFimplrank
import Derived.Test.YtdlehfnlibddcaaFlawsFnExactDoubleMatrix
import Derived.Test.YtdlehfnlibddcaaFlawseqIntS
import Derived.Test.YtdlehfnlibddcaaFlawseqMatrix
import Derived.Test.YtdlehfnlibddcaaFlawsheldIntS
import Derived.Test.YtdlehfnlibddcaaFlawsheldMatrix
import Derived.Test.YtdlehfnlibddcaaFlawsmarkIntS
import Derived.Test.YtdlehfnlibddcaaFlawsmarkMatrix
import Derived.Test.YtdlehfnlibddcaaFlawsszIntS
import Derived.Test.YtdlehfnlibddcaaFlawsszMatrix
import Derived.Test.YtdlehfnlibddcaaFlawstoIntS
import Derived.Test.YtdlehfnlibddcaaFlawstoMatrix
import Derived.Test.YtdlehfnlibddcaaFpre
import Derived.Test.YtdlehfnlibddcaaFspecDoubleMatrix
import Derived.Test.YtdlehfnlibddcaaFspecIsMatrix
import Derived.Test.YtdlehfnlibddcaaFspecl1In
import Derived.Test.YtdlehfnlibddcaaFspecl2Double
import Derived.Test.YtdlehfnlibddcaaFspecl2Mod
import Derived.Test.YtdlehfnlibddcaaFspecl2Rank
import Derived.Test.YtdlehfnlibddcaaFspecl2Shape
import Derived.Test.YtdlehfnlibddcaaP0
namespace Go.Proofs.Ytdlehfnlibddcaa.Q
open Go.RowKit Go.Proofs.Ytdlehfnlibddcaa.P Go.Proofs.YtdlehfnlibddcaaW.PrintWords
set_option linter.unusedVariables false
set_option linter.unusedSimpArgs false
theorem wsucc (i : Nat) (h : i < 9223372036854775807) : wrap64 ((i : Int) + 1) = ((i + 1 : Nat) : Int) := by unfold wrap64; omega
theorem wid (x : Int) (h0 : -9223372036854775808 ≤ x) (h1 : x ≤ 9223372036854775807) : wrap64 x = x := by unfold wrap64; omega
theorem rd_nat (l : List Int) (i : Nat) : rd l (i : Int) = l.getD i 0 := by unfold rd; rw [Int.toNat_natCast]
theorem getD_of_lt {α : Type} (l : List α) (d : α) (i : Nat) (h : i < l.length) : l.getD i d = l[i] := by simp [List.getD_eq_getElem?_getD, List.getElem?_eq_getElem h]
theorem ext_getD {a b : List Int} (hl : a.length = b.length) (h : ∀ i, i < a.length → a.getD i 0 = b.getD i 0) : a = b := by
  apply List.ext_getElem hl
  intro i h1 h2
  have := h i h1
  rwa [getD_of_lt a 0 i h1, getD_of_lt b 0 i h2] at this
theorem getD_set (l : List Int) (i j : Nat) (x : Int) (hi : i < l.length) : (l.set i x).getD j 0 = if j = i then x else l.getD j 0 := by
  simp only [List.getD_eq_getElem?_getD, List.getElem?_set]
  by_cases h : i = j
  · subst h; simp [hi]
  · rw [if_neg h, if_neg (fun e => h e.symm)]
theorem getD_tab (n : Nat) (f : Nat → Int) (j : Nat) (h : j < n) : ((List.range n).map f).getD j 0 = f j := by
  simp [List.getD_eq_getElem?_getD, List.getElem?_map, List.getElem?_range h]
theorem len_tab (n : Nat) (f : Nat → Int) : ((List.range n).map f).length = n := by simp
theorem tab_congr (n : Nat) (f g : Nat → Int) (h : ∀ i, i < n → f i = g i) : (List.range n).map f = (List.range n).map g :=
  List.map_congr_left (fun i hi => h i (List.mem_range.1 hi))
theorem tab_self (l : List Int) : (List.range l.length).map (fun i => l.getD i 0) = l := by
  apply ext_getD (by simp)
  intro i hi
  rw [len_tab] at hi
  rw [getD_tab _ _ _ hi]
/-- A table that is filled place by place: after i rounds those whose round has been are told, the others are 0. -/
def fill (n : Nat) (s : Nat → Nat) (f : Nat → Int) (i : Nat) : List Int := (List.range n).map fun m => if s m < i then f m else 0
theorem fill_len (n : Nat) (s : Nat → Nat) (f : Nat → Int) (i : Nat) : (fill n s f i).length = n := len_tab _ _
theorem fill_zero (n : Nat) (s : Nat → Nat) (f : Nat → Int) : fill n s f 0 = List.replicate n 0 := by
  unfold fill
  simp [List.map_const']
theorem fill_all (n : Nat) (s : Nat → Nat) (f : Nat → Int) (h : ∀ m, m < n → s m < n) : fill n s f n = (List.range n).map f := tab_congr _ _ _ (fun i hi => if_pos (h i hi))
theorem fill_set (n : Nat) (s : Nat → Nat) (f : Nat → Int) (i p : Nat) (hp : p < n) (hs : ∀ m, m < n → (s m = i ↔ m = p)) : (fill n s f i).set p (f p) = fill n s f (i + 1) := by
  apply ext_getD (by rw [List.length_set, fill_len, fill_len])
  intro j hj
  rw [List.length_set, fill_len] at hj
  rw [getD_set _ _ _ _ (by rw [fill_len]; exact hp)]
  unfold fill
  rw [getD_tab _ _ _ hj, getD_tab _ _ _ hj]
  have := hs j hj
  by_cases e : j = p
  · subst e
    rw [if_pos rfl, if_pos (by have := this.2 rfl; omega)]
  · rw [if_neg e]
    have hne : s j ≠ i := fun h => e (this.1 h)
    by_cases h : s j < i
    · rw [if_pos h, if_pos (by omega)]
    · rw [if_neg h, if_neg (by omega)]
theorem fill_set_id (n : Nat) (f : Nat → Int) (i : Nat) (hi : i < n) : (fill n id f i).set i (f i) = fill n id f (i + 1) := fill_set n id f i i hi (fun m _ => Iff.rfl)
theorem fill_all_id (n : Nat) (f : Nat → Int) : fill n id f n = (List.range n).map f := fill_all n id f (fun _ h => h)
/-! The laws' own helpers. -/
def szI (n : Nat) (left : Int) : Int := if left - (n : Int) < 0 then -1 else left - (n : Int)
theorem szIntS_eq (l : List Int) (left : Int) (h0 : 0 ≤ left) (h1 : left ≤ 1048576) (hl : l.length ≤ maxLen) : laws_szIntS.f l left = some (szI l.length left) := by
  unfold maxLen at hl
  unfold laws_szIntS.f szI
  rw [wid (left - (l.length : Int)) (by omega) (by omega)]
  split <;> rfl
theorem toIntS_ev (l : List Int) (hl : l.length ≤ 1048576) : Ev (fun k => laws_toIntS.f k l) l := by
  have key : ∀ d i : Nat, i + d = l.length → Ev (fun k => laws_toIntS.l0 k l (fill l.length id (fun j => l.getD j 0) i) (i : Int)) l := by
    intro d
    induction d with
    | zero =>
      intro i hi
      obtain rfl : i = l.length := by omega
      refine Ev.step (f := fun _ => some l) (fun k => ?_) (Ev.now _)
      simp only [laws_toIntS.l0]
      rw [if_neg (by omega), fill_all_id, tab_self]
    | succ d ih =>
      intro i hi
      refine Ev.step (fun k => ?_) (ih (i + 1) (by omega))
      simp only [laws_toIntS.l0]
      rw [if_pos (by omega), if_pos (by omega), fill_len, if_pos (by omega), wsucc i (by omega), rd_nat, Int.toNat_natCast, fill_set_id _ _ _ (by omega)]
  refine Ev.congr (fun k => ?_) (key l.length 0 (by omega))
  unfold laws_toIntS.f
  rw [if_pos (by omega), if_pos (by omega), Int.toNat_natCast, fill_zero]
  rfl
theorem eqIntS_ev (a b : List Int) (ha : a.length ≤ 1048576) : Ev (fun k => laws_eqIntS.f k a b) (decide (a = b)) := by
  by_cases hl : a.length = b.length
  · have key : ∀ d i : Nat, i + d = a.length → (∀ j, j < i → a.getD j 0 = b.getD j 0) → Ev (fun k => laws_eqIntS.l0 k a b (i : Int)) (decide (a = b)) := by
      intro d
      induction d with
      | zero =>
        intro i hi hj
        have : a = b := ext_getD hl (fun j h => hj j (by omega))
        rw [decide_eq_true this]
        refine Ev.step (f := fun _ => some true) (fun k => ?_) (Ev.now _)
        simp only [laws_eqIntS.l0]
        rw [if_neg (by omega)]
      | succ d ih =>
        intro i hi hj
        by_cases e : a.getD i 0 = b.getD i 0
        · refine Ev.step (fun k => ?_) (ih (i + 1) (by omega) (fun j h => if hji : j = i then hji ▸ e else hj j (by omega)))
          simp only [laws_eqIntS.l0]
          rw [if_pos (by omega), if_pos (by omega), if_pos (by omega), rd_nat, rd_nat, if_pos e, wsucc i (by omega)]
        · rw [decide_eq_false (fun h => e (by rw [h]))]
          refine Ev.step (f := fun _ => some false) (fun k => ?_) (Ev.now _)
          simp only [laws_eqIntS.l0]
          rw [if_pos (by omega), if_pos (by omega), if_pos (by omega), rd_nat, rd_nat, if_neg e]
    refine Ev.congr (fun k => ?_) (key a.length 0 (by omega) (fun j h => absurd h (by omega)))
    unfold laws_eqIntS.f
    rw [if_pos (by omega)]
    rfl
  · rw [decide_eq_false (fun h => hl (by rw [h]))]
    refine Ev.congr (fun k => ?_) (Ev.now _)
    unfold laws_eqIntS.f
    rw [if_neg (by omega)]
/-- The list that marking leaves. -/
def marks (n : Nat) (x : Int) : List Int := (List.range n).map fun (j : Nat) => x + (j : Int)
theorem marks_len (n : Nat) (x : Int) : (marks n x).length = n := len_tab _ _
def marking (l : List Int) (x : Int) (i : Nat) : List Int := (List.range l.length).map fun m => if m < i then x + (m : Int) else l.getD m 0
theorem marking_zero (l : List Int) (x : Int) : marking l x 0 = l := by
  unfold marking
  simp only [Nat.not_lt_zero, if_false]
  exact tab_self l
theorem marking_all (l : List Int) (x : Int) : marking l x l.length = marks l.length x := tab_congr _ _ _ (fun i hi => if_pos hi)
theorem marking_len (l : List Int) (x : Int) (i : Nat) : (marking l x i).length = l.length := len_tab _ _
theorem marking_set (l : List Int) (x : Int) (i : Nat) (hi : i < l.length) : (marking l x i).set i (x + (i : Int)) = marking l x (i + 1) := by
  apply ext_getD (by rw [List.length_set, marking_len, marking_len])
  intro j hj
  rw [List.length_set, marking_len] at hj
  rw [getD_set _ _ _ _ (by rw [marking_len]; exact hi)]
  unfold marking
  rw [getD_tab _ _ _ hj, getD_tab _ _ _ hj]
  by_cases e : j = i
  · subst e
    rw [if_pos rfl, if_pos (by omega)]
  · rw [if_neg e]
    by_cases h : j < i
    · rw [if_pos h, if_pos (by omega)]
    · rw [if_neg h, if_neg (by omega)]
theorem markIntS_ev (l : List Int) (x : Int) (hl : l.length ≤ 1048576) (h0 : 0 ≤ x) (h1 : x ≤ 1073741824) : Ev (fun k => laws_markIntS.f k l x) (x + (l.length : Int), marks l.length x) := by
  have key : ∀ d i : Nat, i + d = l.length → Ev (fun k => laws_markIntS.l0 k (marking l x i) (x + (i : Int)) (i : Int)) (x + (l.length : Int), marks l.length x) := by
    intro d
    induction d with
    | zero =>
      intro i hi
      obtain rfl : i = l.length := by omega
      refine Ev.step (f := fun _ => some (x + (l.length : Int), marks l.length x)) (fun k => ?_) (Ev.now _)
      simp only [laws_markIntS.l0]
      rw [marking_len, if_neg (by omega), marking_all]
    | succ d ih =>
      intro i hi
      refine Ev.step (fun k => ?_) (ih (i + 1) (by omega))
      simp only [laws_markIntS.l0]
      rw [marking_len, if_pos (by omega), if_pos (by omega), wsucc i (by omega), Int.toNat_natCast, marking_set _ _ _ (by omega), wid (x + (i : Int) + 1) (by omega) (by omega)]
      rw [show x + (i : Int) + 1 = x + ((i + 1 : Nat) : Int) by omega]
  refine Ev.congr (fun k => ?_) (key l.length 0 (by omega))
  unfold laws_markIntS.f
  rw [marking_zero]
  simp
theorem heldIntS_ev (n : Nat) (x : Int) (hl : n ≤ 1048576) (h0 : 0 ≤ x) (h1 : x ≤ 1073741824) : Ev (fun k => laws_heldIntS.f k (marks n x) x) (x + (n : Int)) := by
  have key : ∀ d i : Nat, i + d = n → Ev (fun k => laws_heldIntS.l0 k (marks n x) (x + (i : Int)) (i : Int)) (x + (n : Int)) := by
    intro d
    induction d with
    | zero =>
      intro i hi
      obtain rfl : i = n := by omega
      refine Ev.step (f := fun _ => some (x + (i : Int))) (fun k => ?_) (Ev.now _)
      simp only [laws_heldIntS.l0]
      rw [marks_len, if_neg (by omega)]
    | succ d ih =>
      intro i hi
      refine Ev.step (fun k => ?_) (ih (i + 1) (by omega))
      simp only [laws_heldIntS.l0]
      have hr : rd (marks n x) (i : Int) = x + (i : Int) := by rw [rd_nat]; unfold marks; rw [getD_tab _ _ _ (by omega)]
      rw [marks_len, if_pos (by omega), if_pos (by omega), hr, if_pos rfl, wsucc i (by omega), wid (x + (i : Int) + 1) (by omega) (by omega)]
      rw [show x + (i : Int) + 1 = x + ((i + 1 : Nat) : Int) by omega]
  refine Ev.congr (fun k => ?_) (key n 0 (by omega))
  unfold laws_heldIntS.f
  simp
theorem Ev_pos {α : Type} {c : Prop} [Decidable c] {f g : Nat → Option α} {r : α} (hc : c) (h : Ev f r) : Ev (fun k => if c then f k else g k) r := Ev.congr (fun k => if_pos hc) h
theorem Ev_neg {α : Type} {c : Prop} [Decidable c] {f g : Nat → Option α} {r : α} (hc : ¬ c) (h : Ev g r) : Ev (fun k => if c then f k else g k) r := Ev.congr (fun k => if_neg hc) h
/-! The reference's pictures. -/
theorem l1In_eq (x a b : Int) : spec_l1In.f x a b = some (decide (a ≤ x ∧ x ≤ b)) := by
  unfold spec_l1In.f
  by_cases h : x ≥ a
  · rw [if_pos h]
    congr 1
    rw [decide_eq_decide]
    omega
  · rw [if_neg h, decide_eq_false (by omega)]
theorem area_eq {w h : Int} (h0 : 0 ≤ w) (h1 : 0 ≤ h) : ((h.toNat * w.toNat : Nat) : Int) = w * h := by
  rw [Int.natCast_mul, Int.toNat_of_nonneg h0, Int.toNat_of_nonneg h1, Int.mul_comm]
theorem tdiv_nat (i : Nat) (w : Int) (h : 0 < w) : Int.tdiv (i : Int) w = (i : Int) / w := Int.tdiv_eq_ediv_of_nonneg (by omega)
theorem tmod_nat (i : Nat) (w : Int) : Int.tmod (i : Int) w = (i : Int) % w := Int.tmod_eq_emod_of_nonneg (by omega)
theorem cell_bd {w h : Int} (i : Nat) (h0 : 0 < w) (h1 : 0 < h) (hi : (i : Int) < w * h) : 0 ≤ (i : Int) % w ∧ (i : Int) % w < w ∧ 0 ≤ (i : Int) / w ∧ (i : Int) / w < h ∧ (i : Int) / w * w + (i : Int) % w = i := by
  refine ⟨Int.emod_nonneg _ (by omega), Int.emod_lt_of_pos _ h0, Int.ediv_nonneg (by omega) (by omega), ?_, ?_⟩
  · exact Int.ediv_lt_of_lt_mul h0 (by rw [Int.mul_comm]; exact hi)
  · have := Int.mul_ediv_add_emod (i : Int) w
    rw [Int.mul_comm] at this
    exact this
/-! The laws' helpers on matrices. -/
theorem szMat_ok (w h : Int) (l : List Int) (left : Int) (h0 : 0 ≤ left) (h1 : left ≤ 1048576) (hl : (l.length : Int) ≤ left) : laws_szMatrix.f w h l left = some (left - (l.length : Int)) := by
  unfold laws_szMatrix.f
  rw [szIntS_eq l left h0 h1 (by unfold maxLen; omega)]
  unfold szI
  rw [if_neg (by omega), Option.bind_some, if_neg (by omega)]
theorem szMat_big (w h : Int) (l : List Int) (left : Int) (h0 : 0 ≤ left) (h1 : left ≤ 1048576) (hm : l.length ≤ maxLen) (hl : ¬ (l.length : Int) ≤ left) : laws_szMatrix.f w h l left = some (-1) := by
  unfold laws_szMatrix.f
  rw [szIntS_eq l left h0 h1 hm]
  unfold szI
  rw [if_pos (by omega), Option.bind_some, if_pos (by omega)]
theorem toMat_ev (w h : Int) (l : List Int) (hl : l.length ≤ 1048576) : Ev (fun k => laws_toMatrix.f k w h l) (w, h, l) := by
  unfold laws_toMatrix.f
  exact Ev.bind (toIntS_ev l hl) (Ev.now _)
theorem eqMat_ev (w h : Int) (l : List Int) (w2 h2 : Int) (l2 : List Int) (hl : l.length ≤ 1048576) : Ev (fun k => laws_eqMatrix.f k w h l w2 h2 l2) (decide (w = w2 ∧ h = h2 ∧ l = l2)) := by
  unfold laws_eqMatrix.f
  by_cases e1 : w = w2
  · simp only [if_pos e1]
    by_cases e2 : h = h2
    · simp only [if_pos e2]
      refine Ev.bind (eqIntS_ev l l2 hl) ?_
      by_cases e3 : l = l2
      · rw [decide_eq_true e3, decide_eq_true ⟨e1, e2, e3⟩]
        exact Ev.now _
      · rw [decide_eq_false e3, decide_eq_false (fun h => e3 h.2.2)]
        exact Ev.now _
    · simp only [if_neg e2]
      rw [decide_eq_false (fun h => e2 h.2.1)]
      exact Ev.now _
  · simp only [if_neg e1]
    rw [decide_eq_false (fun h => e1 h.1)]
    exact Ev.now _
theorem eqMat_self (w h : Int) (l : List Int) (hl : l.length ≤ 1048576) : Ev (fun k => laws_eqMatrix.f k w h l w h l) true := by
  have := eqMat_ev w h l w h l hl
  rwa [decide_eq_true ⟨rfl, rfl, rfl⟩] at this
theorem markMat_ev (w h : Int) (l : List Int) (x : Int) (hl : l.length ≤ 1048576) (h0 : 0 ≤ x) (h1 : x ≤ 1073741824) : Ev (fun k => laws_markMatrix.f k w h l x) (x + (l.length : Int), marks l.length x) := by
  unfold laws_markMatrix.f
  exact Ev.bind (markIntS_ev l x hl h0 h1) (Ev.now _)
theorem heldMat_ev (w h : Int) (n : Nat) (x : Int) (hl : n ≤ 1048576) (h0 : 0 ≤ x) (h1 : x ≤ 1073741824) : Ev (fun k => laws_heldMatrix.f k w h (marks n x) x) (x + (n : Int)) := by
  unfold laws_heldMatrix.f
  refine Ev.bind (heldIntS_ev n x hl h0 h1) ?_
  rw [if_neg (by omega)]
  exact Ev.now _
/-! Matrices. -/
theorem l2Shape_eq (a b : Int) : spec_l2Shape.f a b = some (celledB a b) := by
  unfold spec_l2Shape.f celledB
  rw [l1In_eq, Option.bind_some]
  by_cases h0 : 1 ≤ a ∧ a ≤ 256
  · rw [decide_eq_true h0, if_pos rfl, l1In_eq, Option.bind_some]
    by_cases h1 : 1 ≤ b ∧ b ≤ 256
    · rw [decide_eq_true h1, if_pos rfl]
      have e0 : 0 ≤ a * b := Int.mul_nonneg (by omega) (by omega)
      have e1 : a * b ≤ 256 * 256 := Int.le_trans (Int.mul_le_mul_of_nonneg_right h0.2 (by omega)) (Int.mul_le_mul_of_nonneg_left h1.2 (by omega))
      rw [wid (a * b) (by omega) (by omega)]
      congr 1
      rw [decide_eq_decide]
      exact ⟨fun h => ⟨h0.1, h0.2, h1.1, h1.2, h⟩, fun h => h.2.2.2.2⟩
    · rw [decide_eq_false h1, if_neg (by simp), decide_eq_false (fun h => h1 ⟨h.2.2.1, h.2.2.2.1⟩)]
  · rw [decide_eq_false h0, if_neg (by simp), decide_eq_false (fun h => h0 ⟨h.1, h.2.1⟩)]
theorem specIsMatrix_ev (w h : Int) (l : List Int) (hl : l.length ≤ 1048576) : ∃ r : Bool, Ev (fun k => spec_IsMatrix.f k w h l) r ∧ Ev (fun _ => impl_IsMatrix.f w h l) r := by
  unfold spec_IsMatrix.f impl_IsMatrix.f
  rw [l2Shape_eq, impl_celled.eq]
  simp only [Option.bind_some]
  have bad : Ev (fun k => spec_IsMatrix.j0 k true w h l) false := by
    refine Ev.step (f := fun _ => some false) (fun k => ?_) (Ev.now _)
    simp only [spec_IsMatrix.j0, if_true]
  by_cases hc : celledB w h = true
  · by_cases hn : ((l.length : Int) != wrap64 (w * h)) = true
    · exact ⟨false, Ev_pos hc (by rw [hn]; exact bad), Ev_pos hc (Ev_pos hn (Ev.now _))⟩
    · rw [Bool.not_eq_true] at hn
      obtain ⟨h0, h1, h2, h3, h4⟩ := celled_spec hc
      have e0 : 0 ≤ w * h := Int.mul_nonneg (by omega) (by omega)
      have hln : (l.length : Int) = w * h := by
        have : (l.length : Int) = wrap64 (w * h) := by simpa using hn
        rw [this, wid (w * h) (by omega) (by omega)]
      have hsm : l.length ≤ 256 := by omega
      have key : ∀ (d i : Nat) (s : List Bool) (s2 : List Bool), i + d = l.length → s.length = l.length → s2.length = 256 → (∀ j, j < l.length → s.getD j false = s2.getD j false) → Ev (fun k => spec_IsMatrix.l0 k s l (l.length : Int) (i : Int) w h l) (seenB (l.drop i) (l.length : Int) s2) := by
        intro d
        induction d with
        | zero =>
          intro i s s2 hi hs hs2 he
          rw [List.drop_eq_nil_of_le (by omega)]
          refine Ev.step (fun k => by rw [spec_IsMatrix.l0]) ?_
          exact Ev_neg (by omega) (Ev.now true)
        | succ d ih =>
          intro i s s2 hi hs hs2 he
          have hr : rd l (i : Int) = l[i] := by rw [rd_nat, getD_of_lt]
          rw [List.drop_eq_getElem_cons (by omega)]
          unfold seenB
          refine Ev.step (fun k => by rw [spec_IsMatrix.l0]) ?_
          refine Ev_pos (by omega) (Ev_pos (by omega) (Ev_pos (by omega) ?_))
          rw [hr, wid ((l.length : Int) - 1) (by omega) (by omega), l1In_eq]
          simp only [Option.bind_some]
          generalize l[i] = x
          by_cases c : 0 ≤ x ∧ x ≤ (l.length : Int) - 1
          · refine Ev_pos (decide_eq_true c) (Ev_pos c.1 (Ev_pos (by omega) ?_))
            rw [if_neg (by omega), if_neg (by omega)]
            have hx := he x.toNat (by omega)
            have hrd : rdOf false s x = s2.getD x.toNat false := by rw [← hx]; rfl
            rw [hrd]
            by_cases b : s2.getD x.toNat false = true
            · rw [if_pos b]
              exact Ev_pos b (Ev.now _)
            · rw [if_neg b]
              refine Ev_neg b ?_
              rw [wsucc i (by omega)]
              refine ih (i + 1) _ _ (by omega) (by rw [List.length_set]; exact hs) (by rw [List.length_set]; exact hs2) (fun j hj => ?_)
              simp only [List.getD_eq_getElem?_getD, List.getElem?_set]
              have hj' := he j hj
              simp only [List.getD_eq_getElem?_getD] at hj'
              by_cases q : x.toNat = j
              · rw [if_pos q, if_pos q, if_pos (by omega), if_pos (by omega)]
              · rw [if_neg q, if_neg q]
                exact hj'
          · refine Ev_neg (by rw [decide_eq_false c]; simp) ?_
            by_cases c1 : x < 0
            · rw [if_pos c1]
              exact Ev.now _
            · rw [if_neg c1, if_pos (by omega)]
              exact Ev.now _
      refine ⟨seenB l (l.length : Int) (List.replicate 256 false), Ev_pos hc ?_, Ev_pos hc (Ev_neg (by rw [hn]; simp) (Ev.now _))⟩
      rw [hn]
      refine Ev.step (fun k => by rw [spec_IsMatrix.j0]) ?_
      refine Ev_neg (by simp) (Ev_pos (by omega) (Ev_pos (by omega) ?_))
      have := key l.length 0 (List.replicate l.length false) (List.replicate 256 false) (by omega) List.length_replicate List.length_replicate (fun j hj => by
        rw [getD_of_lt _ false j (by rw [List.length_replicate]; exact hj), getD_of_lt _ false j (by rw [List.length_replicate]; omega), List.getElem_replicate, List.getElem_replicate])
      rw [Int.toNat_natCast]
      exact this
  · exact ⟨false, Ev_neg hc bad, Ev_neg hc (Ev.now _)⟩
/-! Ranks. -/
theorem specMod_ev (x w : Int) (hw : 0 < w) (hw2 : w ≤ 1000000000000) : spec_l2Mod.f x w = some (x % w) := by
  have b0 := Int.emod_nonneg x (b := w) (by omega)
  have b1 := Int.emod_lt_of_pos x hw
  unfold spec_l2Mod.f
  rw [if_neg (by omega)]
  by_cases hx : 0 ≤ x
  · rw [Int.tmod_eq_emod_of_nonneg hx, if_neg (by omega)]
  · have e : Int.tmod x w = -((-x) % w) := by
      rw [← Int.tmod_eq_emod_of_nonneg (by omega : 0 ≤ -x), Int.neg_tmod, Int.neg_neg]
    have c0 := Int.emod_nonneg (-x) (b := w) (by omega)
    have c1 := Int.emod_lt_of_pos (-x) hw
    rw [e]
    have d1 := Int.mul_ediv_add_emod x w
    have d2 := Int.mul_ediv_add_emod (-x) w
    by_cases hz : (-x) % w = 0
    · rw [hz, if_neg (by omega)]
      have : x % w = 0 := Int.emod_eq_zero_of_dvd ((Int.dvd_neg.1 (Int.dvd_of_emod_eq_zero hz)))
      rw [this]
      rfl
    · rw [if_pos (by omega), wid _ (by omega) (by omega)]
      congr 1
      have e3 : w * (x / w) + w * (-x / w) = w * (x / w + -x / w) := (Int.mul_add _ _ _).symm
      have k1 : x / w + -x / w < 0 := by
        by_cases k : 0 ≤ x / w + -x / w
        · have := Int.mul_nonneg (by omega : 0 ≤ w) k
          omega
        · omega
      have k2 : -2 < x / w + -x / w := by
        by_cases k : x / w + -x / w ≤ -2
        · have := Int.mul_le_mul_of_nonneg_left k (by omega : 0 ≤ w)
          omega
        · omega
      rw [show x / w + -x / w = -1 by omega] at e3
      omega
theorem specIsMat_ev (w h : Int) (l : List Int) (hl : l.length ≤ 1048576) : Ev (fun k => spec_IsMatrix.f k w h l) (matB w h l) := by
  obtain ⟨r, h1, K, h2⟩ := specIsMatrix_ev w h l hl
  have := h2 K (Nat.le_refl _)
  rw [impl_IsMatrix.eq] at this
  rw [Option.some.inj this]
  exact h1
theorem rank_eq {w h : Int} {l : List Int} (hm : matB w h l = true) (x y : Int) : spec_l2Rank.f w h l x y = some (rd l (y % h * w + x % w)) ∧ impl_rank.f w h l x y = some (rd l (y % h * w + x % w)) := by
  obtain ⟨h0, h1, h2, h3, h4, h5, _⟩ := mat_spec hm
  have bx := Int.emod_nonneg x (b := w) (by omega)
  have bx' := Int.emod_lt_of_pos x (b := w) (by omega)
  have by_ := Int.emod_nonneg y (b := h) (by omega)
  have by' := Int.emod_lt_of_pos y (b := h) (by omega)
  have hb := idx_lt (w := w) (h := h) (x := x % w) (y := y % h) bx bx' by_ by'
  have hm0 : 0 ≤ y % h * w := Int.mul_nonneg (by omega) (by omega)
  unfold spec_l2Rank.f impl_rank.f
  rw [specMod_ev y h (by omega) (by omega), specMod_ev x w (by omega) (by omega), impl_mod.eq y h (by omega) (by omega), impl_mod.eq x w (by omega) (by omega)]
  simp only [Option.bind_some]
  rw [wid (y % h * w) (by omega) (by omega), wid (y % h * w + x % w) (by omega) (by omega), if_pos hb.1, if_pos (by omega)]
  exact ⟨rfl, rfl⟩
/-! Doubling. -/
def dblG (w h : Int) (l : List Int) (x y : Int) : Int := wrap64 (wrap64 (4 * rd l (y % h * w + x % w)) + impl_DoubleMatrix.quarter w h x y)
theorem specDbl_ev {w h : Int} {l : List Int} (hm : matB w h l = true) : Ev (fun k => spec_l2Double.f k w h l) (2 * w, 2 * h, gridL (2 * w) (dblG w h l) (4 * l.length)) := by
  obtain ⟨a0, a1, a2, a3, a4, a5, _⟩ := mat_spec hm
  unfold spec_l2Double.f
  rw [wid (2 * w) (by omega) (by omega), wid (2 * h) (by omega) (by omega)]
  have key : ∀ d i : Nat, i + d = 4 * l.length → Ev (fun k => spec_l2Double.l0 k (i : Int) w h l (2 * w) (2 * h) (gridL (2 * w) (dblG w h l) i)) (2 * w, 2 * h, gridL (2 * w) (dblG w h l) (4 * l.length)) := by
    intro d
    induction d with
    | zero =>
      intro i hi
      obtain rfl : i = 4 * l.length := by omega
      exact Ev.step (fun k => by rw [spec_l2Double.l0]) (Ev_neg (by rw [wid _ (by omega) (by omega)]; omega) (Ev.now _))
    | succ d ih =>
      intro i hi
      have nx := ih (i + 1) (by omega)
      have harea : (i : Int) < 2 * w * (2 * h) := by
        have : 2 * w * (2 * h) = 4 * (w * h) := by rw [Int.mul_assoc, Int.mul_left_comm w 2 h]; omega
        omega
      obtain ⟨b0, b1, b2, b3, b4⟩ := cell_bd (w := 2 * w) (h := 2 * h) i (by omega) (by omega) harea
      rw [gridL_succ] at nx
      have ec : cellAt (2 * w) (dblG w h l) i = dblG w h l ((i : Int) % (2 * w)) ((i : Int) / (2 * w)) := rfl
      rw [ec, ← wsucc i (by omega)] at nx
      have hlen := gridL_len (2 * w) (dblG w h l) i
      refine Ev.step (fun k => by rw [spec_l2Double.l0]) (Ev_pos (by rw [wid _ (by omega) (by omega)]; omega) (Ev_neg (by omega) ?_))
      rw [tmod_nat, tdiv_nat i (2 * w) (by omega), wid ((i : Int) / (2 * w)) (by omega) (by omega)]
      generalize (i : Int) % (2 * w) = x at b0 b1 nx ⊢
      generalize (i : Int) / (2 * w) = y at b2 b3 nx ⊢
      have er := (rank_eq hm x y).1
      unfold dblG impl_DoubleMatrix.quarter at nx
      by_cases cx : x < w
      · refine Ev_neg (by omega) (Ev.step (fun k => by rw [spec_l2Double.j1]) (Ev_neg (by simp) (Ev_pos cx (Ev.step (fun k => by rw [spec_l2Double.j2]) ?_))))
        by_cases cy : y < h
        · rw [if_pos cy, if_pos cx] at nx
          refine Ev_neg (by rw [decide_eq_false (by omega)]; simp) (Ev_neg (by omega) ?_)
          rw [er]
          exact Ev_pos (by omega) nx
        · rw [if_neg cy, if_pos cx] at nx
          refine Ev_pos (decide_eq_true (by omega)) ?_
          rw [er]
          exact Ev_pos (by omega) nx
      · refine Ev_pos (by omega) (Ev.step (fun k => by rw [spec_l2Double.j1]) ?_)
        by_cases cy : y < h
        · rw [if_pos cy, if_neg cx] at nx
          refine Ev_pos (decide_eq_true cy) ?_
          rw [er]
          exact Ev_pos (by omega) nx
        · rw [if_neg cy, if_neg cx] at nx
          refine Ev_neg (by rw [decide_eq_false cy]; simp) (Ev_neg cx (Ev.step (fun k => by rw [spec_l2Double.j2]) (Ev_neg (by simp) (Ev_pos (by omega) (Ev_pos (by omega) ?_)))))
          rw [er]
          exact Ev_pos (by omega) nx
  exact key (4 * l.length) 0 (by omega)
theorem celled_dbl {w h : Int} {l : List Int} (hm : matB w h l = true) : celledB (2 * w) (2 * h) = true ↔ ¬ 4 * (l.length : Int) > 256 := by
  obtain ⟨a0, a1, a2, a3, a4, a5, _⟩ := mat_spec hm
  have e : 2 * w * (2 * h) = 4 * (w * h) := by rw [Int.mul_assoc, Int.mul_left_comm w 2 h]; omega
  constructor
  · intro hc
    have := celled_spec hc
    omega
  · intro hc
    have b0 : w * 1 ≤ w * h := Int.mul_le_mul_of_nonneg_left a2 (by omega)
    have b1 : 1 * h ≤ w * h := Int.mul_le_mul_of_nonneg_right a0 (by omega)
    exact decide_eq_true (by omega)
theorem dbl_area {w h : Int} {l : List Int} (hm : matB w h l = true) : (2 * h).toNat * (2 * w).toNat = 4 * l.length := by
  obtain ⟨a0, a1, a2, a3, a4, a5, _⟩ := mat_spec hm
  have := area_eq (w := 2 * w) (h := 2 * h) (by omega) (by omega)
  have e : 2 * w * (2 * h) = 4 * (w * h) := by rw [Int.mul_assoc, Int.mul_left_comm w 2 h]; omega
  omega
theorem implDbl_eq {w h : Int} {l : List Int} (hm : matB w h l = true) : impl_DoubleMatrix.f w h l = if 4 * (l.length : Int) > 256 then some (0, 0, [], false) else some (2 * w, 2 * h, gridL (2 * w) (dblG w h l) (4 * l.length), true) := by
  unfold impl_DoubleMatrix.f
  by_cases c : 4 * (l.length : Int) > 256
  · rw [if_pos c, if_neg (fun q => (celled_dbl hm).1 q.2 c)]
  · rw [if_neg c, if_pos ⟨hm, (celled_dbl hm).2 c⟩, dbl_area hm]
    rfl
theorem DoubleMatrix_same (w h : Int) (l : List Int) (hl : l.length ≤ 1048576) : ∃ (x y : Int) (L : List Int) (b : Bool), L.length ≤ 1048576 ∧ Ev (fun k => spec_DoubleMatrix.f k w h l) (x, y, L, b) ∧ Ev (fun k => impl_DoubleMatrix.f w h l) (x, y, L, b) := by
  by_cases hm : matB w h l = true
  · obtain ⟨a0, a1, a2, a3, a4, a5, _⟩ := mat_spec hm
    rw [implDbl_eq hm]
    by_cases c : 4 * (l.length : Int) > 256
    · refine ⟨0, 0, [], false, Nat.zero_le _, ?_, Ev_pos c (Ev.now _)⟩
      unfold spec_DoubleMatrix.f
      exact Ev.bind (specIsMat_ev w h l hl) (Ev_pos hm (Ev_pos (by rw [wid _ (by omega) (by omega)]; exact c) (Ev.now _)))
    · refine ⟨2 * w, 2 * h, gridL (2 * w) (dblG w h l) (4 * l.length), true, by rw [gridL_len]; omega, ?_, Ev_neg c (Ev.now _)⟩
      unfold spec_DoubleMatrix.f
      exact Ev.bind (specIsMat_ev w h l hl) (Ev_pos hm (Ev_neg (by rw [wid _ (by omega) (by omega)]; exact c) (Ev.bind (specDbl_ev hm) (Ev.now _))))
  · refine ⟨0, 0, [], false, Nat.zero_le _, ?_, ?_⟩
    · unfold spec_DoubleMatrix.f
      exact Ev.bind (specIsMat_ev w h l hl) (Ev_neg hm (Ev.now _))
    · unfold impl_DoubleMatrix.f
      exact Ev_neg (fun q => hm q.1) (Ev.now _)
/-- The law FnExactDoubleMatrix: the program's DoubleMatrix answers what the reference's answers. -/
theorem FnExactDoubleMatrix (a0_0 a0_1 : Int) (l0_2 : List Int) (h0_ : (Lit.int .i64 a0_0).wf = true) (h1_ : (Lit.int .i64 a0_1).wf = true) (h2_ : l0_2.length ≤ maxLen) (h3_ : (∀ x ∈ l0_2, (Lit.int .i64 x).wf = true)) :
    ∃ k, P.laws_FnExactDoubleMatrix.f k a0_0 a0_1 l0_2 = some true := by
  refine Ev.rounds ?_
  unfold laws_FnExactDoubleMatrix.f
  by_cases hl0 : (l0_2.length : Int) ≤ 1048576
  · rw [szMat_ok a0_0 a0_1 l0_2 (1048576) (by omega) (by omega) hl0]
    simp only [Option.bind_some]
    refine Ev_neg (by omega) ?_
    obtain ⟨x, y, L, b, HL, HS, HI⟩ := DoubleMatrix_same a0_0 a0_1 l0_2 (by omega)
    repeat (first
      | exact Ev.now _
      | (refine Ev.bind HS ?_; try dsimp only)
      | (refine Ev.bind HI ?_; try dsimp only)
      | (refine Ev.bind (toMat_ev _ _ _ (by first | assumption | omega | (rw [List.length_map]; omega))) ?_; try dsimp only)
      | (refine Ev.bind (eqMat_self _ _ _ (by first | assumption | omega | (rw [List.length_map]; omega))) ?_; try dsimp only)
      | (refine Ev.bind (markMat_ev _ _ _ _ (by first | assumption | omega | (rw [List.length_map]; omega)) (by omega) (by omega)) ?_; try dsimp only)
      | (refine Ev.bind (heldMat_ev _ _ _ _ (by first | assumption | omega | (rw [List.length_map]; omega)) (by omega) (by omega)) ?_; try dsimp only)
      | (refine Ev_pos (by first | rfl | omega) ?_)
      | (refine Ev_neg (by first | omega | simp) ?_)
      | (refine Ev.step (fun k => by rw [laws_FnExactDoubleMatrix.j0]) ?_)
      | (refine Ev.step (fun k => by rw [laws_FnExactDoubleMatrix.j1]) ?_)
      | (refine Ev.step (fun k => by rw [laws_FnExactDoubleMatrix.j2]) ?_))
  · rw [szMat_big a0_0 a0_1 l0_2 (1048576) (by omega) (by omega) h2_ hl0]
    simp only [Option.bind_some]
    exact Ev.now _
end Go.Proofs.Ytdlehfnlibddcaa.Q
