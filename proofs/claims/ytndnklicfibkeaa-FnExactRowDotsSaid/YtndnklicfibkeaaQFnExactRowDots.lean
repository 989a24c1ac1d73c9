/- The law FnExactRowDots: the program's RowDots answers what the reference's answers. -/
import Derived.Test.YtndnklicfibkeaaFimplIsPicture
import Derived.Test.YtndnklicfibkeaaFimplRowDots
import Derived.Test.YtndnklicfibkeaaFimplcopied
import Derived.Test.YtndnklicfibkeaaFimpldiffused
import Derived.Test.YtndnklicfibkeaaFimpldown
import Derived.Test.YtndnklicfibkeaaFimplmod
import Derived.Test.YtndnklicfibkeaaFimplshares
import Derived.Test.YtndnklicfibkeaaFimplweight
import Derived.Test.YtndnklicfibkeaaFlawsFnExactRowDots
import Derived.Test.YtndnklicfibkeaaFlawseqIntS
import Derived.Test.YtndnklicfibkeaaFlawsheldIntS
import Derived.Test.YtndnklicfibkeaaFlawsmarkIntS
import Derived.Test.YtndnklicfibkeaaFlawstoIntS
import Derived.Test.YtndnklicfibkeaaFpre
import Derived.Test.YtndnklicfibkeaaFspecIsKernel
import Derived.Test.YtndnklicfibkeaaFspecIsPicture
import Derived.Test.YtndnklicfibkeaaFspecRowDots
import Derived.Test.YtndnklicfibkeaaFspecWeightOf
import Derived.Test.YtndnklicfibkeaaFspecl1In
import Derived.Test.YtndnklicfibkeaaFspecl1Size
import Derived.Test.YtndnklicfibkeaaFspecl1Up
import Derived.Test.YtndnklicfibkeaaFspecl2Mod
import Derived.Test.YtndnklicfibkeaaFspecl4Run
import Derived.Test.YtndnklicfibkeaaFspecl4Shares
import Derived.Test.YtndnklicfibkeaaP0
namespace Go.Proofs.Ytndnklicfibkeaa.Q
open Go.RowKit Go.Proofs.Ytndnklicfibkeaa.P Go.Proofs.YtndnklicfibkeaaW.PrintWords
set_option linter.unusedVariables false
set_option linter.unusedSimpArgs false
theorem wsucc (i : Nat) (h : i < 9223372036854775807) : wrap64 ((i : Int) + 1) = ((i + 1 : Nat) : Int) := by unfold wrap64; omega
theorem wid (x : Int) (h0 : -9223372036854775808 ≤ x) (h1 : x ≤ 9223372036854775807) : wrap64 x = x := by unfold wrap64; omega
theorem rd_nat (l : List Int) (i : Nat) : rd l (i : Int) = l.getD i 0 := by unfold rd; rw [Int.toNat_natCast]
theorem getD_of_lt {α : Type} (l : List α) (d : α) (i : Nat) (h : i < l.length) : l.getD i d = l[i] := by simp [List.getD_eq_getElem?_getD, List.getElem?_eq_getElem h]
theorem getD_mem (l : List Int) (i : Nat) (h : i < l.length) : l.getD i 0 ∈ l := by rw [getD_of_lt l 0 i h]; exact List.getElem_mem h
theorem ext_getD {a b : List Int} (hl : a.length = b.length) (h : ∀ i, i < a.length → a.getD i 0 = b.getD i 0) : a = b := by
  apply List.ext_getElem hl
  intro i h1 h2
  have := h i h1
  rwa [getD_of_lt a 0 i h1, getD_of_lt b 0 i h2] at this
theorem getD_set (l : List Int) (i j : Nat) (x : Int) (hi : i < l.length) : (l.set i x).getD j 0 = if j = i then x else l.getD j 0 := by
  simp only [List.getD_eq_getElem?_getD, List.getElem?_set]
  by_cases h : i = j
  · subst h; simp [hi]
  · rw [if_neg h, if_neg (fun e => h e.symm)]
theorem getD_tab (n : Nat) (f : Nat → Int) (j : Nat) (h : j < n) : ((List.range n).map f).getD j 0 = f j := by
  simp [List.getD_eq_getElem?_getD, List.getElem?_map, List.getElem?_range h]
theorem len_tab (n : Nat) (f : Nat → Int) : ((List.range n).map f).length = n := by simp
theorem tab_congr (n : Nat) (f g : Nat → Int) (h : ∀ i, i < n → f i = g i) : (List.range n).map f = (List.range n).map g :=
  List.map_congr_left (fun i hi => h i (List.mem_range.1 hi))
theorem tab_self (l : List Int) : (List.range l.length).map (fun i => l.getD i 0) = l := by
  apply ext_getD (by simp)
  intro i hi
  rw [len_tab] at hi
  rw [getD_tab _ _ _ hi]
/-- A table that is filled place by place: after i rounds those whose round has been are told, the others are 0. -/
def fill (n : Nat) (s : Nat → Nat) (f : Nat → Int) (i : Nat) : List Int := (List.range n).map fun m => if s m < i then f m else 0
theorem fill_len (n : Nat) (s : Nat → Nat) (f : Nat → Int) (i : Nat) : (fill n s f i).length = n := len_tab _ _
theorem fill_zero (n : Nat) (s : Nat → Nat) (f : Nat → Int) : fill n s f 0 = List.replicate n 0 := by
  unfold fill
  simp [List.map_const']
theorem fill_all (n : Nat) (s : Nat → Nat) (f : Nat → Int) (h : ∀ m, m < n → s m < n) : fill n s f n = (List.range n).map f := tab_congr _ _ _ (fun i hi => if_pos (h i hi))
theorem fill_set (n : Nat) (s : Nat → Nat) (f : Nat → Int) (i p : Nat) (hp : p < n) (hs : ∀ m, m < n → (s m = i ↔ m = p)) : (fill n s f i).set p (f p) = fill n s f (i + 1) := by
  apply ext_getD (by rw [List.length_set, fill_len, fill_len])
  intro j hj
  rw [List.length_set, fill_len] at hj
  rw [getD_set _ _ _ _ (by rw [fill_len]; exact hp)]
  unfold fill
  rw [getD_tab _ _ _ hj, getD_tab _ _ _ hj]
  have := hs j hj
  by_cases e : j = p
  · subst e
    rw [if_pos rfl, if_pos (by have := this.2 rfl; omega)]
  · rw [if_neg e]
    have hne : s j ≠ i := fun h => e (this.1 h)
    by_cases h : s j < i
    · rw [if_pos h, if_pos (by omega)]
    · rw [if_neg h, if_neg (by omega)]
theorem fill_set_id (n : Nat) (f : Nat → Int) (i : Nat) (hi : i < n) : (fill n id f i).set i (f i) = fill n id f (i + 1) := fill_set n id f i i hi (fun m _ => Iff.rfl)
theorem fill_all_id (n : Nat) (f : Nat → Int) : fill n id f n = (List.range n).map f := fill_all n id f (fun _ h => h)
/-! Sums. -/
def sumTo (l : List Int) (i : Nat) : Int := (l.take i).foldl (· + ·) 0
theorem foldl_add (l : List Int) (a : Int) : l.foldl (· + ·) a = a + l.foldl (· + ·) 0 := by
  induction l generalizing a with
  | nil => simp
  | cons x r ih => simp only [List.foldl_cons]; rw [ih (a + x), ih (0 + x)]; omega
def sumL (l : List Int) : Int := l.foldl (· + ·) 0
theorem sumL_append (a b : List Int) : sumL (a ++ b) = sumL a + sumL b := by unfold sumL; rw [List.foldl_append, foldl_add]
theorem sumL_one (x : Int) : sumL [x] = x := by simp [sumL]
theorem sumL_cons (x : Int) (l : List Int) : sumL (x :: l) = x + sumL l := by rw [show x :: l = [x] ++ l from rfl, sumL_append, sumL_one]
theorem sumTo_succ (l : List Int) (i : Nat) (h : i < l.length) : sumTo l (i + 1) = sumTo l i + l.getD i 0 := by
  unfold sumTo
  rw [List.take_succ_eq_append_getElem h, List.foldl_append, getD_of_lt l 0 i h]
  simp
theorem sumTo_zero (l : List Int) : sumTo l 0 = 0 := by simp [sumTo]
theorem sumTo_all (l : List Int) : sumTo l l.length = sumL l := by simp [sumTo, sumL]
theorem sumTo_bd (l : List Int) (lo hi : Int) (h0 : lo ≤ 0) (h1 : 0 ≤ hi) (h : ∀ x ∈ l, lo ≤ x ∧ x ≤ hi) (i : Nat) (hi' : i ≤ l.length) : lo * i ≤ sumTo l i ∧ sumTo l i ≤ hi * i := by
  induction i with
  | zero => simp [sumTo_zero]
  | succ i ih =>
    have ih := ih (by omega)
    have hm := h _ (getD_mem l i (by omega))
    rw [sumTo_succ l i (by omega)]
    push_cast
    rw [Int.mul_add, Int.mul_add]
    omega
theorem toIntS_ev (l : List Int) (hl : l.length ≤ 1048576) : Ev (fun k => laws_toIntS.f k l) l := by
  have key : ∀ d i : Nat, i + d = l.length → Ev (fun k => laws_toIntS.l0 k l (fill l.length id (fun j => l.getD j 0) i) (i : Int)) l := by
    intro d
    induction d with
    | zero =>
      intro i hi
      obtain rfl : i = l.length := by omega
      refine Ev.step (f := fun _ => some l) (fun k => ?_) (Ev.now _)
      simp only [laws_toIntS.l0]
      rw [if_neg (by omega), fill_all_id, tab_self]
    | succ d ih =>
      intro i hi
      refine Ev.step (fun k => ?_) (ih (i + 1) (by omega))
      simp only [laws_toIntS.l0]
      rw [if_pos (by omega), if_pos (by omega), fill_len, if_pos (by omega), wsucc i (by omega), rd_nat, Int.toNat_natCast, fill_set_id _ _ _ (by omega)]
  refine Ev.congr (fun k => ?_) (key l.length 0 (by omega))
  unfold laws_toIntS.f
  rw [if_pos (by omega), if_pos (by omega), Int.toNat_natCast, fill_zero]
  rfl
theorem eqIntS_ev (a b : List Int) (ha : a.length ≤ 1048576) : Ev (fun k => laws_eqIntS.f k a b) (decide (a = b)) := by
  by_cases hl : a.length = b.length
  · have key : ∀ d i : Nat, i + d = a.length → (∀ j, j < i → a.getD j 0 = b.getD j 0) → Ev (fun k => laws_eqIntS.l0 k a b (i : Int)) (decide (a = b)) := by
      intro d
      induction d with
      | zero =>
        intro i hi hj
        have : a = b := ext_getD hl (fun j h => hj j (by omega))
        rw [decide_eq_true this]
        refine Ev.step (f := fun _ => some true) (fun k => ?_) (Ev.now _)
        simp only [laws_eqIntS.l0]
        rw [if_neg (by omega)]
      | succ d ih =>
        intro i hi hj
        by_cases e : a.getD i 0 = b.getD i 0
        · refine Ev.step (fun k => ?_) (ih (i + 1) (by omega) (fun j h => if hji : j = i then hji ▸ e else hj j (by omega)))
          simp only [laws_eqIntS.l0]
          rw [if_pos (by omega), if_pos (by omega), if_pos (by omega), rd_nat, rd_nat, if_pos e, wsucc i (by omega)]
        · rw [decide_eq_false (fun h => e (by rw [h]))]
          refine Ev.step (f := fun _ => some false) (fun k => ?_) (Ev.now _)
          simp only [laws_eqIntS.l0]
          rw [if_pos (by omega), if_pos (by omega), if_pos (by omega), rd_nat, rd_nat, if_neg e]
    refine Ev.congr (fun k => ?_) (key a.length 0 (by omega) (fun j h => absurd h (by omega)))
    unfold laws_eqIntS.f
    rw [if_pos (by omega)]
    rfl
  · rw [decide_eq_false (fun h => hl (by rw [h]))]
    refine Ev.congr (fun k => ?_) (Ev.now _)
    unfold laws_eqIntS.f
    rw [if_neg (by omega)]
/-- The list that marking leaves. -/
def marks (n : Nat) (x : Int) : List Int := (List.range n).map fun (j : Nat) => x + (j : Int)
theorem marks_len (n : Nat) (x : Int) : (marks n x).length = n := len_tab _ _
def marking (l : List Int) (x : Int) (i : Nat) : List Int := (List.range l.length).map fun m => if m < i then x + (m : Int) else l.getD m 0
theorem marking_zero (l : List Int) (x : Int) : marking l x 0 = l := by
  unfold marking
  simp only [Nat.not_lt_zero, if_false]
  exact tab_self l
theorem marking_all (l : List Int) (x : Int) : marking l x l.length = marks l.length x := tab_congr _ _ _ (fun i hi => if_pos hi)
theorem marking_len (l : List Int) (x : Int) (i : Nat) : (marking l x i).length = l.length := len_tab _ _
theorem marking_set (l : List Int) (x : Int) (i : Nat) (hi : i < l.length) : (marking l x i).set i (x + (i : Int)) = marking l x (i + 1) := by
  apply ext_getD (by rw [List.length_set, marking_len, marking_len])
  intro j hj
  rw [List.length_set, marking_len] at hj
  rw [getD_set _ _ _ _ (by rw [marking_len]; exact hi)]
  unfold marking
  rw [getD_tab _ _ _ hj, getD_tab _ _ _ hj]
  by_cases e : j = i
  · subst e
    rw [if_pos rfl, if_pos (by omega)]
  · rw [if_neg e]
    by_cases h : j < i
    · rw [if_pos h, if_pos (by omega)]
    · rw [if_neg h, if_neg (by omega)]
theorem markIntS_ev (l : List Int) (x : Int) (hl : l.length ≤ 1048576) (h0 : 0 ≤ x) (h1 : x ≤ 1073741824) : Ev (fun k => laws_markIntS.f k l x) (x + (l.length : Int), marks l.length x) := by
  have key : ∀ d i : Nat, i + d = l.length → Ev (fun k => laws_markIntS.l0 k (marking l x i) (x + (i : Int)) (i : Int)) (x + (l.length : Int), marks l.length x) := by
    intro d
    induction d with
    | zero =>
      intro i hi
      obtain rfl : i = l.length := by omega
      refine Ev.step (f := fun _ => some (x + (l.length : Int), marks l.length x)) (fun k => ?_) (Ev.now _)
      simp only [laws_markIntS.l0]
      rw [marking_len, if_neg (by omega), marking_all]
    | succ d ih =>
      intro i hi
      refine Ev.step (fun k => ?_) (ih (i + 1) (by omega))
      simp only [laws_markIntS.l0]
      rw [marking_len, if_pos (by omega), if_pos (by omega), wsucc i (by omega), Int.toNat_natCast, marking_set _ _ _ (by omega), wid (x + (i : Int) + 1) (by omega) (by omega)]
      rw [show x + (i : Int) + 1 = x + ((i + 1 : Nat) : Int) by omega]
  refine Ev.congr (fun k => ?_) (key l.length 0 (by omega))
  unfold laws_markIntS.f
  rw [marking_zero]
  simp
theorem heldIntS_ev (n : Nat) (x : Int) (hl : n ≤ 1048576) (h0 : 0 ≤ x) (h1 : x ≤ 1073741824) : Ev (fun k => laws_heldIntS.f k (marks n x) x) (x + (n : Int)) := by
  have key : ∀ d i : Nat, i + d = n → Ev (fun k => laws_heldIntS.l0 k (marks n x) (x + (i : Int)) (i : Int)) (x + (n : Int)) := by
    intro d
    induction d with
    | zero =>
      intro i hi
      obtain rfl : i = n := by omega
      refine Ev.step (f := fun _ => some (x + (i : Int))) (fun k => ?_) (Ev.now _)
      simp only [laws_heldIntS.l0]
      rw [marks_len, if_neg (by omega)]
    | succ d ih =>
      intro i hi
      refine Ev.step (fun k => ?_) (ih (i + 1) (by omega))
      simp only [laws_heldIntS.l0]
      have hr : rd (marks n x) (i : Int) = x + (i : Int) := by rw [rd_nat]; unfold marks; rw [getD_tab _ _ _ (by omega)]
      rw [marks_len, if_pos (by omega), if_pos (by omega), hr, if_pos rfl, wsucc i (by omega), wid (x + (i : Int) + 1) (by omega) (by omega)]
      rw [show x + (i : Int) + 1 = x + ((i + 1 : Nat) : Int) by omega]
  refine Ev.congr (fun k => ?_) (key n 0 (by omega))
  unfold laws_heldIntS.f
  simp
theorem Ev_pos {α : Type} {c : Prop} [Decidable c] {f g : Nat → Option α} {r : α} (hc : c) (h : Ev f r) : Ev (fun k => if c then f k else g k) r := Ev.congr (fun k => if_pos hc) h
theorem Ev_neg {α : Type} {c : Prop} [Decidable c] {f g : Nat → Option α} {r : α} (hc : ¬ c) (h : Ev g r) : Ev (fun k => if c then f k else g k) r := Ev.congr (fun k => if_neg hc) h
/-! The reference's pictures. -/
theorem l1In_eq (x a b : Int) : spec_l1In.f x a b = some (decide (a ≤ x ∧ x ≤ b)) := by
  unfold spec_l1In.f
  by_cases h : x ≥ a
  · rw [if_pos h]
    congr 1
    rw [decide_eq_decide]
    omega
  · rw [if_neg h, decide_eq_false (by omega)]
theorem l1Size_eq (a0 a1 : Int) : spec_l1Size.f a0 a1 = some (sizedB a0 a1) := by
  unfold spec_l1Size.f sizedB
  rw [l1In_eq, Option.bind_some]
  by_cases h0 : 1 ≤ a0 ∧ a0 ≤ 64
  · rw [decide_eq_true h0, if_pos rfl, l1In_eq, Option.bind_some]
    by_cases h1 : 1 ≤ a1 ∧ a1 ≤ 64
    · rw [decide_eq_true h1, if_pos rfl]
      have e0 : 0 ≤ a0 * a1 := Int.mul_nonneg (by omega) (by omega)
      have e1 : a0 * a1 ≤ 64 * 64 := Int.le_trans (Int.mul_le_mul_of_nonneg_right h0.2 (by omega)) (Int.mul_le_mul_of_nonneg_left h1.2 (by omega))
      rw [wid (a0 * a1) (by omega) (by omega)]
      congr 1
      rw [decide_eq_decide]
      exact ⟨fun h => ⟨h0.1, h0.2, h1.1, h1.2, h⟩, fun h => h.2.2.2.2⟩
    · rw [decide_eq_false h1, if_neg (by simp), decide_eq_false (fun h => h1 ⟨h.2.2.1, h.2.2.2.1⟩)]
  · rw [decide_eq_false h0, if_neg (by simp), decide_eq_false (fun h => h0 ⟨h.1, h.2.1⟩)]
theorem l1Up_ev (w h : Int) (l : List Int) (m : Int) (hl : l.length ≤ 1048576) : Ev (fun k => spec_l1Up.f k w h l m) (picB w h l m) := by
  have key : ∀ d i : Nat, i + d = l.length → Ev (fun k => spec_l1Up.l0 k m l (l.length : Int) (i : Int)) ((l.drop i).all fun n => decide (0 ≤ n ∧ n ≤ m)) := by
    intro d
    induction d with
    | zero =>
      intro i hi
      rw [List.drop_eq_nil_of_le (by omega)]
      refine Ev.step (f := fun _ => some true) (fun k => ?_) (Ev.now _)
      simp only [spec_l1Up.l0]
      rw [if_neg (by omega)]
    | succ d ih =>
      intro i hi
      rw [List.drop_eq_getElem_cons (by omega), List.all_cons]
      have hr : rd l (i : Int) = l[i] := by rw [rd_nat, getD_of_lt]
      by_cases e : 0 ≤ l[i] ∧ l[i] ≤ m
      · rw [decide_eq_true e, Bool.true_and]
        refine Ev.step (fun k => ?_) (ih (i + 1) (by omega))
        simp only [spec_l1Up.l0]
        rw [if_pos (by omega), if_pos (by omega), if_pos (by omega), l1In_eq, Option.bind_some, hr, decide_eq_true e, if_pos rfl, wsucc i (by omega)]
      · rw [decide_eq_false e, Bool.false_and]
        refine Ev.step (f := fun _ => some false) (fun k => ?_) (Ev.now _)
        simp only [spec_l1Up.l0]
        rw [if_pos (by omega), if_pos (by omega), if_pos (by omega), l1In_eq, Option.bind_some, hr, decide_eq_false e, if_neg (by simp)]
  unfold spec_l1Up.f picB
  rw [l1Size_eq]
  simp only [Option.bind_some]
  cases hs : sizedB w h with
  | false =>
    simp only [Bool.false_and]
    refine Ev.step (f := fun _ => some false) (fun k => ?_) (Ev.now _)
    rw [if_neg (by simp)]
    simp only [spec_l1Up.j0]
    rw [if_pos trivial]
  | true =>
    obtain ⟨h0, h1, h2, h3, h4⟩ := sized_spec hs
    have e0 : 0 ≤ w * h := Int.mul_nonneg (by omega) (by omega)
    rw [wid (w * h) (by omega) (by omega)]
    simp only [Bool.true_and, if_true]
    by_cases e : (l.length : Int) = w * h
    · rw [decide_eq_true e, Bool.true_and]
      refine Ev.step (fun k => ?_) (key l.length 0 (by omega))
      simp only [spec_l1Up.j0]
      rw [if_neg (by simp [e])]
      rfl
    · rw [decide_eq_false e, Bool.false_and]
      refine Ev.step (f := fun _ => some false) (fun k => ?_) (Ev.now _)
      simp only [spec_l1Up.j0]
      rw [if_pos (by simp [e])]
theorem specIsPicture_ev (w h : Int) (l : List Int) (hl : l.length ≤ 1048576) : Ev (fun k => spec_IsPicture.f k w h l) (picB w h l 255) := by
  unfold spec_IsPicture.f
  exact Ev.bind (l1Up_ev w h l 255 hl) (Ev.now _)
theorem gridL_tab (w : Int) (f : Int → Int → Int) (n : Nat) : gridL w f n = (List.range n).map fun i => cellAt w f i := rfl
theorem area_eq {w h : Int} (h0 : 0 ≤ w) (h1 : 0 ≤ h) : ((h.toNat * w.toNat : Nat) : Int) = w * h := by
  rw [Int.natCast_mul, Int.toNat_of_nonneg h0, Int.toNat_of_nonneg h1, Int.mul_comm]
theorem tdiv_nat (i : Nat) (w : Int) (h : 0 < w) : Int.tdiv (i : Int) w = (i : Int) / w := Int.tdiv_eq_ediv_of_nonneg (by omega)
theorem tmod_nat (i : Nat) (w : Int) : Int.tmod (i : Int) w = (i : Int) % w := Int.tmod_eq_emod_of_nonneg (by omega)
theorem sumL_bd (l : List Int) (lo hi : Int) (h0 : lo ≤ 0) (h1 : 0 ≤ hi) (h : ∀ x ∈ l, lo ≤ x ∧ x ≤ hi) : lo * l.length ≤ sumL l ∧ sumL l ≤ hi * l.length := by
  rw [← sumTo_all]
  exact sumTo_bd l lo hi h0 h1 h l.length (Nat.le_refl _)
/-! Pictures made from a picture. -/
theorem pic_len {w h : Int} {l : List Int} {m : Int} (hp : picB w h l m = true) : h.toNat * w.toNat = l.length := by
  obtain ⟨h0, h1, h2, h3, h4, h5, h6⟩ := pic_spec hp
  have := area_eq (w := w) (h := h) (by omega) (by omega)
  omega
theorem rdP_nat (l : List S68) (i : Nat) (h : i < l.length) : rd_T68 l (i : Int) = l[i] := by
  unfold rd_T68
  rw [Int.toNat_natCast, getD_of_lt l _ i h]
theorem eqIntS_self (l : List Int) (hl : l.length ≤ 1048576) : Ev (fun k => laws_eqIntS.f k l l) true := by
  have := eqIntS_ev l l hl
  rwa [decide_eq_true rfl] at this
/-! Is it a kernel? -/
def okPart (p : S68) : Bool := decide (-4 ≤ p.f0 ∧ p.f0 ≤ 4 ∧ 0 ≤ p.f1 ∧ p.f1 ≤ 4 ∧ ¬ (p.f1 = 0 ∧ p.f0 < 1) ∧ 1 ≤ p.f2 ∧ p.f2 ≤ 100)
def clashFrom (y : List S68) (a b : Int) (j d : Nat) : Bool := (List.range' j d).any fun m => decide (a = (rd_T68 y (m : Int)).f0 ∧ b = (rd_T68 y (m : Int)).f1)
def kernAt (l : List S68) (i : Nat) : Bool := okPart (rd_T68 l (i : Int)) && !clashFrom (l.take i) (rd_T68 l (i : Int)).f0 (rd_T68 l (i : Int)).f1 0 (l.take i).length
def kernFrom (l : List S68) (i d : Nat) : Bool := (List.range' i d).all (kernAt l)
def kernB (l : List S68) : Bool := decide (1 ≤ l.length ∧ l.length ≤ 12) && kernFrom l 0 l.length
theorem spec_inner (x0 x11 : List S68) (x12 x13 a b c : Int) (y : List S68) (hy : y.length < 1000) (r : Bool) (d : Nat) : ∀ j : Nat, j + d = y.length →
    (clashFrom y a b j d = true → r = false) → (clashFrom y a b j d = false → Ev (fun k => spec_IsKernel.l0 k x0 x11 x12 (wrap64 (x13 + 1))) r) →
    Ev (fun k => spec_IsKernel.l1 k x0 x11 x12 x13 y (y.length : Int) (j : Int) a b c) r := by
  induction d with
  | zero =>
    intro j hj _ h2
    exact Ev.step (fun k => by simp only [spec_IsKernel.l1]; rw [if_neg (by omega)]) (h2 rfl)
  | succ d ih =>
    intro j hj h1 h2
    unfold clashFrom at h1 h2
    rw [List.range'_succ, List.any_cons] at h1 h2
    by_cases ha : a = (rd_T68 y (j : Int)).f0
    · by_cases hb : b = (rd_T68 y (j : Int)).f1
      · rw [h1 (by rw [decide_eq_true ⟨ha, hb⟩]; rfl)]
        exact Ev.step (f := fun _ => some false) (fun k => by simp only [spec_IsKernel.l1]; rw [if_pos (by omega), if_pos (by omega), if_pos (by omega), if_pos ha, if_pos hb]) (Ev.now _)
      · rw [decide_eq_false (fun h => hb h.2), Bool.false_or] at h1 h2
        refine Ev.step (fun k => by simp only [spec_IsKernel.l1]; rw [if_pos (by omega), if_pos (by omega), if_pos (by omega), if_pos ha, if_neg hb, wsucc j (by omega)]) (ih (j + 1) (by omega) h1 h2)
    · rw [decide_eq_false (fun h => ha h.1), Bool.false_or] at h1 h2
      refine Ev.step (fun k => by simp only [spec_IsKernel.l1]; rw [if_pos (by omega), if_pos (by omega), if_pos (by omega), if_neg ha, wsucc j (by omega)]) (ih (j + 1) (by omega) h1 h2)
theorem spec_outer (l : List S68) (hl : l.length < 1000) (d : Nat) : ∀ i : Nat, i + d = l.length → Ev (fun k => spec_IsKernel.l0 k l l (l.length : Int) (i : Int)) (kernFrom l i d) := by
  induction d with
  | zero =>
    intro i hi
    exact Ev.step (f := fun _ => some true) (fun k => by simp only [spec_IsKernel.l0]; rw [if_neg (by omega)]) (Ev.now _)
  | succ d ih =>
    intro i hi
    have hk : kernFrom l i (d + 1) = (kernAt l i && kernFrom l (i + 1) d) := by unfold kernFrom; rw [List.range'_succ, List.all_cons]
    have hj : ∀ a b c : Int, a = (rd_T68 l (i : Int)).f0 → b = (rd_T68 l (i : Int)).f1 → okPart (rd_T68 l (i : Int)) = true → Ev (fun k => spec_IsKernel.j1 k l (i : Int) l (l.length : Int) (i : Int) false a b c) (kernFrom l i (d + 1)) := by
      intro a b c ha hb ho
      subst ha
      subst hb
      have ht : (l.take i).length = i := by rw [List.length_take]; omega
      refine Ev.step (fun k => by simp only [spec_IsKernel.j1]; rw [if_neg (by simp), if_pos (by omega), if_pos (by omega), Option.bind_some, Int.toNat_natCast]) ?_
      refine spec_inner l l _ _ _ _ c (l.take i) (by omega) _ (l.take i).length 0 (by omega) (fun h => ?_) (fun h => ?_)
      · rw [hk]; unfold kernAt; rw [h, ho]; rfl
      · rw [hk, wsucc i (by omega)]; unfold kernAt; rw [h, ho]; simp only [Bool.not_false, Bool.and_true, Bool.true_and]
        exact ih (i + 1) (by omega)
    have hbad : ∀ a b c : Int, okPart (rd_T68 l (i : Int)) = false → Ev (fun k => spec_IsKernel.j1 k l (i : Int) l (l.length : Int) (i : Int) true a b c) (kernFrom l i (d + 1)) := by
      intro a b c ho
      have : kernFrom l i (d + 1) = false := by rw [hk]; unfold kernAt; rw [ho]; rfl
      rw [this]
      exact Ev.step (f := fun _ => some false) (fun k => by simp only [spec_IsKernel.j1]; rw [if_pos trivial]) (Ev.now _)
    have hj := hj _ _ (rd_T68 l (i : Int)).f2 rfl rfl
    have hbad := hbad (rd_T68 l (i : Int)).f0 (rd_T68 l (i : Int)).f1 (rd_T68 l (i : Int)).f2
    refine Ev.step (fun k => by rw [spec_IsKernel.l0]) ?_
    refine Ev_pos (by omega) (Ev_pos (by omega) (Ev_pos (by omega) ?_))
    generalize rd_T68 l (i : Int) = p at hj hbad ⊢
    simp only [l1In_eq, Option.bind_some]
    by_cases c1 : -4 ≤ p.f0 ∧ p.f0 ≤ 4
    · refine Ev_pos (decide_eq_true c1) ?_
      by_cases c2 : 0 ≤ p.f1 ∧ p.f1 ≤ 4
      · refine Ev_pos (decide_eq_true c2) ?_
        have fin : ¬ (p.f1 = 0 ∧ p.f0 < 1) → Ev (fun k => spec_IsKernel.j1 k l (i : Int) l (l.length : Int) (i : Int) (!decide (1 ≤ p.f2 ∧ p.f2 ≤ 100)) p.f0 p.f1 p.f2) (kernFrom l i (d + 1)) := by
          intro c5
          by_cases c6 : 1 ≤ p.f2 ∧ p.f2 ≤ 100
          · rw [decide_eq_true c6]
            exact hj (decide_eq_true ⟨c1.1, c1.2, c2.1, c2.2, c5, c6.1, c6.2⟩)
          · rw [decide_eq_false c6]
            exact hbad (decide_eq_false (fun h => c6 ⟨h.2.2.2.2.2.1, h.2.2.2.2.2.2⟩))
        by_cases c3 : p.f1 = 0
        · refine Ev_pos c3 ?_
          by_cases c4 : p.f0 < 1
          · exact Ev_pos c4 (hbad (decide_eq_false (fun h => h.2.2.2.2.1 ⟨c3, c4⟩)))
          · exact Ev_neg c4 (fin (fun h => c4 h.2))
        · exact Ev_neg c3 (fin (fun h => c3 h.1))
      · exact Ev_neg (by rw [decide_eq_false c2]; simp) (hbad (decide_eq_false (fun h => c2 ⟨h.2.2.1, h.2.2.2.1⟩)))
    · exact Ev_neg (by rw [decide_eq_false c1]; simp) (hbad (decide_eq_false (fun h => c1 ⟨h.1, h.2.1⟩)))
theorem specIsKernel_ev (l : List S68) (hl : l.length ≤ 1048576) : Ev (fun k => spec_IsKernel.f k l) (kernB l) := by
  unfold spec_IsKernel.f kernB
  rw [l1In_eq]
  simp only [Option.bind_some]
  by_cases h : 1 ≤ l.length ∧ l.length ≤ 12
  · rw [decide_eq_true h, Bool.true_and]
    exact Ev_pos (decide_eq_true (by omega)) (spec_outer l (by omega) l.length 0 (by omega))
  · rw [decide_eq_false h, Bool.false_and]
    exact Ev_neg (by rw [decide_eq_false (by omega)]; simp) (Ev.now _)
theorem kern_len {l : List S68} (h : kernB l = true) : 1 ≤ l.length ∧ l.length ≤ 12 := by
  unfold kernB at h
  rw [Bool.and_eq_true] at h
  exact of_decide_eq_true h.1
theorem kern_ok {l : List S68} (h : kernB l = true) (i : Nat) (hi : i < l.length) : okPart (rd_T68 l (i : Int)) = true := by
  unfold kernB kernFrom at h
  rw [Bool.and_eq_true, List.all_eq_true] at h
  have := h.2 i (by rw [List.mem_range']; exact ⟨i, by omega, by omega⟩)
  unfold kernAt at this
  rw [Bool.and_eq_true] at this
  exact this.1
def wtTo (l : List S68) (i : Nat) : Int := sumL ((l.take i).map (·.f2))
theorem wtTo_succ (l : List S68) (i : Nat) (h : i < l.length) : wtTo l (i + 1) = wtTo l i + (rd_T68 l (i : Int)).f2 := by
  unfold wtTo
  rw [List.take_succ_eq_append_getElem h, List.map_append, sumL_append, List.map_cons, List.map_nil, sumL_one, rdP_nat l i h]
theorem wtTo_bd {l : List S68} (h : kernB l = true) (i : Nat) (hi : i ≤ l.length) : (i : Int) ≤ wtTo l i ∧ wtTo l i ≤ 100 * (i : Int) := by
  induction i with
  | zero => simp [wtTo, sumL]
  | succ i ih =>
    have := ih (by omega)
    obtain ⟨_, _, _, _, _, q1, q2⟩ := of_decide_eq_true (kern_ok h i (by omega))
    rw [wtTo_succ l i (by omega)]
    omega
theorem spec_WeightOf_ev (l : List S68) (h : kernB l = true) : Ev (fun k => spec_WeightOf.l0 k 0 l (l.length : Int) 0) (wtTo l l.length) := by
  have hk := kern_len h
  have key : ∀ d i : Nat, i + d = l.length → Ev (fun k => spec_WeightOf.l0 k (wtTo l i) l (l.length : Int) (i : Int)) (wtTo l l.length) := by
    intro d
    induction d with
    | zero =>
      intro i hi
      obtain rfl : i = l.length := by omega
      refine Ev.step (f := fun _ => some (wtTo l l.length)) (fun k => ?_) (Ev.now _)
      simp only [spec_WeightOf.l0]
      rw [if_neg (by omega)]
    | succ d ih =>
      intro i hi
      have hb := wtTo_bd h (i + 1) (by omega)
      have hs := wtTo_succ l i (by omega)
      refine Ev.step (fun k => ?_) (ih (i + 1) (by omega))
      simp only [spec_WeightOf.l0]
      rw [if_pos (by omega), if_pos (by omega), if_pos (by omega), ← hs, wid (wtTo l (i + 1)) (by omega) (by omega), wsucc i (by omega)]
  have := key l.length 0 (by omega)
  exact this
theorem impl_weight_ev (l : List S68) (h : kernB l = true) : Ev (fun k => impl_weight.l0 k 0 l (l.length : Int) 0) (wtTo l l.length) := by
  have hk := kern_len h
  have key : ∀ d i : Nat, i + d = l.length → Ev (fun k => impl_weight.l0 k (wtTo l i) l (l.length : Int) (i : Int)) (wtTo l l.length) := by
    intro d
    induction d with
    | zero =>
      intro i hi
      obtain rfl : i = l.length := by omega
      refine Ev.step (f := fun _ => some (wtTo l l.length)) (fun k => ?_) (Ev.now _)
      simp only [impl_weight.l0]
      rw [if_neg (by omega)]
    | succ d ih =>
      intro i hi
      have hb := wtTo_bd h (i + 1) (by omega)
      have hs := wtTo_succ l i (by omega)
      refine Ev.step (fun k => ?_) (ih (i + 1) (by omega))
      simp only [impl_weight.l0]
      rw [if_pos (by omega), if_pos (by omega), if_pos (by omega), ← hs, wid (wtTo l (i + 1)) (by omega) (by omega), wsucc i (by omega)]
  have := key l.length 0 (by omega)
  exact this
theorem specWeight_ev (l : List S68) (hl : l.length ≤ 1048576) : Ev (fun k => spec_WeightOf.f k l) (if kernB l = true then wtTo l l.length else 0) := by
  unfold spec_WeightOf.f
  refine Ev.bind (specIsKernel_ev l hl) ?_
  by_cases h : kernB l = true
  · rw [if_pos h]
    exact Ev_pos h (spec_WeightOf_ev l h)
  · rw [if_neg h]
    exact Ev_neg h (Ev.now _)
theorem mem_set_bd {L : List Int} {p : Nat} {v lo hi : Int} (hL : ∀ x ∈ L, lo ≤ x ∧ x ≤ hi) (h0 : lo ≤ v) (h1 : v ≤ hi) : ∀ x ∈ L.set p v, lo ≤ x ∧ x ≤ hi := by
  intro x hx
  rcases List.mem_or_eq_of_mem_set hx with h | h
  · exact hL x h
  · subst h
    exact ⟨h0, h1⟩
theorem pic_small {w h : Int} {l : List Int} {m : Int} (hp : picB w h l m = true) : l.length ≤ 1024 := by
  obtain ⟨h0, h1, h2, h3, h4, h5, h6⟩ := pic_spec hp
  omega
theorem mod_ev (x w : Int) (hw : 0 < w) (h0 : -9000000000000000000 ≤ x) (h1 : x ≤ 9000000000000000000) (hw2 : w ≤ 1000000000000) : impl_mod.f x w = some (x % w) := by
  have b0 := Int.emod_nonneg x (b := w) (by omega)
  have b1 := Int.emod_lt_of_pos x hw
  unfold impl_mod.f
  rw [if_neg (by omega)]
  by_cases hx : 0 ≤ x
  · rw [Int.tmod_eq_emod_of_nonneg hx, if_neg (by omega)]
  · have e : Int.tmod x w = -((-x) % w) := by
      rw [← Int.tmod_eq_emod_of_nonneg (by omega : 0 ≤ -x), Int.neg_tmod, Int.neg_neg]
    have c0 := Int.emod_nonneg (-x) (b := w) (by omega)
    have c1 := Int.emod_lt_of_pos (-x) hw
    rw [e]
    have d1 := Int.mul_ediv_add_emod x w
    have d2 := Int.mul_ediv_add_emod (-x) w
    by_cases hz : (-x) % w = 0
    · rw [hz, if_neg (by omega)]
      have : x % w = 0 := Int.emod_eq_zero_of_dvd ((Int.dvd_neg.1 (Int.dvd_of_emod_eq_zero hz)))
      rw [this]
      rfl
    · rw [if_pos (by omega), wid _ (by omega) (by omega)]
      congr 1
      have e3 : w * (x / w) + w * (-x / w) = w * (x / w + -x / w) := (Int.mul_add _ _ _).symm
      have k1 : x / w + -x / w < 0 := by
        by_cases k : 0 ≤ x / w + -x / w
        · have := Int.mul_nonneg (by omega : 0 ≤ w) k
          omega
        · omega
      have k2 : -2 < x / w + -x / w := by
        by_cases k : x / w + -x / w ≤ -2
        · have := Int.mul_le_mul_of_nonneg_left k (by omega : 0 ≤ w)
          omega
        · omega
      rw [show x / w + -x / w = -1 by omega] at e3
      omega
theorem down_ev (x w : Int) (hw : 0 < w) (h0 : -1000000000000 ≤ x) (h1 : x ≤ 1000000000000) (hw2 : w ≤ 1000000000000) : impl_down.f x w = some (x / w) := by
  have b0 := Int.emod_nonneg x (b := w) (by omega)
  have b1 := Int.emod_lt_of_pos x hw
  unfold impl_down.f
  rw [mod_ev x w hw (by omega) (by omega) hw2, Option.bind_some, if_neg (by omega), wid (x - x % w) (by omega) (by omega)]
  have d1 := Int.mul_ediv_add_emod x w
  have e : x - x % w = w * (x / w) := by omega
  rw [e, Int.mul_tdiv_cancel_left _ (by omega)]
  have q0 : x / w ≤ 1000000000000 := Int.ediv_le_of_le_mul hw (by
    have : 1000000000000 * 1 ≤ 1000000000000 * w := Int.mul_le_mul_of_nonneg_left (by omega) (by omega)
    omega)
  have q1 : -1000000000000 ≤ x / w := Int.le_ediv_of_mul_le hw (by
    have : 1000000000000 * 1 ≤ 1000000000000 * w := Int.mul_le_mul_of_nonneg_left (by omega) (by omega)
    rw [Int.neg_mul]
    omega)
  rw [wid _ (by omega) (by omega)]
def floP (a w : Int) (p : S68) : Int := a * p.f2 / w
def modP (a w : Int) (p : S68) : Int := a * p.f2 % w
theorem part_f2 {K : List S68} (h : kernB K = true) {p : S68} (hp : p ∈ K) : 1 ≤ p.f2 ∧ p.f2 ≤ 100 := by
  obtain ⟨i, hi, rfl⟩ := List.getElem_of_mem hp
  obtain ⟨_, _, _, _, _, q1, q2⟩ := of_decide_eq_true (kern_ok h i hi)
  rw [rdP_nat K i hi] at q1 q2
  exact ⟨q1, q2⟩
theorem wt_mem {K : List S68} (h : ∀ p ∈ K, 1 ≤ p.f2 ∧ p.f2 ≤ 100) : 0 ≤ sumL (K.map (·.f2)) ∧ ∀ p ∈ K, p.f2 ≤ sumL (K.map (·.f2)) := by
  induction K with
  | nil => exact ⟨by simp [sumL], fun p hp => by cases hp⟩
  | cons a r ih =>
    have ih := ih (fun p hp => h p (List.mem_cons_of_mem _ hp))
    have ha := h a List.mem_cons_self
    rw [List.map_cons, sumL_cons]
    refine ⟨by omega, fun p hp => ?_⟩
    rcases List.mem_cons.1 hp with rfl | hp
    · omega
    · have := ih.2 p hp
      omega
theorem wtTo_all (K : List S68) : wtTo K K.length = sumL (K.map (·.f2)) := by
  unfold wtTo
  rw [List.take_length]
theorem flo_bd {a w f : Int} (ha : -1000000 ≤ a) (hb : a ≤ 1000000) (h0 : 1 ≤ f) (h1 : f ≤ w) : -1000000 ≤ a * f / w ∧ a * f / w ≤ 1000000 ∧ -1000000 * f ≤ a * f ∧ a * f ≤ 1000000 * f := by
  have e0 : -1000000 * f ≤ a * f := Int.mul_le_mul_of_nonneg_right ha (by omega)
  have e1 : a * f ≤ 1000000 * f := Int.mul_le_mul_of_nonneg_right hb (by omega)
  have e2 : 1000000 * f ≤ 1000000 * w := by omega
  refine ⟨Int.le_ediv_of_mul_le (by omega) (by omega), Int.ediv_le_of_le_mul (by omega) (by omega), e0, e1⟩
def restL (a w : Int) (K : List S68) : Int := a - sumL (K.map (floP a w))
def shareL (a w : Int) (K : List S68) : List Int := (K.map (floP a w)).set 0 (rd (K.map (floP a w)) 0 + restL a w K)
theorem shareL_len (a w : Int) (K : List S68) : (shareL a w K).length = K.length := by unfold shareL; rw [List.length_set, List.length_map]
/-- What is left over: the sum of the remainders, in wholes. -/
theorem rest_mul {K : List S68} (a w : Int) : w * sumL (K.map (floP a w)) + sumL (K.map (modP a w)) = a * sumL (K.map (·.f2)) := by
  induction K with
  | nil => simp [sumL]
  | cons p r ih =>
    simp only [List.map_cons, sumL_cons, Int.mul_add]
    have : w * floP a w p + modP a w p = a * p.f2 := Int.mul_ediv_add_emod _ _
    omega
theorem rest_bd {K : List S68} (a w : Int) (hw : 0 < w) : 0 ≤ sumL (K.map (modP a w)) ∧ sumL (K.map (modP a w)) ≤ (w - 1) * K.length := by
  have := sumL_bd (K.map (modP a w)) 0 (w - 1) (by omega) (by omega) (fun x hx => by
    obtain ⟨p, _, rfl⟩ := List.mem_map.1 hx
    have b0 := Int.emod_nonneg (a * p.f2) (b := w) (by omega)
    have b1 := Int.emod_lt_of_pos (a * p.f2) hw
    unfold modP
    omega)
  rw [List.length_map] at this
  omega
theorem flo_sum_bd {K : List S68} (h : kernB K = true) (a : Int) (ha : -1000000 ≤ a) (hb : a ≤ 1000000) (i : Nat) (hi : i ≤ K.length) : -12000000 ≤ sumL ((K.take i).map (floP a (wtTo K K.length))) ∧ sumL ((K.take i).map (floP a (wtTo K K.length))) ≤ 12000000 := by
  have hk := kern_len h
  have hw := (wt_mem (fun p hp => part_f2 h hp)).2
  have := sumL_bd ((K.take i).map (floP a (wtTo K K.length))) (-1000000) 1000000 (by omega) (by omega) (fun x hx => by
    obtain ⟨p, hp, rfl⟩ := List.mem_map.1 hx
    have hp := List.mem_of_mem_take hp
    have := flo_bd ha hb (part_f2 h hp).1 (hw p hp)
    rw [wtTo_all]
    exact ⟨this.1, this.2.1⟩)
  rw [List.length_map, List.length_take] at this
  omega
theorem rest_small {K : List S68} (h : kernB K = true) (a : Int) : 0 ≤ restL a (wtTo K K.length) K ∧ restL a (wtTo K K.length) K ≤ 12 ∧ wtTo K K.length * restL a (wtTo K K.length) K = sumL (K.map (modP a (wtTo K K.length))) := by
  have hk := kern_len h
  have hw := wtTo_bd h K.length (Nat.le_refl _)
  have e := rest_mul (K := K) a (wtTo K K.length)
  have b := rest_bd (K := K) a (wtTo K K.length) (by omega)
  rw [← wtTo_all] at e
  have m : wtTo K K.length * restL a (wtTo K K.length) K = sumL (K.map (modP a (wtTo K K.length))) := by
    unfold restL
    rw [Int.mul_sub, Int.mul_comm _ a]
    omega
  have l1 : (wtTo K K.length - 1) * (K.length : Int) ≤ (wtTo K K.length - 1) * 12 := Int.mul_le_mul_of_nonneg_left (by omega) (by omega)
  refine ⟨?_, ?_, m⟩
  · by_cases c : 0 ≤ restL a (wtTo K K.length) K
    · exact c
    · have := Int.mul_le_mul_of_nonneg_left (by omega : restL a (wtTo K K.length) K ≤ -1) (by omega : 0 ≤ wtTo K K.length)
      omega
  · by_cases c : restL a (wtTo K K.length) K ≤ 12
    · exact c
    · have := Int.mul_le_mul_of_nonneg_left (by omega : 13 ≤ restL a (wtTo K K.length) K) (by omega : 0 ≤ wtTo K K.length)
      omega
theorem shares_ev {K : List S68} (h : kernB K = true) (a : Int) (ha : -1000000 ≤ a) (hb : a ≤ 1000000) : Ev (fun k => impl_shares.f k K a) (shareL a (wtTo K K.length) K) := by
  have hk := kern_len h
  have hw := wtTo_bd h K.length (Nat.le_refl _)
  have hwm := (wt_mem (fun p hp => part_f2 h hp)).2
  have key : ∀ d i : Nat, i + d = K.length → Ev (fun k => impl_shares.l0 k a (wtTo K K.length) ((K.take i).map (floP a (wtTo K K.length))) (a - sumL ((K.take i).map (floP a (wtTo K K.length)))) K (K.length : Int) (i : Int)) (shareL a (wtTo K K.length) K) := by
    intro d
    induction d with
    | zero =>
      intro i hi
      obtain rfl : i = K.length := by omega
      have r := rest_small h a
      have f0 := flo_bd ha hb (part_f2 h (List.getElem_mem (l := K) (n := 0) (by omega))).1 (hwm _ (List.getElem_mem (l := K) (n := 0) (by omega)))
      have e0 : rd (K.map (floP a (wtTo K K.length))) 0 = floP a (wtTo K K.length) K[0] := by
        show (K.map (floP a (wtTo K K.length))).getD 0 0 = _
        rw [getD_of_lt _ 0 0 (by rw [List.length_map]; omega), List.getElem_map]
      rw [← wtTo_all] at f0
      refine Ev.step (fun k => by rw [impl_shares.l0]) (Ev_neg (by omega) ?_)
      rw [List.take_length]
      refine Ev_pos (by rw [List.length_map]; omega) ?_
      show Ev (fun _ => some ((K.map (floP a (wtTo K K.length))).set (0 : Int).toNat (wrap64 (rd (K.map (floP a (wtTo K K.length))) 0 + restL a (wtTo K K.length) K)))) _
      have : -1000000 ≤ floP a (wtTo K K.length) K[0] ∧ floP a (wtTo K K.length) K[0] ≤ 1000000 := ⟨f0.1, f0.2.1⟩
      rw [wid (rd (K.map (floP a (wtTo K K.length))) 0 + restL a (wtTo K K.length) K) (by omega) (by omega)]
      exact Ev.now _
    | succ d ih =>
      intro i hi
      have hm : K[i] ∈ K := List.getElem_mem (by omega)
      have f0 := flo_bd ha hb (part_f2 h hm).1 (hwm _ hm)
      rw [← wtTo_all] at f0
      have pf := part_f2 h hm
      have s0 := flo_sum_bd h a ha hb i (by omega)
      have s1 := flo_sum_bd h a ha hb (i + 1) (by omega)
      have st : sumL ((K.take (i + 1)).map (floP a (wtTo K K.length))) = sumL ((K.take i).map (floP a (wtTo K K.length))) + a * K[i].f2 / wtTo K K.length := by
        rw [List.take_succ_eq_append_getElem (by omega), List.map_append, sumL_append, List.map_cons, List.map_nil, sumL_one]
        rfl
      refine Ev.step (fun k => ?_) (ih (i + 1) (by omega))
      have hlen : ((K.take i).map (floP a (wtTo K K.length))).length = i := by rw [List.length_map, List.length_take]; omega
      simp only [impl_shares.l0]
      rw [if_pos (by omega), if_pos (by omega), if_pos (by omega), rdP_nat K i (by omega), wid (a * K[i].f2) (by omega) (by omega), down_ev (a * K[i].f2) (wtTo K K.length) (by omega) (by omega) (by omega) (by omega), Option.bind_some, if_pos (by omega), wsucc i (by omega), wid (a - sumL ((K.take i).map (floP a (wtTo K K.length))) - a * K[i].f2 / wtTo K K.length) (by omega) (by omega), st]
      rw [List.take_succ_eq_append_getElem (by omega), List.map_append, Int.sub_sub]
      rfl
  unfold impl_shares.f impl_weight.f
  refine Ev.bind (impl_weight_ev K h) ?_
  have := key K.length 0 (by omega)
  simpa [sumL] using this
theorem share_at {K : List S68} (a w : Int) (i : Nat) (hi : i < K.length) : rd (shareL a w K) (i : Int) = if i = 0 then floP a w K[i] + restL a w K else floP a w K[i] := by
  unfold shareL
  rw [rd_nat, getD_set _ _ _ _ (by rw [List.length_map]; omega)]
  by_cases c : i = 0
  · subst c
    rw [if_pos rfl, if_pos rfl]
    show (K.map (floP a w)).getD 0 0 + _ = _
    rw [getD_of_lt _ 0 0 (by rw [List.length_map]; omega), List.getElem_map]
  · rw [if_neg c, if_neg c, getD_of_lt _ 0 i (by rw [List.length_map]; omega), List.getElem_map]
/-! Ranks. -/
theorem specMod_ev (x w : Int) (hw : 0 < w) (hw2 : w ≤ 1000000000000) : spec_l2Mod.f x w = some (x % w) := by
  have b0 := Int.emod_nonneg x (b := w) (by omega)
  have b1 := Int.emod_lt_of_pos x hw
  unfold spec_l2Mod.f
  rw [if_neg (by omega)]
  by_cases hx : 0 ≤ x
  · rw [Int.tmod_eq_emod_of_nonneg hx, if_neg (by omega)]
  · have e : Int.tmod x w = -((-x) % w) := by
      rw [← Int.tmod_eq_emod_of_nonneg (by omega : 0 ≤ -x), Int.neg_tmod, Int.neg_neg]
    have c0 := Int.emod_nonneg (-x) (b := w) (by omega)
    have c1 := Int.emod_lt_of_pos (-x) hw
    rw [e]
    have d1 := Int.mul_ediv_add_emod x w
    have d2 := Int.mul_ediv_add_emod (-x) w
    by_cases hz : (-x) % w = 0
    · rw [hz, if_neg (by omega)]
      have : x % w = 0 := Int.emod_eq_zero_of_dvd ((Int.dvd_neg.1 (Int.dvd_of_emod_eq_zero hz)))
      rw [this]
      rfl
    · rw [if_pos (by omega), wid _ (by omega) (by omega)]
      congr 1
      have e3 : w * (x / w) + w * (-x / w) = w * (x / w + -x / w) := (Int.mul_add _ _ _).symm
      have k1 : x / w + -x / w < 0 := by
        by_cases k : 0 ≤ x / w + -x / w
        · have := Int.mul_nonneg (by omega : 0 ≤ w) k
          omega
        · omega
      have k2 : -2 < x / w + -x / w := by
        by_cases k : x / w + -x / w ≤ -2
        · have := Int.mul_le_mul_of_nonneg_left k (by omega : 0 ≤ w)
          omega
        · omega
      rw [show x / w + -x / w = -1 by omega] at e3
      omega
/-! Sums round about. -/
theorem Ev_eq {α : Type} {x : Option α} {a : α} (h : x = some a) : Ev (fun _ => x) a := ⟨0, fun _ _ => h⟩
theorem tab_const (n : Nat) (v : Int) (f : Nat → Int) (h : ∀ i, i < n → f i = v) : (List.range n).map f = List.replicate n v := by
  rw [tab_congr n f (fun _ => v) h]
  simp [List.map_const']
/-! Diffusion, cell by cell. -/
def dfS (w h way x y : Int) (K : List S68) (S : List Int) (q : Nat) (s : List Int × Int) : List Int × Int :=
  if x + way * (rd_T68 K (q : Int)).f0 < 0 ∨ w ≤ x + way * (rd_T68 K (q : Int)).f0 ∨ h ≤ y + (rd_T68 K (q : Int)).f1 then (s.1, s.2 + rd S (q : Int))
  else (s.1.set ((y + (rd_T68 K (q : Int)).f1) * w + (x + way * (rd_T68 K (q : Int)).f0)).toNat (rd s.1 ((y + (rd_T68 K (q : Int)).f1) * w + (x + way * (rd_T68 K (q : Int)).f0)) + rd S (q : Int)), s.2)
def dfT (w h way x y : Int) (K : List S68) (S : List Int) : Nat → Nat → List Int × Int → List Int × Int
  | 0, _, s => s
  | d + 1, q, s => dfT w h way x y K S d (q + 1) (dfS w h way x y K S q s)
def dfB (c : Int) (n : Nat) (s : List Int × Int) : Prop := s.1.length = n ∧ (∀ v ∈ s.1, -c ≤ v ∧ v ≤ c) ∧ -c ≤ s.2 ∧ s.2 ≤ c
theorem rd_bd {l : List Int} {c : Int} (hc : 0 ≤ c) (h : ∀ v ∈ l, -c ≤ v ∧ v ≤ c) (i : Int) : -c ≤ rd l i ∧ rd l i ≤ c := by
  unfold rd
  by_cases hi : i.toNat < l.length
  · exact h _ (getD_mem l _ hi)
  · rw [List.getD_eq_getElem?_getD, List.getElem?_eq_none (by omega)]
    exact ⟨by simpa using hc, by simpa using hc⟩
theorem dfS_bd {w h way x y c M : Int} {K : List S68} {S : List Int} {q n : Nat} {s : List Int × Int} (hc : 0 ≤ c) (hM : 0 ≤ M) (hb : dfB c n s) (hS : -M ≤ rd S (q : Int) ∧ rd S (q : Int) ≤ M) : dfB (c + M) n (dfS w h way x y K S q s) := by
  obtain ⟨b0, b1, b2, b3⟩ := hb
  unfold dfS
  split
  · exact ⟨b0, fun v hv => by have := b1 v hv; omega, by show -(c + M) ≤ s.2 + _; omega, by show s.2 + _ ≤ c + M; omega⟩
  · refine ⟨by rw [List.length_set]; exact b0, fun v hv => ?_, by show -(c + M) ≤ s.2; omega, by show s.2 ≤ c + M; omega⟩
    have r := rd_bd hc b1 ((y + (rd_T68 K (q : Int)).f1) * w + (x + way * (rd_T68 K (q : Int)).f0))
    rcases List.mem_or_eq_of_mem_set hv with e | e
    · have := b1 v e
      omega
    · omega
theorem dif_l2 {w h way x y : Int} {K : List S68} (hK : kernB K = true) (hx0 : 0 ≤ x) (hx1 : x < w) (hy0 : 0 ≤ y) (hy1 : y < h) (hw : w ≤ 64) (hh : h ≤ 64) (hway : way = 1 ∨ way = -1) (S : List Int) (hSl : S.length = K.length) (hS : ∀ q : Nat, -2000000 ≤ rd S (q : Int) ∧ rd S (q : Int) ≤ 2000000) (both : Bool) (E p D : List Int) (a1 a2 a3 a4 dw dh : Int) (n : Nat) (hn : (n : Int) = w * h) (R : Int × Int × List Int × List Int × Int) :
    ∀ (d q : Nat) (V : List Int) (L : Int), q + d = K.length → dfB (1000000000000 + 2000000 * (q : Int)) n (V, L) → Ev (fun k => impl_diffused.l1 k K both (dfT w h way x y K S d q (V, L)).1 E (dfT w h way x y K S d q (V, L)).2 y way a1 a2 a3 (wrap64 (a4 + 1)) w h p dw dh D) R → Ev (fun k => impl_diffused.l2 k K both V E L y way x a1 a2 a3 a4 S (S.length : Int) (q : Int) w h p dw dh D) R := by
  intro d
  have kl := kern_len hK
  induction d with
  | zero =>
    intro q V L hq hb hev
    exact Ev.step (fun k => impl_diffused.l2.eq_2 ..) (Ev_neg (by omega) hev)
  | succ d ih =>
    intro q V L hq hb hev
    have hb' := dfS_bd (w := w) (h := h) (way := way) (x := x) (y := y) (K := K) (S := S) (q := q) (by omega) (by omega) hb (hS q)
    have nx := ih (q + 1) (dfS w h way x y K S q (V, L)).1 (dfS w h way x y K S q (V, L)).2 (by omega) (by
      have e : (1000000000000 : Int) + 2000000 * (q : Int) + 2000000 = 1000000000000 + 2000000 * ((q + 1 : Nat) : Int) := by omega
      rw [e] at hb'
      exact hb') hev
    obtain ⟨b0, b1, b2, b3⟩ := hb
    dsimp only at b0 b1 b2 b3
    have sq := hS q
    have ok := of_decide_eq_true (kern_ok hK q (by omega))
    rw [← wsucc q (by omega)] at nx
    refine Ev.step (fun k => impl_diffused.l2.eq_2 ..) (Ev_pos (by omega) (Ev_pos (by omega) (Ev_pos (by omega) (Ev_pos (by omega) ?_))))
    have hwf : way * (rd_T68 K (q : Int)).f0 = (rd_T68 K (q : Int)).f0 ∨ way * (rd_T68 K (q : Int)).f0 = -(rd_T68 K (q : Int)).f0 := by
      rcases hway with rfl | rfl
      · left; omega
      · right; omega
    unfold dfS at nx
    rw [wid (way * (rd_T68 K (q : Int)).f0) (by omega) (by omega), wid (x + way * (rd_T68 K (q : Int)).f0) (by omega) (by omega), wid (y + (rd_T68 K (q : Int)).f1) (by omega) (by omega), wid (L + rd S (q : Int)) (by omega) (by omega)]
    generalize hU : x + way * (rd_T68 K (q : Int)).f0 = U at nx ⊢
    generalize hT : y + (rd_T68 K (q : Int)).f1 = T at nx ⊢
    by_cases c1 : U < 0
    · rw [if_pos (Or.inl c1)] at nx
      exact Ev_pos c1 nx
    · refine Ev_neg c1 ?_
      by_cases c2 : w ≤ U
      · rw [if_pos (Or.inr (Or.inl c2))] at nx
        exact Ev_pos c2 nx
      · refine Ev_neg (by omega) ?_
        by_cases c3 : h ≤ T
        · rw [if_pos (Or.inr (Or.inr c3))] at nx
          exact Ev_pos c3 nx
        · refine Ev_neg (by omega) ?_
          rw [if_neg (by omega)] at nx
          have ix := idx_lt (w := w) (h := h) (x := U) (y := T) (by omega) (by omega) (by omega) (by omega)
          have m0 : 0 ≤ T * w := Int.mul_nonneg (by omega) (by omega)
          have m1 : w * h ≤ 64 * 64 := Int.le_trans (Int.mul_le_mul_of_nonneg_right hw (by omega)) (Int.mul_le_mul_of_nonneg_left hh (by omega))
          have r := rd_bd (by omega) b1 (T * w + U)
          rw [wid (T * w) (by omega) (by omega), wid (T * w + U) (by omega) (by omega), wid (rd V (T * w + U) + rd S (q : Int)) (by omega) (by omega)]
          exact Ev_pos (by omega) (Ev_pos (by omega) nx)
/-- The values, the errors, the dots and what is lost, behind one more cell. -/
def dfC (w h way x y : Int) (K : List S68) (st : List Int × List Int × List Int × Int) : List Int × List Int × List Int × Int :=
  ((dfT w h way x y K (shareL (if rd st.1 (y * w + x) ≥ 128 then rd st.1 (y * w + x) - 255 else rd st.1 (y * w + x)) (wtTo K K.length) K) K.length 0 (st.1, st.2.2.2)).1,
   st.2.1.set (y * w + x).toNat (if rd st.1 (y * w + x) ≥ 128 then rd st.1 (y * w + x) - 255 else rd st.1 (y * w + x)),
   (if rd st.1 (y * w + x) ≥ 128 then st.2.2.1.set (y * w + x).toNat 1 else st.2.2.1),
   (dfT w h way x y K (shareL (if rd st.1 (y * w + x) ≥ 128 then rd st.1 (y * w + x) - 255 else rd st.1 (y * w + x)) (wtTo K K.length) K) K.length 0 (st.1, st.2.2.2)).2)
def wayN (both : Bool) (y : Nat) : Int := if both = true ∧ y % 2 = 1 then -1 else 1
def colN (both : Bool) (w : Int) (y c : Nat) : Int := if both = true ∧ y % 2 = 1 then w - 1 - (c : Int) else (c : Int)
def dfGood (w : Int) (n : Nat) (i : Int) (st : List Int × List Int × List Int × Int) : Prop := dfB 1000000000000 n (st.1, st.2.2.2) ∧ st.2.1.length = n ∧ st.2.2.1.length = n ∧ -1000000 ≤ (if rd st.1 i ≥ 128 then rd st.1 i - 255 else rd st.1 i) ∧ (if rd st.1 i ≥ 128 then rd st.1 i - 255 else rd st.1 i) ≤ 1000000
theorem share_bd {K : List S68} (hK : kernB K = true) (e : Int) (e0 : -1000000 ≤ e) (e1 : e ≤ 1000000) (q : Nat) : -2000000 ≤ rd (shareL e (wtTo K K.length) K) (q : Int) ∧ rd (shareL e (wtTo K K.length) K) (q : Int) ≤ 2000000 := by
  by_cases hq : q < K.length
  · rw [share_at _ _ q hq]
    have hwm := (wt_mem (fun p hp => part_f2 hK hp)).2 _ (List.getElem_mem hq)
    have f := flo_bd (a := e) e0 e1 (part_f2 hK (List.getElem_mem hq)).1 hwm
    rw [← wtTo_all] at f
    have f1 : -1000000 ≤ floP e (wtTo K K.length) K[q] ∧ floP e (wtTo K K.length) K[q] ≤ 1000000 := ⟨f.1, f.2.1⟩
    have r := rest_small hK e
    split <;> omega
  · rw [rd_nat, List.getD_eq_getElem?_getD, List.getElem?_eq_none (by rw [shareL_len]; omega)]
    simp
theorem dif_cell {w h : Int} {K : List S68} (hK : kernB K = true) (hw0 : 1 ≤ w) (hw : w ≤ 64) (hh0 : 1 ≤ h) (hh : h ≤ 64) (both : Bool) (p : List Int) (dw dh : Int) (n : Nat) (hn : (n : Int) = w * h) (R : Int × Int × List Int × List Int × Int) (y c : Nat) (hy : (y : Int) < h) (hc : (c : Int) < w) (st : List Int × List Int × List Int × Int) (hg : dfGood w n ((y : Int) * w + colN both w y c) st)
    (nx : Ev (fun k => impl_diffused.l1 k K both (dfC w h (wayN both y) (colN both w y c) y K st).1 (dfC w h (wayN both y) (colN both w y c) y K st).2.1 (dfC w h (wayN both y) (colN both w y c) y K st).2.2.2 (y : Int) (wayN both y) h (y : Int) w (wrap64 ((c : Int) + 1)) w h p dw dh (dfC w h (wayN both y) (colN both w y c) y K st).2.2.1) R) :
    Ev (fun k => impl_diffused.l1 k K both st.1 st.2.1 st.2.2.2 (y : Int) (wayN both y) h (y : Int) w (c : Int) w h p dw dh st.2.2.1) R := by
  have hx : 0 ≤ colN both w y c ∧ colN both w y c < w := by
    unfold colN
    split <;> omega
  have hway : wayN both y = 1 ∨ wayN both y = -1 := by
    unfold wayN
    split
    · exact Or.inr rfl
    · exact Or.inl rfl
  obtain ⟨gB, gE, gD, ge0, ge1⟩ := hg
  have ix := idx_lt (w := w) (h := h) (x := colN both w y c) (y := (y : Int)) hx.1 hx.2 (by omega) hy
  have m0 : 0 ≤ (y : Int) * w := Int.mul_nonneg (by omega) (by omega)
  have m1 : w * h ≤ 64 * 64 := Int.le_trans (Int.mul_le_mul_of_nonneg_right hw (by omega)) (Int.mul_le_mul_of_nonneg_left hh (by omega))
  have gl := gB.1
  dsimp only at gl
  have rb := rd_bd (by omega) gB.2.1 ((y : Int) * w + colN both w y c)
  dsimp only at rb
  have j5 : ∀ D' : List Int, D' = (dfC w h (wayN both y) (colN both w y c) y K st).2.2.1 → Ev (fun k => impl_diffused.j5 k K both st.1 st.2.1 st.2.2.2 (y : Int) (wayN both y) (colN both w y c) ((y : Int) * w + colN both w y c) (if rd st.1 ((y : Int) * w + colN both w y c) ≥ 128 then rd st.1 ((y : Int) * w + colN both w y c) - 255 else rd st.1 ((y : Int) * w + colN both w y c)) h (y : Int) w (c : Int) w h p dw dh D') R := by
    intro D' hD'
    subst hD'
    refine Ev.step (fun k => impl_diffused.j5.eq_2 ..) (Ev_pos (by omega) (Ev_pos (by omega) (Ev.bind (shares_ev hK _ ge0 ge1) ?_)))
    refine dif_l2 hK hx.1 hx.2 (by omega) hy hw hh hway _ (shareL_len _ _ _) (share_bd hK _ ge0 ge1) both _ p _ h (y : Int) w (c : Int) dw dh n hn R K.length 0 _ _ (by omega) ?_ ?_
    · show dfB (1000000000000 + 2000000 * ((0 : Nat) : Int)) n (st.1, st.2.2.2)
      rw [show (1000000000000 : Int) + 2000000 * ((0 : Nat) : Int) = 1000000000000 by omega]
      exact gB
    · exact nx
  have j4 : Ev (fun k => impl_diffused.j4 k K both st.1 st.2.1 st.2.2.2 (y : Int) (wayN both y) (colN both w y c) h (y : Int) w (c : Int) w h p dw dh st.2.2.1) R := by
    refine Ev.step (fun k => impl_diffused.j4.eq_2 ..) ?_
    rw [wid ((y : Int) * w) (by omega) (by omega), wid ((y : Int) * w + colN both w y c) (by omega) (by omega)]
    refine Ev_pos (by omega) (Ev_pos (by omega) ?_)
    by_cases cv : rd st.1 ((y : Int) * w + colN both w y c) ≥ 128
    · rw [wid (rd st.1 ((y : Int) * w + colN both w y c) - 255) (by omega) (by omega)]
      have := j5 (st.2.2.1.set ((y : Int) * w + colN both w y c).toNat 1) (if_pos cv).symm
      rw [if_pos cv] at this
      exact Ev_pos cv (Ev_pos (by omega) this)
    · have := j5 st.2.2.1 (if_neg cv).symm
      rw [if_neg cv] at this
      exact Ev_neg cv this
  refine Ev.step (fun k => impl_diffused.l1.eq_2 ..) (Ev_pos hc ?_)
  by_cases cb : both = true ∧ y % 2 = 1
  · have e1 : wayN both y = -1 := if_pos cb
    have e2 : colN both w y c = w - 1 - (c : Int) := if_pos cb
    refine Ev_pos (by omega) ?_
    rw [wid (w - 1) (by omega) (by omega), wid (w - 1 - (c : Int)) (by omega) (by omega), ← e2]
    exact j4
  · have e1 : wayN both y = 1 := if_neg cb
    have e2 : colN both w y c = (c : Int) := if_neg cb
    refine Ev_neg (by omega) ?_
    rw [e2] at j4
    exact j4
theorem dif_rows {w h : Int} {K : List S68} (hK : kernB K = true) (hw0 : 1 ≤ w) (hw : w ≤ 64) (hh0 : 1 ≤ h) (hh : h ≤ 64) (both : Bool) (p : List Int) (dw dh : Int) (n : Nat) (hn : (n : Int) = w * h) (Inv : Nat → (List Int × List Int × List Int × Int) → Prop)
    (hI : ∀ (y c : Nat) (st : List Int × List Int × List Int × Int), (y : Int) < h → (c : Int) < w → Inv (y * w.toNat + c) st → dfGood w n ((y : Int) * w + colN both w y c) st ∧ Inv (y * w.toNat + c + 1) (dfC w h (wayN both y) (colN both w y c) y K st))
    (st0 : List Int × List Int × List Int × Int) (h0 : Inv 0 st0) : ∃ st : List Int × List Int × List Int × Int, Inv (h.toNat * w.toNat) st ∧ Ev (fun k => impl_diffused.l0 k K both st0.1 st0.2.1 st0.2.2.2 h 0 w h p dw dh st0.2.2.1) (dw, dh, st.2.2.1, st.2.1, st.2.2.2) := by
  have outer : ∀ d y : Nat, y + d = h.toNat → ∀ st, Inv (y * w.toNat) st → ∃ st2, Inv (h.toNat * w.toNat) st2 ∧ Ev (fun k => impl_diffused.l0 k K both st.1 st.2.1 st.2.2.2 h (y : Int) w h p dw dh st.2.2.1) (dw, dh, st2.2.2.1, st2.2.1, st2.2.2.2) := by
    intro d
    induction d with
    | zero =>
      intro y hy st hst
      obtain rfl : y = h.toNat := by omega
      exact ⟨st, hst, Ev.step (fun k => impl_diffused.l0.eq_2 ..) (Ev_neg (by omega) (Ev.now _))⟩
    | succ d ih =>
      intro y hy st hst
      have inner : ∀ e c : Nat, c + e = w.toNat → ∀ st, Inv (y * w.toNat + c) st → ∃ st2, Inv (h.toNat * w.toNat) st2 ∧ Ev (fun k => impl_diffused.l1 k K both st.1 st.2.1 st.2.2.2 (y : Int) (wayN both y) h (y : Int) w (c : Int) w h p dw dh st.2.2.1) (dw, dh, st2.2.2.1, st2.2.1, st2.2.2.2) := by
        intro e
        induction e with
        | zero =>
          intro c hc st hst
          obtain rfl : c = w.toNat := by omega
          rw [← Nat.succ_mul] at hst
          obtain ⟨st2, i2, ev⟩ := ih (y + 1) (by omega) st hst
          rw [← wsucc y (by omega)] at ev
          exact ⟨st2, i2, Ev.step (fun k => impl_diffused.l1.eq_2 ..) (Ev_neg (by omega) ev)⟩
        | succ e ih2 =>
          intro c hc st hst
          obtain ⟨hg, hn'⟩ := hI y c st (by omega) (by omega) hst
          obtain ⟨st2, i2, ev⟩ := ih2 (c + 1) (by omega) _ hn'
          rw [← wsucc c (by omega)] at ev
          exact ⟨st2, i2, dif_cell hK hw0 hw hh0 hh both p dw dh n hn _ y c (by omega) (by omega) st hg ev⟩
      obtain ⟨st2, i2, ev⟩ := inner w.toNat 0 (by omega) st hst
      refine ⟨st2, i2, Ev.step (fun k => impl_diffused.l0.eq_2 ..) (Ev_pos (by omega) ?_)⟩
      have j2 : Ev (fun k => impl_diffused.j2 k K both st.1 st.2.1 st.2.2.2 (y : Int) (wayN both y) h (y : Int) w h p dw dh st.2.2.1) (dw, dh, st2.2.2.1, st2.2.1, st2.2.2.2) := Ev.step (fun k => impl_diffused.j2.eq_2 ..) ev
      have et : Int.tmod (y : Int) 2 = (y : Int) % 2 := tmod_nat y 2
      rw [et]
      by_cases cb : both = true
      · refine Ev_pos cb (Ev.step (fun k => impl_diffused.j1.eq_2 ..) ?_)
        by_cases cy : y % 2 = 1
        · have e1 : wayN both y = -1 := if_pos ⟨cb, cy⟩
          rw [e1] at j2
          exact Ev_pos (by rw [beq_iff_eq]; omega) j2
        · have e1 : wayN both y = 1 := if_neg (fun q => cy q.2)
          rw [e1] at j2
          exact Ev_neg (by rw [beq_iff_eq]; omega) j2
      · have e1 : wayN both y = 1 := if_neg (fun q => cb q.1)
        rw [e1] at j2
        exact Ev_neg cb (Ev.step (fun k => impl_diffused.j1.eq_2 ..) (Ev_neg (by simp) j2))
  have := outer h.toNat 0 (by omega) st0 (by rw [Nat.zero_mul]; exact h0)
  exact this
/-! What diffusion tells. -/
theorem rep_zero (w : Int) (n : Nat) : gridL w (fun _ _ => (0 : Int)) n = List.replicate n 0 := by
  rw [gridL_tab]
  exact tab_const n 0 _ (fun _ _ => rfl)
theorem dif_ev {w h : Int} {p : List Int} {K : List S68} (hK : kernB K = true) (hp : picB w h p 255 = true) (both : Bool) (Inv : Nat → (List Int × List Int × List Int × Int) → Prop)
    (hI : ∀ (y c : Nat) (st : List Int × List Int × List Int × Int), (y : Int) < h → (c : Int) < w → Inv (y * w.toNat + c) st → dfGood w p.length ((y : Int) * w + colN both w y c) st ∧ Inv (y * w.toNat + c + 1) (dfC w h (wayN both y) (colN both w y c) y K st))
    (h0 : Inv 0 (p, List.replicate p.length 0, List.replicate p.length 0, 0)) : ∃ st : List Int × List Int × List Int × Int, Inv p.length st ∧ Ev (fun k => impl_diffused.f k K w h p both) (w, h, st.2.2.1, st.2.1, st.2.2.2) := by
  obtain ⟨g0, g1, g2, g3, g4, g5, g6⟩ := pic_spec hp
  have hl := pic_small hp
  have hpl := pic_len hp
  obtain ⟨st, i2, ev⟩ := dif_rows hK g0 g1 g2 g3 both p w h p.length g5 Inv hI _ h0
  rw [hpl] at i2
  refine ⟨st, i2, ?_⟩
  unfold impl_diffused.f
  have ec : impl_copied.f w h p = some (w, h, p) := if_pos (by omega)
  refine Ev.bind (Ev_eq ec) (Ev.bind (Ev_eq (if_pos ⟨by omega, by omega, by omega, by omega, rfl⟩)) (Ev_pos (by omega) (Ev_pos (by omega) ?_)))
  dsimp only
  rw [hpl, rep_zero, Int.toNat_natCast]
  exact ev
/-! Diffusion along a row. -/
def eF (p : List Int) : Nat → Int
  | 0 => 0
  | m + 1 => if p.getD m 0 + eF p m ≥ 128 then p.getD m 0 + eF p m - 255 else p.getD m 0 + eF p m
def dotF (p : List Int) (m : Nat) : Int := if p.getD m 0 + eF p m ≥ 128 then 1 else 0
theorem eF_bd {p : List Int} (hp : ∀ v ∈ p, 0 ≤ v ∧ v ≤ 255) (m : Nat) (hm : m ≤ p.length) : -127 ≤ eF p m ∧ eF p m ≤ 127 := by
  induction m with
  | zero => exact ⟨by show (-127 : Int) ≤ 0; omega, by show (0 : Int) ≤ 127; omega⟩
  | succ m ih =>
    have i := ih (by omega)
    have b := hp _ (getD_mem p m (by omega))
    unfold eF
    split <;> omega
def plainK : List S68 := [(⟨1, 0, 1⟩ : S68)]
theorem plain_kern : kernB plainK = true := by decide
theorem plain_share (e : Int) : rd (shareL e (wtTo plainK plainK.length) plainK) 0 = e := by
  have hw : wtTo plainK plainK.length = 1 := by decide
  have h := share_at (K := plainK) e 1 0 (by decide)
  rw [hw]
  have h2 : rd (shareL e 1 plainK) ((0 : Nat) : Int) = floP e 1 plainK[0] + restL e 1 plainK := by rw [h, if_pos rfl]
  have f : floP e 1 plainK[0] = e := by
    show e * 1 / 1 = e
    omega
  have r : restL e 1 plainK = 0 := by
    unfold restL
    show e - sumL [e * 1 / 1] = 0
    rw [sumL_one]
    omega
  rw [f, r, Int.add_zero] at h2
  exact h2
theorem plain_T {w : Int} (c : Nat) (e : Int) (V : List Int) (L : Int) : dfT w 1 1 (c : Int) ((0 : Nat) : Int) plainK (shareL e (wtTo plainK plainK.length) plainK) plainK.length 0 (V, L) = if w ≤ (c : Int) + 1 then (V, L + e) else (V.set (c + 1) (V.getD (c + 1) 0 + e), L) := by
  show dfS w 1 1 (c : Int) ((0 : Nat) : Int) plainK (shareL e (wtTo plainK plainK.length) plainK) 0 (V, L) = _
  unfold dfS
  have e0 : (rd_T68 plainK ((0 : Nat) : Int)).f0 = 1 := rfl
  have e1 : (rd_T68 plainK ((0 : Nat) : Int)).f1 = 0 := rfl
  have es : rd (shareL e (wtTo plainK plainK.length) plainK) ((0 : Nat) : Int) = e := plain_share e
  rw [e0, e1, es]
  have ei : (((0 : Nat) : Int) + 0) * w + ((c : Int) + 1 * 1) = ((c + 1 : Nat) : Int) := by
    rw [show ((0 : Nat) : Int) + 0 = 0 from rfl, Int.zero_mul]
    omega
  rw [ei, Int.toNat_natCast, rd_nat]
  by_cases h : w ≤ (c : Int) + 1
  · rw [if_pos h, if_pos (by omega)]
  · rw [if_neg h, if_neg (by omega)]
def rowInv (p : List Int) (m : Nat) (st : List Int × List Int × List Int × Int) : Prop :=
  st.1.length = p.length ∧ (∀ v ∈ st.1, -1000 ≤ v ∧ v ≤ 1000) ∧ st.2.1.length = p.length ∧ st.2.2.1 = fill p.length id (dotF p) m ∧ -127 * (m : Int) ≤ st.2.2.2 ∧ st.2.2.2 ≤ 127 * (m : Int) ∧ (m < p.length → st.1.getD m 0 = p.getD m 0 + eF p m) ∧ (∀ j, m < j → j < p.length → st.1.getD j 0 = p.getD j 0)
theorem fill_keep0 (n : Nat) (f : Nat → Int) (i : Nat) (hi : i < n) (h0 : f i = 0) : fill n id f i = fill n id f (i + 1) := by
  refine tab_congr _ _ _ (fun j hj => ?_)
  show (if j < i then f j else 0) = if j < i + 1 then f j else 0
  by_cases c : j < i
  · rw [if_pos c, if_pos (by omega)]
  · rw [if_neg c]
    by_cases c2 : j = i
    · subst c2
      rw [if_pos (by omega), h0]
    · rw [if_neg (by omega)]
theorem row_step {p : List Int} (hp : ∀ v ∈ p, 0 ≤ v ∧ v ≤ 255) (hn : p.length ≤ 64) (y c : Nat) (st : List Int × List Int × List Int × Int) (hy : (y : Int) < 1) (hc : (c : Int) < (p.length : Int)) (hst : rowInv p (y * ((p.length : Int)).toNat + c) st) : dfGood (p.length : Int) p.length ((y : Int) * (p.length : Int) + colN false (p.length : Int) y c) st ∧ rowInv p (y * ((p.length : Int)).toNat + c + 1) (dfC (p.length : Int) 1 (wayN false y) (colN false (p.length : Int) y c) y plainK st) := by
  obtain rfl : y = 0 := by omega
  rw [Nat.zero_mul, Nat.zero_add] at hst ⊢
  have ec : colN false (p.length : Int) 0 c = (c : Int) := if_neg (by simp)
  have ew : wayN false 0 = 1 := if_neg (by simp)
  have ei : ((0 : Nat) : Int) * (p.length : Int) + (c : Int) = (c : Int) := by
    rw [show ((0 : Nat) : Int) = 0 from rfl, Int.zero_mul, Int.zero_add]
  obtain ⟨i0, i1, i2, i3, i4, i5, i6, i7⟩ := hst
  have hcn : c < p.length := by omega
  have hv := i6 hcn
  have bp := hp _ (getD_mem p c hcn)
  have be := eF_bd hp c (by omega)
  have be2 := eF_bd hp (c + 1) (by omega)
  have he : (if rd st.1 (c : Int) ≥ 128 then rd st.1 (c : Int) - 255 else rd st.1 (c : Int)) = eF p (c + 1) := by
    rw [rd_nat, hv]
    rfl
  rw [ec, ew, ei]
  refine ⟨⟨⟨i0, fun v hv2 => by have := i1 v hv2; omega, by show _ ≤ st.2.2.2; omega, by show st.2.2.2 ≤ _; omega⟩, i2, by rw [i3, fill_len], by rw [he]; omega, by rw [he]; omega⟩, ?_⟩
  unfold dfC
  rw [ei, he, plain_T, Int.toNat_natCast]
  have hD : (if rd st.1 (c : Int) ≥ 128 then st.2.2.1.set c 1 else st.2.2.1) = fill p.length id (dotF p) (c + 1) := by
    rw [rd_nat, hv, i3]
    by_cases g : p.getD c 0 + eF p c ≥ 128
    · have e := fill_set_id p.length (dotF p) c hcn
      have e1 : dotF p c = 1 := if_pos g
      rw [e1] at e
      rw [if_pos g, e]
    · rw [if_neg g]
      exact fill_keep0 _ _ _ hcn (if_neg g)
  rw [hD]
  by_cases hl : (p.length : Int) ≤ (c : Int) + 1
  · rw [if_pos hl]
    exact ⟨i0, i1, by rw [List.length_set]; exact i2, rfl, by show _ ≤ st.2.2.2 + _; omega, by show st.2.2.2 + _ ≤ _; omega, fun h => by omega, fun j h1 h2 => by omega⟩
  · rw [if_neg hl]
    have hq := i7 (c + 1) (by omega) (by omega)
    have bq := hp _ (getD_mem p (c + 1) (by omega))
    refine ⟨by rw [List.length_set]; exact i0, mem_set_bd i1 (by omega) (by omega), by rw [List.length_set]; exact i2, rfl, by show _ ≤ st.2.2.2; omega, by show st.2.2.2 ≤ _; omega, fun h => ?_, fun j h1 h2 => ?_⟩
    · show (st.1.set (c + 1) _).getD (c + 1) 0 = _
      rw [getD_set _ _ _ _ (by omega), if_pos rfl, hq]
    · show (st.1.set (c + 1) _).getD j 0 = _
      rw [getD_set _ _ _ _ (by omega), if_neg (by omega)]
      exact i7 j (by omega) h2
theorem row_ev {p : List Int} (hp : picB (p.length : Int) 1 p 255 = true) : ∃ (E : List Int) (L : Int), Ev (fun k => impl_diffused.f k plainK (p.length : Int) 1 p false) ((p.length : Int), 1, (List.range p.length).map (dotF p), E, L) := by
  obtain ⟨g0, g1, g2, g3, g4, g5, g6⟩ := pic_spec hp
  obtain ⟨st, i2, ev⟩ := dif_ev plain_kern hp false (rowInv p) (fun y c st hy hc hst => row_step g6 (by omega) y c st hy hc hst) ⟨rfl, fun v hv => by have := g6 v hv; omega, List.length_replicate, (fill_zero _ _ _).symm, by show (-127 : Int) * 0 ≤ 0; omega, by show (0 : Int) ≤ 127 * 0; omega, fun _ => by show p.getD 0 0 = p.getD 0 0 + 0; omega, fun j _ _ => rfl⟩
  obtain ⟨i0, i1, i3, i4, i5, i6, i7, i8⟩ := i2
  rw [i4, fill_all_id] at ev
  exact ⟨_, _, ev⟩
theorem implRow_ev {p : List Int} (hp : picB (p.length : Int) 1 p 255 = true) : Ev (fun k => impl_RowDots.f k p) ((List.range p.length).map (dotF p)) := by
  obtain ⟨E, L, ev⟩ := row_ev hp
  unfold impl_RowDots.f
  exact Ev.bind (Ev_eq (impl_IsPicture.eq _ _ _)) (Ev_pos hp (Ev.bind (Ev.now _) (Ev.bind ev (Ev.now _))))
/-! The reference's diffusion along a row. -/
theorem w64_0 : wrap64 0 = 0 := wid 0 (by omega) (by omega)
theorem w64_01 : wrap64 (0 + 1) = 1 := wid 1 (by omega) (by omega)
theorem w64_11 : wrap64 (1 * 1) = 1 := wid 1 (by omega) (by omega)
theorem w64_00 : wrap64 (0 + 0) = 0 := wid 0 (by omega) (by omega)
theorem specPlainShare_ev (e : Int) (e0 : -1000000 ≤ e) (e1 : e ≤ 1000000) : Ev (fun k => spec_l4Shares.f k plainK 1 e) [e] := by
  have f2 : (rd_T68 plainK 0).f2 = 1 := rfl
  have m : e % 1 = 0 := Int.emod_one e
  unfold spec_l4Shares.f
  refine Ev.step (fun k => spec_l4Shares.l0.eq_2 ..) (Ev_pos (by decide) (Ev_pos (by decide) (Ev_pos (by decide) ?_)))
  rw [f2, Int.mul_one, wid e (by omega) (by omega)]
  refine Ev.bind (Ev_eq (specMod_ev e 1 (by omega) (by omega))) (Ev_neg (by omega) (Ev_pos (by simp) ?_))
  rw [m, Int.sub_zero, wid e (by omega) (by omega), Int.tdiv_one, wid e (by omega) (by omega), Int.sub_self]
  refine Ev.step (fun k => spec_l4Shares.l0.eq_2 ..) (Ev_neg (by rw [w64_01]; decide) (Ev_pos (by simp) ?_))
  have hs : (([] : List Int) ++ [e]).set (0 : Int).toNat (wrap64 (rd ([] ++ [e]) 0 + wrap64 0)) = [e] := by
    show [wrap64 (e + wrap64 0)] = [e]
    rw [w64_0, Int.add_zero, wid e (by omega) (by omega)]
  rw [hs]
  exact Ev.now _
def rowC (N : Int) (c : Nat) (st : List Int × List Int × List Int × Int) : List Int × List Int × List Int × Int :=
  ((if N ≤ (c : Int) + 1 then st.1 else st.1.set (c + 1) (st.1.getD (c + 1) 0 + (if st.1.getD c 0 ≥ 128 then st.1.getD c 0 - 255 else st.1.getD c 0))),
   st.2.1.set c (if st.1.getD c 0 ≥ 128 then st.1.getD c 0 - 255 else st.1.getD c 0),
   (if st.1.getD c 0 ≥ 128 then st.2.2.1.set c 1 else st.2.2.1),
   (if N ≤ (c : Int) + 1 then st.2.2.2 + (if st.1.getD c 0 ≥ 128 then st.1.getD c 0 - 255 else st.1.getD c 0) else st.2.2.2))
theorem dfC_row (N : Int) (c : Nat) (st : List Int × List Int × List Int × Int) : dfC N 1 (wayN false 0) (colN false N 0 c) ((0 : Nat) : Int) plainK st = rowC N c st := by
  have ec : colN false N 0 c = (c : Int) := if_neg (by simp)
  have ew : wayN false 0 = 1 := if_neg (by simp)
  have ei : ((0 : Nat) : Int) * N + (c : Int) = (c : Int) := by
    rw [show ((0 : Nat) : Int) = 0 from rfl, Int.zero_mul, Int.zero_add]
  unfold dfC rowC
  rw [ec, ew, ei, plain_T, rd_nat, Int.toNat_natCast]
  by_cases h : N ≤ (c : Int) + 1
  · rw [if_pos h, if_pos h, if_pos h]
  · rw [if_neg h, if_neg h, if_neg h]
theorem specRow_step {p : List Int} (hp : ∀ v ∈ p, 0 ≤ v ∧ v ≤ 255) (hn : p.length ≤ 64) (c : Nat) (st : List Int × List Int × List Int × Int) (hc : c < p.length) (hst : rowInv p c st) (R : List Int × List Int × Int)
    (nx : Ev (fun k => spec_l4Run.l0 k plainK false (rowC (p.length : Int) c st).1 (rowC (p.length : Int) c st).2.2.1 (rowC (p.length : Int) c st).2.1 1 (rowC (p.length : Int) c st).2.2.2 (p.length : Int) (wrap64 ((c : Int) + 1)) (p.length : Int) 1 p) R) :
    Ev (fun k => spec_l4Run.l0 k plainK false st.1 st.2.2.1 st.2.1 1 st.2.2.2 (p.length : Int) (c : Int) (p.length : Int) 1 p) R := by
  obtain ⟨i0, i1, i2, i3, i4, i5, i6, i7⟩ := hst
  have hv := i6 hc
  have bp := hp _ (getD_mem p c hc)
  have be := eF_bd hp c (by omega)
  have i3l : st.2.2.1.length = p.length := by rw [i3, fill_len]
  have e1 : Int.tmod (c : Int) (p.length : Int) = (c : Int) := by rw [tmod_nat, Int.emod_eq_of_lt (by omega) (by omega)]
  have e2 : wrap64 (Int.tdiv (c : Int) (p.length : Int)) = 0 := by
    rw [tdiv_nat c _ (by omega), Int.ediv_eq_zero_of_lt (by omega) (by omega)]
    exact w64_0
  have f0 : (rd_T68 plainK ((0 : Nat) : Int)).f0 = 1 := rfl
  have f1 : (rd_T68 plainK ((0 : Nat) : Int)).f1 = 0 := rfl
  unfold rowC at nx
  dsimp only at nx
  generalize hvv : st.1.getD c 0 = v at *
  obtain ⟨e, he⟩ : ∃ e : Int, (if v ≥ 128 then v - 255 else v) = e := ⟨_, rfl⟩
  rw [he] at nx
  have eb : -255 ≤ e ∧ e ≤ 382 := by
    split at he <;> omega
  have l1end : ∀ (V D : List Int) (L : Int), Ev (fun k => spec_l4Run.l0 k plainK false V D (st.2.1.set c e) 1 L (p.length : Int) (wrap64 ((c : Int) + 1)) (p.length : Int) 1 p) R → Ev (fun k => spec_l4Run.l1 k plainK false V D (st.2.1.set c e) 1 L 0 (c : Int) 1 (p.length : Int) (c : Int) [e] 1 1 (p.length : Int) 1 p) R := fun V D L h => Ev.step (fun k => spec_l4Run.l1.eq_2 ..) (Ev_neg (by decide) h)
  have w01 : wrap64 ((0 : Int) + 1) = 1 := w64_01
  have l1 : ∀ D : List Int, D = (if v ≥ 128 then st.2.2.1.set c 1 else st.2.2.1) → Ev (fun k => spec_l4Run.l1 k plainK false st.1 D (st.2.1.set c e) 1 st.2.2.2 0 (c : Int) 1 (p.length : Int) (c : Int) [e] 1 0 (p.length : Int) 1 p) R := by
    intro D hD
    rw [← hD] at nx
    refine Ev.step (fun k => spec_l4Run.l1.eq_2 ..) (Ev_pos (by omega) (Ev_pos (by omega) (Ev_pos (by simp) (Ev_pos (by decide) ?_))))
    have g0 : (rd_T68 plainK 0).f0 = 1 := rfl
    have g1 : (rd_T68 plainK 0).f1 = 0 := rfl
    have g2 : rd [e] 0 = e := rfl
    rw [g0, g1, g2, w01, w64_11, w64_00, wid ((c : Int) + 1) (by omega) (by omega), wid ((p.length : Int) - 1) (by omega) (by omega)]
    refine Ev.bind (Ev_eq (l1In_eq _ _ _)) ?_
    by_cases hl : (p.length : Int) ≤ (c : Int) + 1
    · rw [if_pos hl, if_pos hl] at nx
      refine Ev_neg (by rw [decide_eq_false (by omega)]; simp) ?_
      rw [wid (st.2.2.2 + e) (by omega) (by omega)]
      exact l1end _ _ _ nx
    · rw [if_neg hl, if_neg hl] at nx
      have hq := i7 (c + 1) (by omega) (by omega)
      have bq := hp _ (getD_mem p (c + 1) (by omega))
      refine Ev_pos (decide_eq_true (by omega)) (Ev_pos (by decide) ?_)
      rw [Int.zero_mul, w64_0, Int.zero_add, wid ((c : Int) + 1) (by omega) (by omega)]
      refine Ev_pos (by omega) (Ev_pos (by omega) ?_)
      have er : rd st.1 ((c : Int) + 1) = st.1.getD (c + 1) 0 := by
        rw [show (c : Int) + 1 = ((c + 1 : Nat) : Int) by omega, rd_nat]
      rw [er, wid (st.1.getD (c + 1) 0 + e) (by omega) (by omega), show ((c : Int) + 1).toNat = c + 1 by omega]
      exact l1end _ _ _ nx
  have j3 : ∀ D : List Int, D = (if v ≥ 128 then st.2.2.1.set c 1 else st.2.2.1) → Ev (fun k => spec_l4Run.j3 k plainK false st.1 D st.2.1 1 st.2.2.2 0 (c : Int) 1 (c : Int) e (p.length : Int) (c : Int) (p.length : Int) 1 p) R := by
    intro D hD
    refine Ev.step (fun k => spec_l4Run.j3.eq_2 ..) (Ev_pos (by omega) (Ev_pos (by omega) (Ev.bind (specPlainShare_ev e (by omega) (by omega)) ?_)))
    rw [Int.toNat_natCast]
    exact l1 D hD
  have j2 : Ev (fun k => spec_l4Run.j2 k plainK false st.1 st.2.2.1 st.2.1 1 st.2.2.2 0 (c : Int) 1 (p.length : Int) (c : Int) (p.length : Int) 1 p) R := by
    refine Ev.step (fun k => spec_l4Run.j2.eq_2 ..) ?_
    rw [Int.zero_mul, w64_0, Int.zero_add, wid (c : Int) (by omega) (by omega), rd_nat, hvv]
    refine Ev_pos (by omega) (Ev_pos (by omega) ?_)
    by_cases g : v ≥ 128
    · rw [if_pos g] at he
      rw [wid (v - 255) (by omega) (by omega), he, Int.toNat_natCast]
      exact Ev_pos g (Ev_pos (by omega) (j3 _ (if_pos g).symm))
    · rw [if_neg g] at he
      have := j3 st.2.2.1 (if_neg g).symm
      rw [← he] at this
      exact Ev_neg g this
  refine Ev.step (fun k => spec_l4Run.l0.eq_2 ..) (Ev_pos (by omega) (Ev_neg (by omega) (Ev_neg (by simp) ?_)))
  rw [e1, e2]
  exact Ev.step (fun k => spec_l4Run.j1.eq_2 ..) (Ev_neg (by simp) j2)
theorem specRowRun_ev {p : List Int} (hp : picB (p.length : Int) 1 p 255 = true) : ∃ (E : List Int) (L : Int), Ev (fun k => spec_l4Run.f k plainK (p.length : Int) 1 p false) ((List.range p.length).map (dotF p), E, L) := by
  obtain ⟨g0, g1, g2, g3, g4, g5, g6⟩ := pic_spec hp
  have run : ∀ (d i : Nat) (st : List Int × List Int × List Int × Int), i + d = p.length → rowInv p i st → ∃ (E : List Int) (L : Int), Ev (fun k => spec_l4Run.l0 k plainK false st.1 st.2.2.1 st.2.1 1 st.2.2.2 (p.length : Int) (i : Int) (p.length : Int) 1 p) ((List.range p.length).map (dotF p), E, L) := by
    intro d
    induction d with
    | zero =>
      intro i st hi hst
      obtain rfl : i = p.length := by omega
      obtain ⟨i0, i1, i2, i3, i4, i5, i6, i7⟩ := hst
      refine ⟨st.2.1, st.2.2.2, Ev.step (fun k => spec_l4Run.l0.eq_2 ..) (Ev_neg (by omega) ?_)⟩
      rw [i3, fill_all_id]
      exact Ev.now _
    | succ d ih =>
      intro i st hi hst
      have hst' := hst
      rw [← Nat.zero_add i, ← Nat.zero_mul ((p.length : Int)).toNat] at hst
      have s := (row_step g6 (by omega) 0 i st (by omega) (by omega) hst).2
      rw [dfC_row, Nat.zero_mul, Nat.zero_add] at s
      obtain ⟨E, L, ev⟩ := ih (i + 1) _ (by omega) s
      rw [← wsucc i (by omega)] at ev
      exact ⟨E, L, specRow_step g6 (by omega) i st (by omega) hst' _ ev⟩
  obtain ⟨E, L, ev⟩ := run p.length 0 (p, List.replicate p.length 0, List.replicate p.length 0, 0) (by omega) ⟨rfl, fun v hv => by have := g6 v hv; omega, List.length_replicate, (fill_zero _ _ _).symm, by show (-127 : Int) * 0 ≤ 0; omega, by show (0 : Int) ≤ 127 * 0; omega, fun _ => by show p.getD 0 0 = p.getD 0 0 + 0; omega, fun j _ _ => rfl⟩
  refine ⟨E, L, ?_⟩
  have hwt := specWeight_ev plainK (by decide)
  rw [if_pos plain_kern, show wtTo plainK plainK.length = 1 from by decide] at hwt
  unfold spec_l4Run.f
  refine Ev.bind (Ev.now _) (Ev_pos (by simp; omega) (Ev.bind (Ev.now _) (Ev_pos (by omega) (Ev_pos (by simp; omega) (Ev.bind hwt ?_)))))
  rw [List.nil_append, Int.toNat_natCast]
  exact ev
theorem RowDots_same (p : List Int) (hl : p.length ≤ 1048576) : ∃ L : List Int, L.length ≤ 1048576 ∧ Ev (fun k => spec_RowDots.f k p) L ∧ Ev (fun k => impl_RowDots.f k p) L := by
  by_cases hp : picB (p.length : Int) 1 p 255 = true
  · obtain ⟨E, L, ev⟩ := specRowRun_ev hp
    refine ⟨(List.range p.length).map (dotF p), by rw [len_tab]; exact hl, ?_, implRow_ev hp⟩
    unfold spec_RowDots.f
    exact Ev.bind (specIsPicture_ev _ _ _ hl) (Ev_pos hp (Ev.bind (Ev.now _) (Ev.bind ev (Ev.now _))))
  · refine ⟨[], Nat.zero_le _, ?_, ?_⟩
    · unfold spec_RowDots.f
      exact Ev.bind (specIsPicture_ev _ _ _ hl) (Ev_neg hp (Ev.now _))
    · unfold impl_RowDots.f
      exact Ev.bind (Ev_eq (impl_IsPicture.eq _ _ _)) (Ev_neg hp (Ev.now _))
/-- The law FnExactRowDots: the program's RowDots answers what the reference's answers. -/
theorem FnExactRowDots (l0 : List Int) (h0_ : l0.length ≤ maxLen) (h1_ : l0.length * 8 ≤ 140737488351232) (h2_ : (∀ x ∈ l0, (Lit.int .i64 x).wf = true)) :
    ∃ k, P.laws_FnExactRowDots.f k l0 = some true := by
  refine Ev.rounds ?_
  unfold laws_FnExactRowDots.f
  by_cases hl : (l0.length : Int) > 1048576
  · exact Ev_pos hl (Ev.now _)
  refine Ev_neg hl ?_
  obtain ⟨L, HL, HS, HI⟩ := RowDots_same l0 (by omega)
  have ti := toIntS_ev l0 (by omega)
  have es := eqIntS_self L HL
  have e0 := eqIntS_self l0 (by omega)
  have mk := markIntS_ev l0 1 (by omega) (by omega) (by omega)
  have mL := markIntS_ev L 1 HL (by omega) (by omega)
  have hL := heldIntS_ev L.length 1 HL (by omega) (by omega)
  refine Ev.bind ti (Ev.bind HS (Ev.bind ti (Ev.bind HI (Ev.bind es (Ev_pos rfl (Ev.bind ti (Ev.bind e0 (Ev_pos rfl (Ev.bind mk (Ev_neg (by dsimp only; omega) (Ev.bind es ?_)))))))))))
  refine Ev.step (fun k => laws_FnExactRowDots.j0.eq_2 ..) (Ev_neg (by simp) (Ev.bind mL (Ev.bind hL (Ev_neg (by omega) (Ev_pos rfl (Ev.bind ti (Ev.bind HI (Ev.bind es (Ev_pos rfl (Ev.bind hL (Ev_neg (by omega) (Ev_pos rfl (Ev.now _)))))))))))))
end Go.Proofs.Ytndnklicfibkeaa.Q
