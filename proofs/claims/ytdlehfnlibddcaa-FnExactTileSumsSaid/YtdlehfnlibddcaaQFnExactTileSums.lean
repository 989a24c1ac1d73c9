/- The law FnExactTileSums: the program's TileSums answers what the reference's answers. -/
import Derived.Test.YtdlehfnlibddcaaFimplIsPicture
import Derived.Test.YtdlehfnlibddcaaFimplTileSums
import Derived.Test.YtdlehfnlibddcaaFlawsFnExactTileSums
import Derived.Test.YtdlehfnlibddcaaFlawseqIntS
import Derived.Test.YtdlehfnlibddcaaFlawseqPicture
import Derived.Test.YtdlehfnlibddcaaFlawsheldIntS
import Derived.Test.YtdlehfnlibddcaaFlawsmarkIntS
import Derived.Test.YtdlehfnlibddcaaFlawsmarkPicture
import Derived.Test.YtdlehfnlibddcaaFlawsszIntS
import Derived.Test.YtdlehfnlibddcaaFlawsszPicture
import Derived.Test.YtdlehfnlibddcaaFlawstoIntS
import Derived.Test.YtdlehfnlibddcaaFlawstoPicture
import Derived.Test.YtdlehfnlibddcaaFpre
import Derived.Test.YtdlehfnlibddcaaFspecCropPicture
import Derived.Test.YtdlehfnlibddcaaFspecIsPicture
import Derived.Test.YtdlehfnlibddcaaFspecSumInk
import Derived.Test.YtdlehfnlibddcaaFspecTileSums
import Derived.Test.YtdlehfnlibddcaaFspecl1Empty
import Derived.Test.YtdlehfnlibddcaaFspecl1In
import Derived.Test.YtdlehfnlibddcaaFspecl1Size
import Derived.Test.YtdlehfnlibddcaaFspecl1Up
import Derived.Test.YtdlehfnlibddcaaP0
namespace Go.Proofs.Ytdlehfnlibddcaa.Q
open Go.RowKit Go.Proofs.Ytdlehfnlibddcaa.P Go.Proofs.YtdlehfnlibddcaaW.PrintWords
set_option linter.unusedVariables false
set_option linter.unusedSimpArgs false
theorem wsucc (i : Nat) (h : i < 9223372036854775807) : wrap64 ((i : Int) + 1) = ((i + 1 : Nat) : Int) := by unfold wrap64; omega
theorem wid (x : Int) (h0 : -9223372036854775808 ≤ x) (h1 : x ≤ 9223372036854775807) : wrap64 x = x := by unfold wrap64; omega
theorem rd_nat (l : List Int) (i : Nat) : rd l (i : Int) = l.getD i 0 := by unfold rd; rw [Int.toNat_natCast]
theorem getD_of_lt {α : Type} (l : List α) (d : α) (i : Nat) (h : i < l.length) : l.getD i d = l[i] := by simp [List.getD_eq_getElem?_getD, List.getElem?_eq_getElem h]
theorem getD_mem (l : List Int) (i : Nat) (h : i < l.length) : l.getD i 0 ∈ l := by rw [getD_of_lt l 0 i h]; exact List.getElem_mem h
theorem ext_getD {a b : List Int} (hl : a.length = b.length) (h : ∀ i, i < a.length → a.getD i 0 = b.getD i 0) : a = b := by
  apply List.ext_getElem hl
  intro i h1 h2
  have := h i h1
  rwa [getD_of_lt a 0 i h1, getD_of_lt b 0 i h2] at this
theorem getD_set (l : List Int) (i j : Nat) (x : Int) (hi : i < l.length) : (l.set i x).getD j 0 = if j = i then x else l.getD j 0 := by
  simp only [List.getD_eq_getElem?_getD, List.getElem?_set]
  by_cases h : i = j
  · subst h; simp [hi]
  · rw [if_neg h, if_neg (fun e => h e.symm)]
theorem getD_tab (n : Nat) (f : Nat → Int) (j : Nat) (h : j < n) : ((List.range n).map f).getD j 0 = f j := by
  simp [List.getD_eq_getElem?_getD, List.getElem?_map, List.getElem?_range h]
theorem len_tab (n : Nat) (f : Nat → Int) : ((List.range n).map f).length = n := by simp
theorem tab_congr (n : Nat) (f g : Nat → Int) (h : ∀ i, i < n → f i = g i) : (List.range n).map f = (List.range n).map g :=
  List.map_congr_left (fun i hi => h i (List.mem_range.1 hi))
theorem tab_self (l : List Int) : (List.range l.length).map (fun i => l.getD i 0) = l := by
  apply ext_getD (by simp)
  intro i hi
  rw [len_tab] at hi
  rw [getD_tab _ _ _ hi]
/-- A table that is filled place by place: after i rounds those whose round has been are told, the others are 0. -/
def fill (n : Nat) (s : Nat → Nat) (f : Nat → Int) (i : Nat) : List Int := (List.range n).map fun m => if s m < i then f m else 0
theorem fill_len (n : Nat) (s : Nat → Nat) (f : Nat → Int) (i : Nat) : (fill n s f i).length = n := len_tab _ _
theorem fill_zero (n : Nat) (s : Nat → Nat) (f : Nat → Int) : fill n s f 0 = List.replicate n 0 := by
  unfold fill
  simp [List.map_const']
theorem fill_all (n : Nat) (s : Nat → Nat) (f : Nat → Int) (h : ∀ m, m < n → s m < n) : fill n s f n = (List.range n).map f := tab_congr _ _ _ (fun i hi => if_pos (h i hi))
theorem fill_set (n : Nat) (s : Nat → Nat) (f : Nat → Int) (i p : Nat) (hp : p < n) (hs : ∀ m, m < n → (s m = i ↔ m = p)) : (fill n s f i).set p (f p) = fill n s f (i + 1) := by
  apply ext_getD (by rw [List.length_set, fill_len, fill_len])
  intro j hj
  rw [List.length_set, fill_len] at hj
  rw [getD_set _ _ _ _ (by rw [fill_len]; exact hp)]
  unfold fill
  rw [getD_tab _ _ _ hj, getD_tab _ _ _ hj]
  have := hs j hj
  by_cases e : j = p
  · subst e
    rw [if_pos rfl, if_pos (by have := this.2 rfl; omega)]
  · rw [if_neg e]
    have hne : s j ≠ i := fun h => e (this.1 h)
    by_cases h : s j < i
    · rw [if_pos h, if_pos (by omega)]
    · rw [if_neg h, if_neg (by omega)]
theorem fill_set_id (n : Nat) (f : Nat → Int) (i : Nat) (hi : i < n) : (fill n id f i).set i (f i) = fill n id f (i + 1) := fill_set n id f i i hi (fun m _ => Iff.rfl)
theorem fill_all_id (n : Nat) (f : Nat → Int) : fill n id f n = (List.range n).map f := fill_all n id f (fun _ h => h)
/-! Sums. -/
def sumTo (l : List Int) (i : Nat) : Int := (l.take i).foldl (· + ·) 0
theorem foldl_add (l : List Int) (a : Int) : l.foldl (· + ·) a = a + l.foldl (· + ·) 0 := by
  induction l generalizing a with
  | nil => simp
  | cons x r ih => simp only [List.foldl_cons]; rw [ih (a + x), ih (0 + x)]; omega
def sumL (l : List Int) : Int := l.foldl (· + ·) 0
theorem sumL_append (a b : List Int) : sumL (a ++ b) = sumL a + sumL b := by unfold sumL; rw [List.foldl_append, foldl_add]
theorem sumL_one (x : Int) : sumL [x] = x := by simp [sumL]
theorem sumTo_succ (l : List Int) (i : Nat) (h : i < l.length) : sumTo l (i + 1) = sumTo l i + l.getD i 0 := by
  unfold sumTo
  rw [List.take_succ_eq_append_getElem h, List.foldl_append, getD_of_lt l 0 i h]
  simp
theorem sumTo_zero (l : List Int) : sumTo l 0 = 0 := by simp [sumTo]
theorem sumTo_all (l : List Int) : sumTo l l.length = sumL l := by simp [sumTo, sumL]
theorem sumTo_bd (l : List Int) (lo hi : Int) (h0 : lo ≤ 0) (h1 : 0 ≤ hi) (h : ∀ x ∈ l, lo ≤ x ∧ x ≤ hi) (i : Nat) (hi' : i ≤ l.length) : lo * i ≤ sumTo l i ∧ sumTo l i ≤ hi * i := by
  induction i with
  | zero => simp [sumTo_zero]
  | succ i ih =>
    have ih := ih (by omega)
    have hm := h _ (getD_mem l i (by omega))
    rw [sumTo_succ l i (by omega)]
    push_cast
    rw [Int.mul_add, Int.mul_add]
    omega
/-! The laws' own helpers. -/
def szI (n : Nat) (left : Int) : Int := if left - (n : Int) < 0 then -1 else left - (n : Int)
theorem szIntS_eq (l : List Int) (left : Int) (h0 : 0 ≤ left) (h1 : left ≤ 1048576) (hl : l.length ≤ maxLen) : laws_szIntS.f l left = some (szI l.length left) := by
  unfold maxLen at hl
  unfold laws_szIntS.f szI
  rw [wid (left - (l.length : Int)) (by omega) (by omega)]
  split <;> rfl
theorem toIntS_ev (l : List Int) (hl : l.length ≤ 1048576) : Ev (fun k => laws_toIntS.f k l) l := by
  have key : ∀ d i : Nat, i + d = l.length → Ev (fun k => laws_toIntS.l0 k l (fill l.length id (fun j => l.getD j 0) i) (i : Int)) l := by
    intro d
    induction d with
    | zero =>
      intro i hi
      obtain rfl : i = l.length := by omega
      refine Ev.step (f := fun _ => some l) (fun k => ?_) (Ev.now _)
      simp only [laws_toIntS.l0]
      rw [if_neg (by omega), fill_all_id, tab_self]
    | succ d ih =>
      intro i hi
      refine Ev.step (fun k => ?_) (ih (i + 1) (by omega))
      simp only [laws_toIntS.l0]
      rw [if_pos (by omega), if_pos (by omega), fill_len, if_pos (by omega), wsucc i (by omega), rd_nat, Int.toNat_natCast, fill_set_id _ _ _ (by omega)]
  refine Ev.congr (fun k => ?_) (key l.length 0 (by omega))
  unfold laws_toIntS.f
  rw [if_pos (by omega), if_pos (by omega), Int.toNat_natCast, fill_zero]
  rfl
theorem eqIntS_ev (a b : List Int) (ha : a.length ≤ 1048576) : Ev (fun k => laws_eqIntS.f k a b) (decide (a = b)) := by
  by_cases hl : a.length = b.length
  · have key : ∀ d i : Nat, i + d = a.length → (∀ j, j < i → a.getD j 0 = b.getD j 0) → Ev (fun k => laws_eqIntS.l0 k a b (i : Int)) (decide (a = b)) := by
      intro d
      induction d with
      | zero =>
        intro i hi hj
        have : a = b := ext_getD hl (fun j h => hj j (by omega))
        rw [decide_eq_true this]
        refine Ev.step (f := fun _ => some true) (fun k => ?_) (Ev.now _)
        simp only [laws_eqIntS.l0]
        rw [if_neg (by omega)]
      | succ d ih =>
        intro i hi hj
        by_cases e : a.getD i 0 = b.getD i 0
        · refine Ev.step (fun k => ?_) (ih (i + 1) (by omega) (fun j h => if hji : j = i then hji ▸ e else hj j (by omega)))
          simp only [laws_eqIntS.l0]
          rw [if_pos (by omega), if_pos (by omega), if_pos (by omega), rd_nat, rd_nat, if_pos e, wsucc i (by omega)]
        · rw [decide_eq_false (fun h => e (by rw [h]))]
          refine Ev.step (f := fun _ => some false) (fun k => ?_) (Ev.now _)
          simp only [laws_eqIntS.l0]
          rw [if_pos (by omega), if_pos (by omega), if_pos (by omega), rd_nat, rd_nat, if_neg e]
    refine Ev.congr (fun k => ?_) (key a.length 0 (by omega) (fun j h => absurd h (by omega)))
    unfold laws_eqIntS.f
    rw [if_pos (by omega)]
    rfl
  · rw [decide_eq_false (fun h => hl (by rw [h]))]
    refine Ev.congr (fun k => ?_) (Ev.now _)
    unfold laws_eqIntS.f
    rw [if_neg (by omega)]
/-- The list that marking leaves. -/
def marks (n : Nat) (x : Int) : List Int := (List.range n).map fun (j : Nat) => x + (j : Int)
theorem marks_len (n : Nat) (x : Int) : (marks n x).length = n := len_tab _ _
def marking (l : List Int) (x : Int) (i : Nat) : List Int := (List.range l.length).map fun m => if m < i then x + (m : Int) else l.getD m 0
theorem marking_zero (l : List Int) (x : Int) : marking l x 0 = l := by
  unfold marking
  simp only [Nat.not_lt_zero, if_false]
  exact tab_self l
theorem marking_all (l : List Int) (x : Int) : marking l x l.length = marks l.length x := tab_congr _ _ _ (fun i hi => if_pos hi)
theorem marking_len (l : List Int) (x : Int) (i : Nat) : (marking l x i).length = l.length := len_tab _ _
theorem marking_set (l : List Int) (x : Int) (i : Nat) (hi : i < l.length) : (marking l x i).set i (x + (i : Int)) = marking l x (i + 1) := by
  apply ext_getD (by rw [List.length_set, marking_len, marking_len])
  intro j hj
  rw [List.length_set, marking_len] at hj
  rw [getD_set _ _ _ _ (by rw [marking_len]; exact hi)]
  unfold marking
  rw [getD_tab _ _ _ hj, getD_tab _ _ _ hj]
  by_cases e : j = i
  · subst e
    rw [if_pos rfl, if_pos (by omega)]
  · rw [if_neg e]
    by_cases h : j < i
    · rw [if_pos h, if_pos (by omega)]
    · rw [if_neg h, if_neg (by omega)]
theorem markIntS_ev (l : List Int) (x : Int) (hl : l.length ≤ 1048576) (h0 : 0 ≤ x) (h1 : x ≤ 1073741824) : Ev (fun k => laws_markIntS.f k l x) (x + (l.length : Int), marks l.length x) := by
  have key : ∀ d i : Nat, i + d = l.length → Ev (fun k => laws_markIntS.l0 k (marking l x i) (x + (i : Int)) (i : Int)) (x + (l.length : Int), marks l.length x) := by
    intro d
    induction d with
    | zero =>
      intro i hi
      obtain rfl : i = l.length := by omega
      refine Ev.step (f := fun _ => some (x + (l.length : Int), marks l.length x)) (fun k => ?_) (Ev.now _)
      simp only [laws_markIntS.l0]
      rw [marking_len, if_neg (by omega), marking_all]
    | succ d ih =>
      intro i hi
      refine Ev.step (fun k => ?_) (ih (i + 1) (by omega))
      simp only [laws_markIntS.l0]
      rw [marking_len, if_pos (by omega), if_pos (by omega), wsucc i (by omega), Int.toNat_natCast, marking_set _ _ _ (by omega), wid (x + (i : Int) + 1) (by omega) (by omega)]
      rw [show x + (i : Int) + 1 = x + ((i + 1 : Nat) : Int) by omega]
  refine Ev.congr (fun k => ?_) (key l.length 0 (by omega))
  unfold laws_markIntS.f
  rw [marking_zero]
  simp
theorem heldIntS_ev (n : Nat) (x : Int) (hl : n ≤ 1048576) (h0 : 0 ≤ x) (h1 : x ≤ 1073741824) : Ev (fun k => laws_heldIntS.f k (marks n x) x) (x + (n : Int)) := by
  have key : ∀ d i : Nat, i + d = n → Ev (fun k => laws_heldIntS.l0 k (marks n x) (x + (i : Int)) (i : Int)) (x + (n : Int)) := by
    intro d
    induction d with
    | zero =>
      intro i hi
      obtain rfl : i = n := by omega
      refine Ev.step (f := fun _ => some (x + (i : Int))) (fun k => ?_) (Ev.now _)
      simp only [laws_heldIntS.l0]
      rw [marks_len, if_neg (by omega)]
    | succ d ih =>
      intro i hi
      refine Ev.step (fun k => ?_) (ih (i + 1) (by omega))
      simp only [laws_heldIntS.l0]
      have hr : rd (marks n x) (i : Int) = x + (i : Int) := by rw [rd_nat]; unfold marks; rw [getD_tab _ _ _ (by omega)]
      rw [marks_len, if_pos (by omega), if_pos (by omega), hr, if_pos rfl, wsucc i (by omega), wid (x + (i : Int) + 1) (by omega) (by omega)]
      rw [show x + (i : Int) + 1 = x + ((i + 1 : Nat) : Int) by omega]
  refine Ev.congr (fun k => ?_) (key n 0 (by omega))
  unfold laws_heldIntS.f
  simp
theorem Ev_pos {α : Type} {c : Prop} [Decidable c] {f g : Nat → Option α} {r : α} (hc : c) (h : Ev f r) : Ev (fun k => if c then f k else g k) r := Ev.congr (fun k => if_pos hc) h
theorem Ev_neg {α : Type} {c : Prop} [Decidable c] {f g : Nat → Option α} {r : α} (hc : ¬ c) (h : Ev g r) : Ev (fun k => if c then f k else g k) r := Ev.congr (fun k => if_neg hc) h
/-! The reference's pictures. -/
theorem l1In_eq (x a b : Int) : spec_l1In.f x a b = some (decide (a ≤ x ∧ x ≤ b)) := by
  unfold spec_l1In.f
  by_cases h : x ≥ a
  · rw [if_pos h]
    congr 1
    rw [decide_eq_decide]
    omega
  · rw [if_neg h, decide_eq_false (by omega)]
theorem l1Size_eq (a0 a1 : Int) : spec_l1Size.f a0 a1 = some (sizedB a0 a1) := by
  unfold spec_l1Size.f sizedB
  rw [l1In_eq, Option.bind_some]
  by_cases h0 : 1 ≤ a0 ∧ a0 ≤ 64
  · rw [decide_eq_true h0, if_pos rfl, l1In_eq, Option.bind_some]
    by_cases h1 : 1 ≤ a1 ∧ a1 ≤ 64
    · rw [decide_eq_true h1, if_pos rfl]
      have e0 : 0 ≤ a0 * a1 := Int.mul_nonneg (by omega) (by omega)
      have e1 : a0 * a1 ≤ 64 * 64 := Int.le_trans (Int.mul_le_mul_of_nonneg_right h0.2 (by omega)) (Int.mul_le_mul_of_nonneg_left h1.2 (by omega))
      rw [wid (a0 * a1) (by omega) (by omega)]
      congr 1
      rw [decide_eq_decide]
      exact ⟨fun h => ⟨h0.1, h0.2, h1.1, h1.2, h⟩, fun h => h.2.2.2.2⟩
    · rw [decide_eq_false h1, if_neg (by simp), decide_eq_false (fun h => h1 ⟨h.2.2.1, h.2.2.2.1⟩)]
  · rw [decide_eq_false h0, if_neg (by simp), decide_eq_false (fun h => h0 ⟨h.1, h.2.1⟩)]
theorem l1Up_ev (w h : Int) (l : List Int) (m : Int) (hl : l.length ≤ 1048576) : Ev (fun k => spec_l1Up.f k w h l m) (picB w h l m) := by
  have key : ∀ d i : Nat, i + d = l.length → Ev (fun k => spec_l1Up.l0 k m l (l.length : Int) (i : Int)) ((l.drop i).all fun n => decide (0 ≤ n ∧ n ≤ m)) := by
    intro d
    induction d with
    | zero =>
      intro i hi
      rw [List.drop_eq_nil_of_le (by omega)]
      refine Ev.step (f := fun _ => some true) (fun k => ?_) (Ev.now _)
      simp only [spec_l1Up.l0]
      rw [if_neg (by omega)]
    | succ d ih =>
      intro i hi
      rw [List.drop_eq_getElem_cons (by omega), List.all_cons]
      have hr : rd l (i : Int) = l[i] := by rw [rd_nat, getD_of_lt]
      by_cases e : 0 ≤ l[i] ∧ l[i] ≤ m
      · rw [decide_eq_true e, Bool.true_and]
        refine Ev.step (fun k => ?_) (ih (i + 1) (by omega))
        simp only [spec_l1Up.l0]
        rw [if_pos (by omega), if_pos (by omega), if_pos (by omega), l1In_eq, Option.bind_some, hr, decide_eq_true e, if_pos rfl, wsucc i (by omega)]
      · rw [decide_eq_false e, Bool.false_and]
        refine Ev.step (f := fun _ => some false) (fun k => ?_) (Ev.now _)
        simp only [spec_l1Up.l0]
        rw [if_pos (by omega), if_pos (by omega), if_pos (by omega), l1In_eq, Option.bind_some, hr, decide_eq_false e, if_neg (by simp)]
  unfold spec_l1Up.f picB
  rw [l1Size_eq]
  simp only [Option.bind_some]
  cases hs : sizedB w h with
  | false =>
    simp only [Bool.false_and]
    refine Ev.step (f := fun _ => some false) (fun k => ?_) (Ev.now _)
    rw [if_neg (by simp)]
    simp only [spec_l1Up.j0]
    rw [if_pos trivial]
  | true =>
    obtain ⟨h0, h1, h2, h3, h4⟩ := sized_spec hs
    have e0 : 0 ≤ w * h := Int.mul_nonneg (by omega) (by omega)
    rw [wid (w * h) (by omega) (by omega)]
    simp only [Bool.true_and, if_true]
    by_cases e : (l.length : Int) = w * h
    · rw [decide_eq_true e, Bool.true_and]
      refine Ev.step (fun k => ?_) (key l.length 0 (by omega))
      simp only [spec_l1Up.j0]
      rw [if_neg (by simp [e])]
      rfl
    · rw [decide_eq_false e, Bool.false_and]
      refine Ev.step (f := fun _ => some false) (fun k => ?_) (Ev.now _)
      simp only [spec_l1Up.j0]
      rw [if_pos (by simp [e])]
theorem specIsPicture_ev (w h : Int) (l : List Int) (hl : l.length ≤ 1048576) : Ev (fun k => spec_IsPicture.f k w h l) (picB w h l 255) := by
  unfold spec_IsPicture.f
  exact Ev.bind (l1Up_ev w h l 255 hl) (Ev.now _)
theorem l1Empty_eq (w h : Int) (hs : sizedB w h = true) : spec_l1Empty.f w h = some (w, h, List.replicate (h.toNat * w.toNat) 0) := by
  obtain ⟨h0, h1, h2, h3, h4⟩ := sized_spec hs
  have e0 : 0 ≤ w * h := Int.mul_nonneg (by omega) (by omega)
  unfold spec_l1Empty.f
  rw [wid (w * h) (by omega) (by omega), if_pos e0, if_pos (by omega)]
  have : (w * h).toNat = h.toNat * w.toNat := by rw [Int.toNat_mul (by omega) (by omega), Nat.mul_comm]
  rw [this]
theorem gridL_tab (w : Int) (f : Int → Int → Int) (n : Nat) : gridL w f n = (List.range n).map fun i => cellAt w f i := rfl
theorem area_eq {w h : Int} (h0 : 0 ≤ w) (h1 : 0 ≤ h) : ((h.toNat * w.toNat : Nat) : Int) = w * h := by
  rw [Int.natCast_mul, Int.toNat_of_nonneg h0, Int.toNat_of_nonneg h1, Int.mul_comm]
theorem tdiv_nat (i : Nat) (w : Int) (h : 0 < w) : Int.tdiv (i : Int) w = (i : Int) / w := Int.tdiv_eq_ediv_of_nonneg (by omega)
theorem tmod_nat (i : Nat) (w : Int) : Int.tmod (i : Int) w = (i : Int) % w := Int.tmod_eq_emod_of_nonneg (by omega)
theorem cell_bd {w h : Int} (i : Nat) (h0 : 0 < w) (h1 : 0 < h) (hi : (i : Int) < w * h) : 0 ≤ (i : Int) % w ∧ (i : Int) % w < w ∧ 0 ≤ (i : Int) / w ∧ (i : Int) / w < h ∧ (i : Int) / w * w + (i : Int) % w = i := by
  refine ⟨Int.emod_nonneg _ (by omega), Int.emod_lt_of_pos _ h0, Int.ediv_nonneg (by omega) (by omega), ?_, ?_⟩
  · exact Int.ediv_lt_of_lt_mul h0 (by rw [Int.mul_comm]; exact hi)
  · have := Int.mul_ediv_add_emod (i : Int) w
    rw [Int.mul_comm] at this
    exact this
theorem cell_of {w : Int} (x y : Int) (h0 : 0 < w) (hx0 : 0 ≤ x) (hx : x < w) : (y * w + x) % w = x ∧ (y * w + x) / w = y := by
  constructor
  · rw [Int.add_comm, Int.add_mul_emod_self_right, Int.emod_eq_of_lt hx0 hx]
  · rw [Int.add_comm, Int.add_mul_ediv_right _ _ (by omega), Int.ediv_eq_zero_of_lt hx0 hx, Int.zero_add]
/-- Sums of amounts. -/
theorem specSum_ev (w h : Int) (l : List Int) (hl : l.length ≤ 1048576) : Ev (fun k => spec_SumInk.f k w h l) (if picB w h l 255 = true then sumL l else 0) := by
  unfold spec_SumInk.f
  refine Ev.bind (specIsPicture_ev w h l hl) ?_
  by_cases hp : picB w h l 255 = true
  · obtain ⟨h0, h1, h2, h3, h4, h5, h6⟩ := pic_spec hp
    simp only [if_pos hp]
    have key : ∀ d i : Nat, i + d = l.length → Ev (fun k => spec_SumInk.l0 k (sumTo l i) l (l.length : Int) (i : Int)) (sumL l) := by
      intro d
      induction d with
      | zero =>
        intro i hi
        obtain rfl : i = l.length := by omega
        refine Ev.step (f := fun _ => some (sumL l)) (fun k => ?_) (Ev.now _)
        simp only [spec_SumInk.l0]
        rw [if_neg (by omega), sumTo_all]
      | succ d ih =>
        intro i hi
        have hb := sumTo_bd l 0 255 (by omega) (by omega) h6 (i + 1) (by omega)
        have hs := sumTo_succ l i (by omega)
        refine Ev.step (fun k => ?_) (ih (i + 1) (by omega))
        simp only [spec_SumInk.l0]
        rw [if_pos (by omega), if_pos (by omega), if_pos (by omega), rd_nat, ← hs, wid (sumTo l (i + 1)) (by omega) (by omega), wsucc i (by omega)]
    have := key l.length 0 (by omega)
    rw [sumTo_zero] at this
    exact this
  · simp only [if_neg hp]
    exact Ev.now _
/-! The laws' helpers on pictures. -/
theorem szPic_ok (w h : Int) (l : List Int) (left : Int) (h0 : 0 ≤ left) (h1 : left ≤ 1048576) (hl : (l.length : Int) ≤ left) : laws_szPicture.f w h l left = some (left - (l.length : Int)) := by
  unfold laws_szPicture.f
  rw [szIntS_eq l left h0 h1 (by unfold maxLen; omega)]
  unfold szI
  rw [if_neg (by omega), Option.bind_some, if_neg (by omega)]
theorem szPic_big (w h : Int) (l : List Int) (left : Int) (h0 : 0 ≤ left) (h1 : left ≤ 1048576) (hm : l.length ≤ maxLen) (hl : ¬ (l.length : Int) ≤ left) : laws_szPicture.f w h l left = some (-1) := by
  unfold laws_szPicture.f
  rw [szIntS_eq l left h0 h1 hm]
  unfold szI
  rw [if_pos (by omega), Option.bind_some, if_pos (by omega)]
theorem toPic_ev (w h : Int) (l : List Int) (hl : l.length ≤ 1048576) : Ev (fun k => laws_toPicture.f k w h l) (w, h, l) := by
  unfold laws_toPicture.f
  exact Ev.bind (toIntS_ev l hl) (Ev.now _)
theorem eqPic_ev (w h : Int) (l : List Int) (w2 h2 : Int) (l2 : List Int) (hl : l.length ≤ 1048576) : Ev (fun k => laws_eqPicture.f k w h l w2 h2 l2) (decide (w = w2 ∧ h = h2 ∧ l = l2)) := by
  unfold laws_eqPicture.f
  by_cases e1 : w = w2
  · simp only [if_pos e1]
    by_cases e2 : h = h2
    · simp only [if_pos e2]
      refine Ev.bind (eqIntS_ev l l2 hl) ?_
      by_cases e3 : l = l2
      · rw [decide_eq_true e3, decide_eq_true ⟨e1, e2, e3⟩]
        exact Ev.now _
      · rw [decide_eq_false e3, decide_eq_false (fun h => e3 h.2.2)]
        exact Ev.now _
    · simp only [if_neg e2]
      rw [decide_eq_false (fun h => e2 h.2.1)]
      exact Ev.now _
  · simp only [if_neg e1]
    rw [decide_eq_false (fun h => e1 h.1)]
    exact Ev.now _
theorem eqPic_self (w h : Int) (l : List Int) (hl : l.length ≤ 1048576) : Ev (fun k => laws_eqPicture.f k w h l w h l) true := by
  have := eqPic_ev w h l w h l hl
  rwa [decide_eq_true ⟨rfl, rfl, rfl⟩] at this
theorem markPic_ev (w h : Int) (l : List Int) (x : Int) (hl : l.length ≤ 1048576) (h0 : 0 ≤ x) (h1 : x ≤ 1073741824) : Ev (fun k => laws_markPicture.f k w h l x) (x + (l.length : Int), marks l.length x) := by
  unfold laws_markPicture.f
  exact Ev.bind (markIntS_ev l x hl h0 h1) (Ev.now _)
/-! Pairs of functions that answer alike. -/
theorem pic_rd {w h : Int} {l : List Int} {m : Int} (hp : picB w h l m = true) (x y : Int) (hx0 : 0 ≤ x) (hx : x < w) (hy0 : 0 ≤ y) (hy : y < h) : 0 ≤ y * w + x ∧ y * w + x < (l.length : Int) ∧ wrap64 (wrap64 (y * w) + x) = y * w + x := by
  obtain ⟨h0, h1, h2, h3, h4, h5, h6⟩ := pic_spec hp
  have e0 : 0 ≤ y * w := Int.mul_nonneg hy0 (by omega)
  have e1 : y * w ≤ (h - 1) * w := Int.mul_le_mul_of_nonneg_right (by omega) (by omega)
  have e2 : (h - 1) * w = w * h - w := by rw [Int.sub_mul, Int.one_mul, Int.mul_comm]
  rw [wid (y * w) (by omega) (by omega), wid _ (by omega) (by omega)]
  exact ⟨by omega, by omega, rfl⟩
theorem specCrop_ev (w h : Int) (l : List Int) (p q a b : Int) (hl : l.length ≤ 1048576) : Ev (fun k => spec_CropPicture.f k w h l p q a b) (if picB w h l 255 = true ∧ sizedB a b = true ∧ 0 ≤ p ∧ 0 ≤ q ∧ p ≤ w - a ∧ q ≤ h - b then (a, b, gridL a (fun x y => rd l ((q + y) * w + p + x)) (Int.toNat b * Int.toNat a), true) else (0, 0, [], false)) := by
  have bad : Ev (fun k => spec_CropPicture.j0 k p q a b true w h l) (0, 0, [], false) := by
    refine Ev.step (f := fun _ => some (0, 0, [], false)) (fun k => ?_) (Ev.now _)
    simp only [spec_CropPicture.j0, if_true]
  unfold spec_CropPicture.f
  refine Ev.bind (specIsPicture_ev w h l hl) ?_
  rw [l1Size_eq]
  simp only [Option.bind_some]
  by_cases hp : picB w h l 255 = true
  · refine Ev_pos hp ?_
    obtain ⟨h0, h1, h2, h3, h4, h5, h6⟩ := pic_spec hp
    by_cases hs : sizedB a b = true
    · refine Ev_pos hs ?_
      obtain ⟨g0, g1, g2, g3, g4⟩ := sized_spec hs
      rw [wid (w - a) (by omega) (by omega), wid (h - b) (by omega) (by omega), l1In_eq, l1In_eq]
      simp only [Option.bind_some]
      by_cases hx : 0 ≤ p ∧ p ≤ w - a
      · refine Ev_pos (decide_eq_true hx) ?_
        by_cases hy : 0 ≤ q ∧ q ≤ h - b
        · rw [if_pos ⟨hp, hs, hx.1, hy.1, hx.2, hy.2⟩, decide_eq_true hy]
          have hn := area_eq (w := a) (h := b) (by omega) (by omega)
          have key : ∀ d i : Nat, i + d = b.toNat * a.toNat → Ev (fun k => spec_CropPicture.l0 k p q a ((b.toNat * a.toNat : Nat) : Int) (i : Int) w h l a b (fill (b.toNat * a.toNat) id (cellAt a (fun x y => rd l ((q + y) * w + p + x))) i)) (a, b, gridL a (fun x y => rd l ((q + y) * w + p + x)) (b.toNat * a.toNat), true) := by
            intro d
            induction d with
            | zero =>
              intro i hi
              obtain rfl : i = b.toNat * a.toNat := by omega
              refine Ev.step (f := fun _ => some (a, b, gridL a (fun x y => rd l ((q + y) * w + p + x)) (b.toNat * a.toNat), true)) (fun k => ?_) (Ev.now _)
              simp only [spec_CropPicture.l0]
              rw [if_neg (by omega), fill_all_id, gridL_tab]
            | succ d ih =>
              intro i hi
              obtain ⟨b0, b1, b2, b3, b4⟩ := cell_bd (w := a) (h := b) i (by omega) (by omega) (by omega)
              obtain ⟨e0, e1, e2⟩ := pic_rd hp (p + (i : Int) % a) (q + (i : Int) / a) (by omega) (by omega) (by omega) (by omega)
              have m0 : 0 ≤ (q + (i : Int) / a) * w := Int.mul_nonneg (by omega) (by omega)
              have hz : wrap64 (wrap64 (wrap64 (wrap64 (q + wrap64 (Int.tdiv (i : Int) a)) * w) + p) + Int.tmod (i : Int) a) = (q + (i : Int) / a) * w + p + (i : Int) % a := by
                rw [tdiv_nat i a (by omega), tmod_nat, wid ((i : Int) / a) (by omega) (by omega), wid (q + (i : Int) / a) (by omega) (by omega), wid ((q + (i : Int) / a) * w) (by omega) (by omega), wid ((q + (i : Int) / a) * w + p) (by omega) (by omega), wid _ (by omega) (by omega)]
              refine Ev.step (fun k => ?_) (ih (i + 1) (by omega))
              rw [← fill_set_id _ (cellAt a (fun x y => rd l ((q + y) * w + p + x))) i (by omega)]
              simp only [spec_CropPicture.l0]
              rw [hz, if_pos (by omega), if_neg (by omega), if_pos (by omega), if_pos (by omega), if_pos (by omega), fill_len, if_pos (by omega), wsucc i (by omega), Int.toNat_natCast]
              rfl
          refine Ev.step (fun k => ?_) (key (b.toNat * a.toNat) 0 (by omega))
          simp only [spec_CropPicture.j0]
          rw [if_neg (by simp), l1Empty_eq a b hs]
          simp only [Option.bind_some, List.length_replicate, fill_zero]
          rfl
        · rw [if_neg (fun h => hy ⟨h.2.2.2.1, h.2.2.2.2.2⟩), decide_eq_false hy]
          exact bad
      · rw [if_neg (fun h => hx ⟨h.2.2.1, h.2.2.2.2.1⟩)]
        exact Ev_neg (by rw [decide_eq_false hx]; simp) bad
    · rw [if_neg (fun h => hs h.2.1)]
      exact Ev_neg hs bad
  · rw [if_neg (fun h => hp h.1)]
    exact Ev_neg hp bad
theorem eqIntS_self (l : List Int) (hl : l.length ≤ 1048576) : Ev (fun k => laws_eqIntS.f k l l) true := by
  have := eqIntS_ev l l hl
  rwa [decide_eq_true rfl] at this
theorem pic_mk {w h : Int} {l : List Int} {m : Int} (hs : sizedB w h = true) (hl : l.length = h.toNat * w.toNat) (hx : ∀ x ∈ l, 0 ≤ x ∧ x ≤ m) : picB w h l m = true := by
  obtain ⟨h0, h1, h2, h3, h4⟩ := sized_spec hs
  unfold picB withinB
  rw [Bool.and_eq_true, Bool.and_eq_true, List.all_eq_true]
  have := area_eq (w := w) (h := h) (by omega) (by omega)
  exact ⟨hs, decide_eq_true (by omega), fun x hxl => decide_eq_true (hx x hxl)⟩
theorem pic_small {w h : Int} {l : List Int} {m : Int} (hp : picB w h l m = true) : l.length ≤ 1024 := by
  obtain ⟨h0, h1, h2, h3, h4, h5, h6⟩ := pic_spec hp
  omega
theorem grid_mem {w h : Int} {f : Int → Int → Int} {lo hi : Int} (h0 : 0 < w) (h1 : 0 < h) (hf : ∀ x y : Int, 0 ≤ x → x < w → 0 ≤ y → y < h → lo ≤ f x y ∧ f x y ≤ hi) : ∀ v ∈ gridL w f (h.toNat * w.toNat), lo ≤ v ∧ v ≤ hi := by
  intro v hv
  rw [gridL_tab] at hv
  obtain ⟨i, hi, rfl⟩ := List.mem_map.1 hv
  have hn := area_eq (w := w) (h := h) (by omega) (by omega)
  obtain ⟨b0, b1, b2, b3, b4⟩ := cell_bd (w := w) (h := h) i h0 h1 (by have := List.mem_range.1 hi; omega)
  exact hf _ _ b0 b1 b2 b3
theorem rd_pic {w h : Int} {l : List Int} {m : Int} (hp : picB w h l m = true) (x y : Int) (hx0 : 0 ≤ x) (hx : x < w) (hy0 : 0 ≤ y) (hy : y < h) : 0 ≤ rd l (y * w + x) ∧ rd l (y * w + x) ≤ m := by
  obtain ⟨h0, h1, h2, h3, h4, h5, h6⟩ := pic_spec hp
  obtain ⟨e0, e1, e2⟩ := pic_rd hp x y hx0 hx hy0 hy
  obtain ⟨k, hk⟩ : ∃ k : Nat, y * w + x = (k : Int) := ⟨(y * w + x).toNat, by omega⟩
  rw [hk, rd_nat]
  exact h6 _ (getD_mem l k (by omega))
/-! Sums over grids. -/
def sumN (n : Nat) (g : Nat → Int) : Int := sumL ((List.range n).map g)
theorem sumN_zero (g : Nat → Int) : sumN 0 g = 0 := rfl
theorem sumN_succ (n : Nat) (g : Nat → Int) : sumN (n + 1) g = sumN n g + g n := by
  unfold sumN
  rw [List.range_succ, List.map_append, sumL_append, List.map_cons, List.map_nil, sumL_one]
theorem sumN_congr (n : Nat) (f g : Nat → Int) (h : ∀ i, i < n → f i = g i) : sumN n f = sumN n g := by
  unfold sumN
  rw [tab_congr n f g h]
theorem sumN_add (m n : Nat) (g : Nat → Int) : sumN (m + n) g = sumN m g + sumN n (fun i => g (m + i)) := by
  induction n with
  | zero => rw [sumN_zero]; simp
  | succ n ih => rw [← Nat.add_assoc, sumN_succ, sumN_succ, ih, Int.add_assoc]
theorem sum_grid (w : Int) (f : Int → Int → Int) (n : Nat) (h0 : 0 < w) : sumL (gridL w f (n * w.toNat)) = sumN n (fun y => sumN w.toNat (fun x => f (x : Int) (y : Int))) := by
  have e : ∀ m : Nat, sumL (gridL w f m) = sumN m (cellAt w f) := fun m => rfl
  rw [e]
  induction n with
  | zero => rw [Nat.zero_mul]; rfl
  | succ n ih =>
    rw [Nat.add_mul, Nat.one_mul, sumN_add, ih, sumN_succ]
    congr 1
    refine sumN_congr _ _ _ (fun x hx => ?_)
    show cellAt w f (n * w.toNat + x) = _
    unfold cellAt
    obtain ⟨c0, c1⟩ := cell_of (x : Int) (n : Int) h0 (by omega) (by omega)
    have : ((n * w.toNat + x : Nat) : Int) = (n : Int) * w + (x : Int) := by rw [Int.natCast_add, Int.natCast_mul, Int.toNat_of_nonneg (by omega)]
    rw [this, c0, c1]
theorem sumN_bd (n : Nat) (f : Nat → Int) (b : Int) (hb : 0 ≤ b) (h : ∀ i, i < n → 0 ≤ f i ∧ f i ≤ b) : 0 ≤ sumN n f ∧ sumN n f ≤ b * n := by
  induction n with
  | zero => rw [sumN_zero]; simp
  | succ n ih =>
    rw [sumN_succ]
    have h1 := ih (fun i hi => h i (by omega))
    have h2 := h n (by omega)
    push_cast
    rw [Int.mul_add, Int.mul_one]
    omega
/-! Sums round about. -/
theorem Ev_eq {α : Type} {x : Option α} {a : α} (h : x = some a) : Ev (fun _ => x) a := ⟨0, fun _ _ => h⟩
/-! Sums of tiles. -/
theorem div_facts (w a : Int) (hw : 0 ≤ w) (ha : 0 < a) : 0 ≤ w / a ∧ w / a * a ≤ w ∧ w < w / a * a + a ∧ w / a ≤ w := by
  have h1 := Int.mul_ediv_add_emod w a
  have h2 := Int.emod_nonneg w (b := a) (by omega)
  have h3 := Int.emod_lt_of_pos w ha
  rw [Int.mul_comm] at h1
  have h4 := Int.ediv_nonneg hw (by omega : 0 ≤ a)
  have h5 := Int.ediv_le_self a hw
  omega
theorem step_le {i n : Nat} {a w : Int} (ha : 1 ≤ a) (hn : (n : Int) * a ≤ w) (hi : i < n) : 0 ≤ (i : Int) * a ∧ (i : Int) * a + a ≤ w := by
  have h1 : ((i : Int) + 1) * a ≤ (n : Int) * a := Int.mul_le_mul_of_nonneg_right (by omega) (by omega)
  rw [Int.add_mul, Int.one_mul] at h1
  exact ⟨Int.mul_nonneg (by omega) (by omega), by omega⟩
def tsF (w : Int) (l : List Int) (X Y : Int) (y x : Nat) : Int := rd l ((Y + (y : Int)) * w + (X + (x : Int)))
def tsQ (w : Int) (l : List Int) (a b i j : Int) : Int := sumN b.toNat (fun y => sumN a.toNat (tsF w l (i * a) (j * b) y))
theorem tsF_bd {w h : Int} {l : List Int} (hp : picB w h l 255 = true) {X Y a b : Int} (x0 : 0 ≤ X) (x1 : X + a ≤ w) (y0 : 0 ≤ Y) (y1 : Y + b ≤ h) (y x : Nat) (hy : (y : Int) < b) (hx : (x : Int) < a) : 0 ≤ tsF w l X Y y x ∧ tsF w l X Y y x ≤ 255 := rd_pic hp (X + (x : Int)) (Y + (y : Int)) (by omega) (by omega) (by omega) (by omega)
theorem cell_at {C : Int} (f : Int → Int → Int) (j i cn : Nat) (hC : C = (cn : Int)) (hi : i < cn) : cellAt C f (j * cn + i) = f (i : Int) (j : Int) := by
  subst hC
  have := cell_of (w := (cn : Int)) (i : Int) (j : Int) (by omega) (by omega) (by omega)
  show f (((j * cn + i : Nat) : Int) % (cn : Int)) (((j * cn + i : Nat) : Int) / (cn : Int)) = _
  rw [Int.natCast_add, Int.natCast_mul, this.1, this.2]
theorem small_prod {j i rn cn : Nat} (h1 : rn ≤ 64) (h2 : cn ≤ 64) (hj : j < rn) (hi : i ≤ cn) : j * cn + i < 17592186044416 := by
  have := Nat.mul_le_mul (show j ≤ 64 by omega) h2
  omega
theorem implTS_ev {w h : Int} {l : List Int} (hp : picB w h l 255 = true) (a b : Int) (ha : 1 ≤ a) (hb : 1 ≤ b) : Ev (fun k => impl_TileSums.f k w h l a b) (gridL (w / a) (tsQ w l a b) ((h / b).toNat * (w / a).toNat)) := by
  obtain ⟨h0, h1, h2, h3, h4, h5, h6⟩ := pic_spec hp
  obtain ⟨c0, c1, c2, c3⟩ := div_facts w a (by omega) (by omega)
  obtain ⟨r0, r1, r2, r3⟩ := div_facts h b (by omega) (by omega)
  have e2 : (h - 1) * w = w * h - w := by rw [Int.sub_mul, Int.one_mul, Int.mul_comm]
  unfold impl_TileSums.f
  refine Ev.bind (Ev_eq (impl_IsPicture.eq w h l)) (Ev_pos hp (Ev_neg (by omega) ?_))
  rw [decide_eq_false (by omega)]
  refine Ev.step (fun k => by rw [impl_TileSums.j0]) (Ev_neg (by simp) (Ev_neg (by omega) ?_))
  have eC : wrap64 (Int.tdiv w a) = w / a := by rw [Int.tdiv_eq_ediv_of_nonneg (by omega), wid (w / a) (by omega) (by omega)]
  rw [Int.tdiv_eq_ediv_of_nonneg (by omega), wid (h / b) (by omega) (by omega)]
  generalize w / a = C at c0 c1 c2 c3 eC ⊢
  generalize h / b = R at r0 r1 r2 r3 ⊢
  obtain ⟨cn, rfl⟩ : ∃ n : Nat, C = (n : Int) := ⟨C.toNat, by omega⟩
  obtain ⟨rn, rfl⟩ : ∃ n : Nat, R = (n : Int) := ⟨R.toNat, by omega⟩
  rw [Int.toNat_natCast, Int.toNat_natCast]
  have outer : ∀ d j : Nat, j + d = rn → Ev (fun k => impl_TileSums.l0 k a b (gridL (cn : Int) (tsQ w l a b) (j * cn)) (rn : Int) (j : Int) w h l) (gridL (cn : Int) (tsQ w l a b) (rn * cn)) := by
    intro d
    induction d with
    | zero =>
      intro j hj
      obtain rfl : j = rn := by omega
      refine Ev.step (fun k => by rw [impl_TileSums.l0]) ?_
      exact (Ev_neg (by omega) (Ev.now _))
    | succ d ih =>
      intro j hj
      have nx := ih (j + 1) (by omega)
      obtain ⟨j0, j1⟩ := step_le hb r1 (show j < rn by omega)
      refine Ev.step (fun k => by rw [impl_TileSums.l0]) (Ev_pos (by omega) (Ev_neg (by omega) ?_))
      rw [eC]
      have mid : ∀ e i : Nat, i + e = cn → Ev (fun k => impl_TileSums.l1 k a b (gridL (cn : Int) (tsQ w l a b) (j * cn + i)) (j : Int) (rn : Int) (j : Int) (cn : Int) (i : Int) w h l) (gridL (cn : Int) (tsQ w l a b) (rn * cn)) := by
        intro e
        induction e with
        | zero =>
          intro i hi
          obtain rfl : i = cn := by omega
          refine Ev.step (fun k => by rw [impl_TileSums.l1]) (Ev_neg (by omega) ?_)
          rw [wsucc j (by omega), ← Nat.succ_mul]
          exact nx
        | succ e ih2 =>
          intro i hi
          have nx2 := ih2 (i + 1) (by omega)
          obtain ⟨i0, i1⟩ := step_le ha c1 (show i < cn by omega)
          refine Ev.step (fun k => by rw [impl_TileSums.l1]) (Ev_pos (by omega) ?_)
          have hF : ∀ y x : Nat, (y : Int) < b → (x : Int) < a → 0 ≤ tsF w l ((i : Int) * a) ((j : Int) * b) y x ∧ tsF w l ((i : Int) * a) ((j : Int) * b) y x ≤ 255 := fun y x hy hx => tsF_bd hp i0 i1 j0 j1 y x hy hx
          have hR : ∀ y x : Nat, (y : Int) < b → (x : Int) ≤ a → 0 ≤ sumN x (tsF w l ((i : Int) * a) ((j : Int) * b) y) ∧ sumN x (tsF w l ((i : Int) * a) ((j : Int) * b) y) ≤ 255 * x := fun y x hy hx => sumN_bd x _ 255 (by omega) (fun q hq => hF y q hy (by omega))
          have hS : ∀ y : Nat, (y : Int) ≤ b → 0 ≤ sumN y (fun y => sumN a.toNat (tsF w l ((i : Int) * a) ((j : Int) * b) y)) ∧ sumN y (fun y => sumN a.toNat (tsF w l ((i : Int) * a) ((j : Int) * b) y)) ≤ 16320 * y := fun y hy => sumN_bd y _ 16320 (by omega) (fun q hq => by
            have := hR q a.toNat (by omega) (by omega)
            omega)
          have low : ∀ f y : Nat, y + f = b.toNat → Ev (fun k => impl_TileSums.l2 k a b (gridL (cn : Int) (tsQ w l a b) (j * cn + i)) (j : Int) (i : Int) (sumN y (fun y => sumN a.toNat (tsF w l ((i : Int) * a) ((j : Int) * b) y))) (rn : Int) (j : Int) (cn : Int) (i : Int) b (y : Int) w h l) (gridL (cn : Int) (tsQ w l a b) (rn * cn)) := by
            intro f
            induction f with
            | zero =>
              intro y hy
              obtain rfl : y = b.toNat := by omega
              have sp := small_prod (j := j) (i := i) (rn := rn) (cn := cn) (by omega) (by omega) (by omega) (by omega)
              rw [← wsucc i (by omega), show j * cn + (i + 1) = j * cn + i + 1 by omega, gridL_succ, cell_at _ j i cn rfl (by omega)] at nx2
              refine Ev.step (fun k => by rw [impl_TileSums.l2]) ?_
              exact (Ev_neg (by omega) (Ev_pos (by rw [gridL_len]; exact sp) nx2))
            | succ f ih3 =>
              intro y hy
              have nx3 := ih3 (y + 1) (by omega)
              rw [sumN_succ, ← wsucc y (by omega)] at nx3
              have s0 := hS y (by omega)
              refine Ev.step (fun k => by rw [impl_TileSums.l2]) (Ev_pos (by omega) ?_)
              generalize sumN y (fun y => sumN a.toNat (tsF w l ((i : Int) * a) ((j : Int) * b) y)) = S at nx3 s0 ⊢
              have last : ∀ g x : Nat, x + g = a.toNat → Ev (fun k => impl_TileSums.l3 k a b (gridL (cn : Int) (tsQ w l a b) (j * cn + i)) (j : Int) (i : Int) (S + sumN x (tsF w l ((i : Int) * a) ((j : Int) * b) y)) (y : Int) (rn : Int) (j : Int) (cn : Int) (i : Int) b (y : Int) a (x : Int) w h l) (gridL (cn : Int) (tsQ w l a b) (rn * cn)) := by
                intro g
                induction g with
                | zero =>
                  intro x hx
                  obtain rfl : x = a.toNat := by omega
                  refine Ev.step (fun k => by rw [impl_TileSums.l3]) ?_
                  exact (Ev_neg (by omega) nx3)
                | succ g ih4 =>
                  intro x hx
                  have nx4 := ih4 (x + 1) (by omega)
                  have q0 := hR y x (by omega) (by omega)
                  have q1 := hF y x (by omega) (by omega)
                  have d0 : 0 ≤ ((j : Int) * b + (y : Int)) * w := Int.mul_nonneg (by omega) (by omega)
                  have d1 : ((j : Int) * b + (y : Int)) * w ≤ (h - 1) * w := Int.mul_le_mul_of_nonneg_right (by omega) (by omega)
                  have ex : rd l (((j : Int) * b + (y : Int)) * w + (i : Int) * a + (x : Int)) = tsF w l ((i : Int) * a) ((j : Int) * b) y x := by rw [Int.add_assoc]; rfl
                  rw [sumN_succ, ← wsucc x (by omega), ← Int.add_assoc] at nx4
                  refine Ev.step (fun k => by rw [impl_TileSums.l3]) (Ev_pos (by omega) ?_)
                  rw [wid ((j : Int) * b) (by omega) (by omega), wid ((j : Int) * b + (y : Int)) (by omega) (by omega), wid (((j : Int) * b + (y : Int)) * w) (by omega) (by omega), wid ((i : Int) * a) (by omega) (by omega), wid (((j : Int) * b + (y : Int)) * w + (i : Int) * a) (by omega) (by omega), wid (((j : Int) * b + (y : Int)) * w + (i : Int) * a + (x : Int)) (by omega) (by omega), ex, wid (S + sumN x (tsF w l ((i : Int) * a) ((j : Int) * b) y) + tsF w l ((i : Int) * a) ((j : Int) * b) y x) (by omega) (by omega)]
                  exact Ev_pos (by omega) (Ev_pos (by omega) nx4)
              have := last a.toNat 0 (by omega)
              rw [sumN_zero, Int.add_zero] at this
              exact this
          have := low b.toNat 0 (by omega)
          rw [sumN_zero] at this
          exact this
      exact mid cn 0 (by omega)
  have := outer rn 0 (by omega)
  rw [Nat.zero_mul] at this
  exact this
theorem specTS_ev {w h : Int} {l : List Int} (hp : picB w h l 255 = true) (a b : Int) (ha : 1 ≤ a) (hb : 1 ≤ b) (ha2 : a ≤ 9223372036854775807) (hb2 : b ≤ 9223372036854775807) : Ev (fun k => spec_TileSums.f k w h l a b) (gridL (w / a) (tsQ w l a b) ((h / b).toNat * (w / a).toNat)) := by
  obtain ⟨h0, h1, h2, h3, h4, h5, h6⟩ := pic_spec hp
  have sl := pic_small hp
  obtain ⟨c0, c1, c2, c3⟩ := div_facts w a (by omega) (by omega)
  obtain ⟨r0, r1, r2, r3⟩ := div_facts h b (by omega) (by omega)
  unfold spec_TileSums.f
  refine Ev.bind (specIsPicture_ev w h l (by omega)) (Ev_pos hp (Ev_neg (by omega) ?_))
  rw [decide_eq_false (by omega)]
  refine Ev.step (fun k => by rw [spec_TileSums.j0]) (Ev_neg (by simp) ?_)
  generalize w / a = C at c0 c1 c2 c3 ⊢
  generalize h / b = R at r0 r1 r2 r3 ⊢
  obtain ⟨cn, rfl⟩ : ∃ n : Nat, C = (n : Int) := ⟨C.toNat, by omega⟩
  obtain ⟨rn, rfl⟩ : ∃ n : Nat, R = (n : Int) := ⟨R.toNat, by omega⟩
  rw [Int.toNat_natCast, Int.toNat_natCast]
  have outer : ∀ d j : Nat, j + d = rn → Ev (fun k => spec_TileSums.l0 k a b (gridL (cn : Int) (tsQ w l a b) (j * cn)) ((j : Int) * b) w h l) (gridL (cn : Int) (tsQ w l a b) (rn * cn)) := by
    intro d
    induction d with
    | zero =>
      intro j hj
      obtain rfl : j = rn := by omega
      refine Ev.step (fun k => by rw [spec_TileSums.l0]) ?_
      exact (Ev_neg (by rw [wid (h - b) (by omega) (by omega)]; omega) (Ev.now _))
    | succ d ih =>
      intro j hj
      have nx := ih (j + 1) (by omega)
      obtain ⟨j0, j1⟩ := step_le hb r1 (show j < rn by omega)
      refine Ev.step (fun k => by rw [spec_TileSums.l0]) (Ev_pos (by rw [wid (h - b) (by omega) (by omega)]; omega) ?_)
      have mid : ∀ e i : Nat, i + e = cn → Ev (fun k => spec_TileSums.l1 k a b (gridL (cn : Int) (tsQ w l a b) (j * cn + i)) ((j : Int) * b) ((i : Int) * a) w h l) (gridL (cn : Int) (tsQ w l a b) (rn * cn)) := by
        intro e
        induction e with
        | zero =>
          intro i hi
          obtain rfl : i = cn := by omega
          refine Ev.step (fun k => by rw [spec_TileSums.l1]) (Ev_neg (by rw [wid (w - a) (by omega) (by omega)]; omega) ?_)
          rw [Int.natCast_add, Int.add_mul, show ((1 : Nat) : Int) = 1 from rfl, Int.one_mul, ← wid ((j : Int) * b + b) (by omega) (by omega), Nat.succ_mul] at nx
          exact nx
        | succ e ih2 =>
          intro i hi
          have nx2 := ih2 (i + 1) (by omega)
          obtain ⟨i0, i1⟩ := step_le ha c1 (show i < cn by omega)
          have sp := small_prod (j := j) (i := i) (rn := rn) (cn := cn) (by omega) (by omega) (by omega) (by omega)
          have ab : a * b ≤ w * h := Int.le_trans (Int.mul_le_mul_of_nonneg_right (show a ≤ w by omega) (by omega)) (Int.mul_le_mul_of_nonneg_left (show b ≤ h by omega) (by omega))
          have hs : sizedB a b = true := decide_eq_true ⟨ha, by omega, hb, by omega, by omega⟩
          have hc := specCrop_ev w h l ((i : Int) * a) ((j : Int) * b) a b (by omega)
          rw [if_pos ⟨hp, hs, i0, j0, by omega, by omega⟩] at hc
          have hq : picB a b (gridL a (fun x y => rd l (((j : Int) * b + y) * w + (i : Int) * a + x)) (b.toNat * a.toNat)) 255 = true := pic_mk hs (gridL_len _ _ _) (grid_mem (by omega) (by omega) (fun x y x0 x1 y0 y1 => by
            rw [Int.add_assoc]
            exact rd_pic hp _ _ (by omega) (by omega) (by omega) (by omega)))
          have hsum := specSum_ev a b (gridL a (fun x y => rd l (((j : Int) * b + y) * w + (i : Int) * a + x)) (b.toNat * a.toNat)) (by have := pic_small hq; omega)
          rw [if_pos hq, sum_grid a _ b.toNat (by omega)] at hsum
          have eS : sumN b.toNat (fun y => sumN a.toNat (fun x => rd l (((j : Int) * b + (y : Int)) * w + (i : Int) * a + (x : Int)))) = tsQ w l a b (i : Int) (j : Int) := sumN_congr _ _ _ (fun y _ => sumN_congr _ _ _ (fun x _ => by
            rw [Int.add_assoc]
            rfl))
          rw [eS] at hsum
          rw [Int.natCast_add, Int.add_mul, show ((1 : Nat) : Int) = 1 from rfl, Int.one_mul, ← wid ((i : Int) * a + a) (by omega) (by omega), show j * cn + (i + 1) = j * cn + i + 1 by omega, gridL_succ, cell_at _ j i cn rfl (by omega)] at nx2
          refine Ev.step (fun k => by rw [spec_TileSums.l1]) ?_
          exact (Ev_pos (by rw [wid (w - a) (by omega) (by omega)]; omega) (Ev.bind hc (Ev.bind hsum (Ev_pos (by rw [gridL_len]; exact sp) nx2))))
      have := mid cn 0 (by omega)
      rw [show ((0 : Nat) : Int) * a = 0 by omega] at this
      exact this
  have := outer rn 0 (by omega)
  rw [Nat.zero_mul, show ((0 : Nat) : Int) * b = 0 by omega] at this
  exact this
theorem wf64 {a : Int} (h : (Lit.int .i64 a).wf = true) : -9223372036854775808 ≤ a ∧ a ≤ 9223372036854775807 := by
  simp [Lit.wf] at h
  have e1 : IntKind.i64.min = -9223372036854775808 := rfl
  have e2 : IntKind.i64.max = 9223372036854775807 := rfl
  omega
theorem TileSums_same (w h : Int) (l : List Int) (a b : Int) (hl : l.length ≤ 1048576) (ha_ : (Lit.int .i64 a).wf = true) (hb_ : (Lit.int .i64 b).wf = true) : ∃ L : List Int, L.length ≤ 1048576 ∧ Ev (fun k => spec_TileSums.f k w h l a b) L ∧ Ev (fun k => impl_TileSums.f k w h l a b) L := by
  have wa := wf64 ha_
  have wb := wf64 hb_
  by_cases hp : picB w h l 255 = true
  · by_cases hab : 1 ≤ a ∧ 1 ≤ b
    · obtain ⟨h0, h1, h2, h3, h4, h5, h6⟩ := pic_spec hp
      obtain ⟨c0, c1, c2, c3⟩ := div_facts w a (by omega) (by omega)
      obtain ⟨r0, r1, r2, r3⟩ := div_facts h b (by omega) (by omega)
      refine ⟨_, ?_, specTS_ev hp a b hab.1 hab.2 wa.2 wb.2, implTS_ev hp a b hab.1 hab.2⟩
      rw [gridL_len]
      have := Nat.mul_le_mul (show (h / b).toNat ≤ 64 by omega) (show (w / a).toNat ≤ 64 by omega)
      omega
    · have bs : Ev (fun k => spec_TileSums.j0 k a b true w h l) [] := Ev.step (fun k => by rw [spec_TileSums.j0]) (Ev_pos rfl (Ev.now _))
      have bi : Ev (fun k => impl_TileSums.j0 k a b true w h l) [] := Ev.step (fun k => by rw [impl_TileSums.j0]) (Ev_pos rfl (Ev.now _))
      refine ⟨[], Nat.zero_le _, ?_, ?_⟩
      · unfold spec_TileSums.f
        refine Ev.bind (specIsPicture_ev w h l hl) (Ev_pos hp ?_)
        by_cases c : a < 1
        · exact Ev_pos c bs
        · refine Ev_neg c ?_
          rw [decide_eq_true (by omega)]
          exact bs
      · unfold impl_TileSums.f
        refine Ev.bind (Ev_eq (impl_IsPicture.eq w h l)) (Ev_pos hp ?_)
        by_cases c : a < 1
        · exact Ev_pos c bi
        · refine Ev_neg c ?_
          rw [decide_eq_true (by omega)]
          exact bi
  · have bs : Ev (fun k => spec_TileSums.j0 k a b true w h l) [] := Ev.step (fun k => by rw [spec_TileSums.j0]) (Ev_pos rfl (Ev.now _))
    have bi : Ev (fun k => impl_TileSums.j0 k a b true w h l) [] := Ev.step (fun k => by rw [impl_TileSums.j0]) (Ev_pos rfl (Ev.now _))
    refine ⟨[], Nat.zero_le _, ?_, ?_⟩
    · unfold spec_TileSums.f
      exact Ev.bind (specIsPicture_ev w h l hl) (Ev_neg hp bs)
    · unfold impl_TileSums.f
      exact Ev.bind (Ev_eq (impl_IsPicture.eq w h l)) (Ev_neg hp bi)
/-- The law FnExactTileSums: the program's TileSums answers what the reference's answers. -/
theorem FnExactTileSums (a0_0 a0_1 : Int) (l0_2 : List Int) (a1 : Int) (a2 : Int) (h0_ : (Lit.int .i64 a0_0).wf = true) (h1_ : (Lit.int .i64 a0_1).wf = true) (h2_ : l0_2.length ≤ maxLen) (h3_ : (∀ x ∈ l0_2, (Lit.int .i64 x).wf = true)) (h4_ : (Lit.int .i64 a1).wf = true) (h5_ : (Lit.int .i64 a2).wf = true) :
    ∃ k, P.laws_FnExactTileSums.f k a0_0 a0_1 l0_2 a1 a2 = some true := by
  refine Ev.rounds ?_
  unfold laws_FnExactTileSums.f
  by_cases hl0 : (l0_2.length : Int) ≤ 1048576
  · rw [szPic_ok a0_0 a0_1 l0_2 (1048576) (by omega) (by omega) hl0]
    simp only [Option.bind_some]
    refine Ev_neg (by omega) ?_
    obtain ⟨L, HL, HS, HI⟩ := TileSums_same a0_0 a0_1 l0_2 a1 a2 (by omega) h4_ h5_
    repeat (first
      | exact Ev.now _
      | (refine Ev.bind HS ?_; try dsimp only)
      | (refine Ev.bind HI ?_; try dsimp only)
      | (refine Ev.bind (toPic_ev _ _ _ (by first | assumption | omega | (rw [List.length_map]; omega))) ?_; try dsimp only)
      | (refine Ev.bind (eqPic_self _ _ _ (by first | assumption | omega | (rw [List.length_map]; omega))) ?_; try dsimp only)
      | (refine Ev.bind (markPic_ev _ _ _ _ (by first | assumption | omega | (rw [List.length_map]; omega)) (by omega) (by omega)) ?_; try dsimp only)
      | (refine Ev.bind (eqIntS_self _ (by first | assumption | omega | (rw [List.length_map]; omega))) ?_; try dsimp only)
      | (refine Ev.bind (markIntS_ev _ _ (by first | assumption | omega | (rw [List.length_map]; omega)) (by omega) (by omega)) ?_; try dsimp only)
      | (refine Ev.bind (heldIntS_ev _ _ (by first | assumption | omega | (rw [List.length_map]; omega)) (by omega) (by omega)) ?_; try dsimp only)
      | (refine Ev_pos (by first | rfl | omega) ?_)
      | (refine Ev_neg (by first | omega | simp) ?_)
      | (refine Ev.step (fun k => by rw [laws_FnExactTileSums.j0]) ?_))
  · rw [szPic_big a0_0 a0_1 l0_2 (1048576) (by omega) (by omega) h2_ hl0]
    simp only [Option.bind_some]
    exact Ev.now _
end Go.Proofs.Ytdlehfnlibddcaa.Q
