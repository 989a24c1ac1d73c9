/- The law FnExactBlurPicture: the program's BlurPicture answers what the reference's answers. -/
import Derived.Test.YtdlehfnlibddcaaFimplBlurPicture
import Derived.Test.YtdlehfnlibddcaaFimplIsPlate
import Derived.Test.YtdlehfnlibddcaaFlawsFnExactBlurPicture
import Derived.Test.YtdlehfnlibddcaaFlawseqIntS
import Derived.Test.YtdlehfnlibddcaaFlawseqPicture
import Derived.Test.YtdlehfnlibddcaaFlawsheldIntS
import Derived.Test.YtdlehfnlibddcaaFlawsheldPicture
import Derived.Test.YtdlehfnlibddcaaFlawsmarkIntS
import Derived.Test.YtdlehfnlibddcaaFlawsmarkPicture
import Derived.Test.YtdlehfnlibddcaaFlawsszIntS
import Derived.Test.YtdlehfnlibddcaaFlawsszPicture
import Derived.Test.YtdlehfnlibddcaaFlawstoIntS
import Derived.Test.YtdlehfnlibddcaaFlawstoPicture
import Derived.Test.YtdlehfnlibddcaaFpre
import Derived.Test.YtdlehfnlibddcaaFspecBlurPicture
import Derived.Test.YtdlehfnlibddcaaFspecIsPlate
import Derived.Test.YtdlehfnlibddcaaFspecl1Empty
import Derived.Test.YtdlehfnlibddcaaFspecl1In
import Derived.Test.YtdlehfnlibddcaaFspecl1Size
import Derived.Test.YtdlehfnlibddcaaFspecl1Up
import Derived.Test.YtdlehfnlibddcaaP0
namespace Go.Proofs.Ytdlehfnlibddcaa.Q
open Go.RowKit Go.Proofs.Ytdlehfnlibddcaa.P Go.Proofs.YtdlehfnlibddcaaW.PrintWords
set_option linter.unusedVariables false
set_option linter.unusedSimpArgs false
theorem wsucc (i : Nat) (h : i < 9223372036854775807) : wrap64 ((i : Int) + 1) = ((i + 1 : Nat) : Int) := by unfold wrap64; omega
theorem wid (x : Int) (h0 : -9223372036854775808 ≤ x) (h1 : x ≤ 9223372036854775807) : wrap64 x = x := by unfold wrap64; omega
theorem rd_nat (l : List Int) (i : Nat) : rd l (i : Int) = l.getD i 0 := by unfold rd; rw [Int.toNat_natCast]
theorem getD_of_lt {α : Type} (l : List α) (d : α) (i : Nat) (h : i < l.length) : l.getD i d = l[i] := by simp [List.getD_eq_getElem?_getD, List.getElem?_eq_getElem h]
theorem getD_mem (l : List Int) (i : Nat) (h : i < l.length) : l.getD i 0 ∈ l := by rw [getD_of_lt l 0 i h]; exact List.getElem_mem h
theorem ext_getD {a b : List Int} (hl : a.length = b.length) (h : ∀ i, i < a.length → a.getD i 0 = b.getD i 0) : a = b := by
  apply List.ext_getElem hl
  intro i h1 h2
  have := h i h1
  rwa [getD_of_lt a 0 i h1, getD_of_lt b 0 i h2] at this
theorem getD_set (l : List Int) (i j : Nat) (x : Int) (hi : i < l.length) : (l.set i x).getD j 0 = if j = i then x else l.getD j 0 := by
  simp only [List.getD_eq_getElem?_getD, List.getElem?_set]
  by_cases h : i = j
  · subst h; simp [hi]
  · rw [if_neg h, if_neg (fun e => h e.symm)]
theorem getD_tab (n : Nat) (f : Nat → Int) (j : Nat) (h : j < n) : ((List.range n).map f).getD j 0 = f j := by
  simp [List.getD_eq_getElem?_getD, List.getElem?_map, List.getElem?_range h]
theorem len_tab (n : Nat) (f : Nat → Int) : ((List.range n).map f).length = n := by simp
theorem tab_congr (n : Nat) (f g : Nat → Int) (h : ∀ i, i < n → f i = g i) : (List.range n).map f = (List.range n).map g :=
  List.map_congr_left (fun i hi => h i (List.mem_range.1 hi))
theorem tab_self (l : List Int) : (List.range l.length).map (fun i => l.getD i 0) = l := by
  apply ext_getD (by simp)
  intro i hi
  rw [len_tab] at hi
  rw [getD_tab _ _ _ hi]
/-- A table that is filled place by place: after i rounds those whose round has been are told, the others are 0. -/
def fill (n : Nat) (s : Nat → Nat) (f : Nat → Int) (i : Nat) : List Int := (List.range n).map fun m => if s m < i then f m else 0
theorem fill_len (n : Nat) (s : Nat → Nat) (f : Nat → Int) (i : Nat) : (fill n s f i).length = n := len_tab _ _
theorem fill_zero (n : Nat) (s : Nat → Nat) (f : Nat → Int) : fill n s f 0 = List.replicate n 0 := by
  unfold fill
  simp [List.map_const']
theorem fill_all (n : Nat) (s : Nat → Nat) (f : Nat → Int) (h : ∀ m, m < n → s m < n) : fill n s f n = (List.range n).map f := tab_congr _ _ _ (fun i hi => if_pos (h i hi))
theorem fill_set (n : Nat) (s : Nat → Nat) (f : Nat → Int) (i p : Nat) (hp : p < n) (hs : ∀ m, m < n → (s m = i ↔ m = p)) : (fill n s f i).set p (f p) = fill n s f (i + 1) := by
  apply ext_getD (by rw [List.length_set, fill_len, fill_len])
  intro j hj
  rw [List.length_set, fill_len] at hj
  rw [getD_set _ _ _ _ (by rw [fill_len]; exact hp)]
  unfold fill
  rw [getD_tab _ _ _ hj, getD_tab _ _ _ hj]
  have := hs j hj
  by_cases e : j = p
  · subst e
    rw [if_pos rfl, if_pos (by have := this.2 rfl; omega)]
  · rw [if_neg e]
    have hne : s j ≠ i := fun h => e (this.1 h)
    by_cases h : s j < i
    · rw [if_pos h, if_pos (by omega)]
    · rw [if_neg h, if_neg (by omega)]
theorem fill_set_id (n : Nat) (f : Nat → Int) (i : Nat) (hi : i < n) : (fill n id f i).set i (f i) = fill n id f (i + 1) := fill_set n id f i i hi (fun m _ => Iff.rfl)
theorem fill_all_id (n : Nat) (f : Nat → Int) : fill n id f n = (List.range n).map f := fill_all n id f (fun _ h => h)
theorem foldl_add (l : List Int) (a : Int) : l.foldl (· + ·) a = a + l.foldl (· + ·) 0 := by
  induction l generalizing a with
  | nil => simp
  | cons x r ih => simp only [List.foldl_cons]; rw [ih (a + x), ih (0 + x)]; omega
def sumL (l : List Int) : Int := l.foldl (· + ·) 0
theorem sumL_append (a b : List Int) : sumL (a ++ b) = sumL a + sumL b := by unfold sumL; rw [List.foldl_append, foldl_add]
theorem sumL_one (x : Int) : sumL [x] = x := by simp [sumL]
/-! The laws' own helpers. -/
def szI (n : Nat) (left : Int) : Int := if left - (n : Int) < 0 then -1 else left - (n : Int)
theorem szIntS_eq (l : List Int) (left : Int) (h0 : 0 ≤ left) (h1 : left ≤ 1048576) (hl : l.length ≤ maxLen) : laws_szIntS.f l left = some (szI l.length left) := by
  unfold maxLen at hl
  unfold laws_szIntS.f szI
  rw [wid (left - (l.length : Int)) (by omega) (by omega)]
  split <;> rfl
theorem toIntS_ev (l : List Int) (hl : l.length ≤ 1048576) : Ev (fun k => laws_toIntS.f k l) l := by
  have key : ∀ d i : Nat, i + d = l.length → Ev (fun k => laws_toIntS.l0 k l (fill l.length id (fun j => l.getD j 0) i) (i : Int)) l := by
    intro d
    induction d with
    | zero =>
      intro i hi
      obtain rfl : i = l.length := by omega
      refine Ev.step (f := fun _ => some l) (fun k => ?_) (Ev.now _)
      simp only [laws_toIntS.l0]
      rw [if_neg (by omega), fill_all_id, tab_self]
    | succ d ih =>
      intro i hi
      refine Ev.step (fun k => ?_) (ih (i + 1) (by omega))
      simp only [laws_toIntS.l0]
      rw [if_pos (by omega), if_pos (by omega), fill_len, if_pos (by omega), wsucc i (by omega), rd_nat, Int.toNat_natCast, fill_set_id _ _ _ (by omega)]
  refine Ev.congr (fun k => ?_) (key l.length 0 (by omega))
  unfold laws_toIntS.f
  rw [if_pos (by omega), if_pos (by omega), Int.toNat_natCast, fill_zero]
  rfl
theorem eqIntS_ev (a b : List Int) (ha : a.length ≤ 1048576) : Ev (fun k => laws_eqIntS.f k a b) (decide (a = b)) := by
  by_cases hl : a.length = b.length
  · have key : ∀ d i : Nat, i + d = a.length → (∀ j, j < i → a.getD j 0 = b.getD j 0) → Ev (fun k => laws_eqIntS.l0 k a b (i : Int)) (decide (a = b)) := by
      intro d
      induction d with
      | zero =>
        intro i hi hj
        have : a = b := ext_getD hl (fun j h => hj j (by omega))
        rw [decide_eq_true this]
        refine Ev.step (f := fun _ => some true) (fun k => ?_) (Ev.now _)
        simp only [laws_eqIntS.l0]
        rw [if_neg (by omega)]
      | succ d ih =>
        intro i hi hj
        by_cases e : a.getD i 0 = b.getD i 0
        · refine Ev.step (fun k => ?_) (ih (i + 1) (by omega) (fun j h => if hji : j = i then hji ▸ e else hj j (by omega)))
          simp only [laws_eqIntS.l0]
          rw [if_pos (by omega), if_pos (by omega), if_pos (by omega), rd_nat, rd_nat, if_pos e, wsucc i (by omega)]
        · rw [decide_eq_false (fun h => e (by rw [h]))]
          refine Ev.step (f := fun _ => some false) (fun k => ?_) (Ev.now _)
          simp only [laws_eqIntS.l0]
          rw [if_pos (by omega), if_pos (by omega), if_pos (by omega), rd_nat, rd_nat, if_neg e]
    refine Ev.congr (fun k => ?_) (key a.length 0 (by omega) (fun j h => absurd h (by omega)))
    unfold laws_eqIntS.f
    rw [if_pos (by omega)]
    rfl
  · rw [decide_eq_false (fun h => hl (by rw [h]))]
    refine Ev.congr (fun k => ?_) (Ev.now _)
    unfold laws_eqIntS.f
    rw [if_neg (by omega)]
/-- The list that marking leaves. -/
def marks (n : Nat) (x : Int) : List Int := (List.range n).map fun (j : Nat) => x + (j : Int)
theorem marks_len (n : Nat) (x : Int) : (marks n x).length = n := len_tab _ _
def marking (l : List Int) (x : Int) (i : Nat) : List Int := (List.range l.length).map fun m => if m < i then x + (m : Int) else l.getD m 0
theorem marking_zero (l : List Int) (x : Int) : marking l x 0 = l := by
  unfold marking
  simp only [Nat.not_lt_zero, if_false]
  exact tab_self l
theorem marking_all (l : List Int) (x : Int) : marking l x l.length = marks l.length x := tab_congr _ _ _ (fun i hi => if_pos hi)
theorem marking_len (l : List Int) (x : Int) (i : Nat) : (marking l x i).length = l.length := len_tab _ _
theorem marking_set (l : List Int) (x : Int) (i : Nat) (hi : i < l.length) : (marking l x i).set i (x + (i : Int)) = marking l x (i + 1) := by
  apply ext_getD (by rw [List.length_set, marking_len, marking_len])
  intro j hj
  rw [List.length_set, marking_len] at hj
  rw [getD_set _ _ _ _ (by rw [marking_len]; exact hi)]
  unfold marking
  rw [getD_tab _ _ _ hj, getD_tab _ _ _ hj]
  by_cases e : j = i
  · subst e
    rw [if_pos rfl, if_pos (by omega)]
  · rw [if_neg e]
    by_cases h : j < i
    · rw [if_pos h, if_pos (by omega)]
    · rw [if_neg h, if_neg (by omega)]
theorem markIntS_ev (l : List Int) (x : Int) (hl : l.length ≤ 1048576) (h0 : 0 ≤ x) (h1 : x ≤ 1073741824) : Ev (fun k => laws_markIntS.f k l x) (x + (l.length : Int), marks l.length x) := by
  have key : ∀ d i : Nat, i + d = l.length → Ev (fun k => laws_markIntS.l0 k (marking l x i) (x + (i : Int)) (i : Int)) (x + (l.length : Int), marks l.length x) := by
    intro d
    induction d with
    | zero =>
      intro i hi
      obtain rfl : i = l.length := by omega
      refine Ev.step (f := fun _ => some (x + (l.length : Int), marks l.length x)) (fun k => ?_) (Ev.now _)
      simp only [laws_markIntS.l0]
      rw [marking_len, if_neg (by omega), marking_all]
    | succ d ih =>
      intro i hi
      refine Ev.step (fun k => ?_) (ih (i + 1) (by omega))
      simp only [laws_markIntS.l0]
      rw [marking_len, if_pos (by omega), if_pos (by omega), wsucc i (by omega), Int.toNat_natCast, marking_set _ _ _ (by omega), wid (x + (i : Int) + 1) (by omega) (by omega)]
      rw [show x + (i : Int) + 1 = x + ((i + 1 : Nat) : Int) by omega]
  refine Ev.congr (fun k => ?_) (key l.length 0 (by omega))
  unfold laws_markIntS.f
  rw [marking_zero]
  simp
theorem heldIntS_ev (n : Nat) (x : Int) (hl : n ≤ 1048576) (h0 : 0 ≤ x) (h1 : x ≤ 1073741824) : Ev (fun k => laws_heldIntS.f k (marks n x) x) (x + (n : Int)) := by
  have key : ∀ d i : Nat, i + d = n → Ev (fun k => laws_heldIntS.l0 k (marks n x) (x + (i : Int)) (i : Int)) (x + (n : Int)) := by
    intro d
    induction d with
    | zero =>
      intro i hi
      obtain rfl : i = n := by omega
      refine Ev.step (f := fun _ => some (x + (i : Int))) (fun k => ?_) (Ev.now _)
      simp only [laws_heldIntS.l0]
      rw [marks_len, if_neg (by omega)]
    | succ d ih =>
      intro i hi
      refine Ev.step (fun k => ?_) (ih (i + 1) (by omega))
      simp only [laws_heldIntS.l0]
      have hr : rd (marks n x) (i : Int) = x + (i : Int) := by rw [rd_nat]; unfold marks; rw [getD_tab _ _ _ (by omega)]
      rw [marks_len, if_pos (by omega), if_pos (by omega), hr, if_pos rfl, wsucc i (by omega), wid (x + (i : Int) + 1) (by omega) (by omega)]
      rw [show x + (i : Int) + 1 = x + ((i + 1 : Nat) : Int) by omega]
  refine Ev.congr (fun k => ?_) (key n 0 (by omega))
  unfold laws_heldIntS.f
  simp
theorem Ev_pos {α : Type} {c : Prop} [Decidable c] {f g : Nat → Option α} {r : α} (hc : c) (h : Ev f r) : Ev (fun k => if c then f k else g k) r := Ev.congr (fun k => if_pos hc) h
theorem Ev_neg {α : Type} {c : Prop} [Decidable c] {f g : Nat → Option α} {r : α} (hc : ¬ c) (h : Ev g r) : Ev (fun k => if c then f k else g k) r := Ev.congr (fun k => if_neg hc) h
/-! The reference's pictures. -/
theorem l1In_eq (x a b : Int) : spec_l1In.f x a b = some (decide (a ≤ x ∧ x ≤ b)) := by
  unfold spec_l1In.f
  by_cases h : x ≥ a
  · rw [if_pos h]
    congr 1
    rw [decide_eq_decide]
    omega
  · rw [if_neg h, decide_eq_false (by omega)]
theorem l1Size_eq (a0 a1 : Int) : spec_l1Size.f a0 a1 = some (sizedB a0 a1) := by
  unfold spec_l1Size.f sizedB
  rw [l1In_eq, Option.bind_some]
  by_cases h0 : 1 ≤ a0 ∧ a0 ≤ 64
  · rw [decide_eq_true h0, if_pos rfl, l1In_eq, Option.bind_some]
    by_cases h1 : 1 ≤ a1 ∧ a1 ≤ 64
    · rw [decide_eq_true h1, if_pos rfl]
      have e0 : 0 ≤ a0 * a1 := Int.mul_nonneg (by omega) (by omega)
      have e1 : a0 * a1 ≤ 64 * 64 := Int.le_trans (Int.mul_le_mul_of_nonneg_right h0.2 (by omega)) (Int.mul_le_mul_of_nonneg_left h1.2 (by omega))
      rw [wid (a0 * a1) (by omega) (by omega)]
      congr 1
      rw [decide_eq_decide]
      exact ⟨fun h => ⟨h0.1, h0.2, h1.1, h1.2, h⟩, fun h => h.2.2.2.2⟩
    · rw [decide_eq_false h1, if_neg (by simp), decide_eq_false (fun h => h1 ⟨h.2.2.1, h.2.2.2.1⟩)]
  · rw [decide_eq_false h0, if_neg (by simp), decide_eq_false (fun h => h0 ⟨h.1, h.2.1⟩)]
theorem l1Up_ev (w h : Int) (l : List Int) (m : Int) (hl : l.length ≤ 1048576) : Ev (fun k => spec_l1Up.f k w h l m) (picB w h l m) := by
  have key : ∀ d i : Nat, i + d = l.length → Ev (fun k => spec_l1Up.l0 k m l (l.length : Int) (i : Int)) ((l.drop i).all fun n => decide (0 ≤ n ∧ n ≤ m)) := by
    intro d
    induction d with
    | zero =>
      intro i hi
      rw [List.drop_eq_nil_of_le (by omega)]
      refine Ev.step (f := fun _ => some true) (fun k => ?_) (Ev.now _)
      simp only [spec_l1Up.l0]
      rw [if_neg (by omega)]
    | succ d ih =>
      intro i hi
      rw [List.drop_eq_getElem_cons (by omega), List.all_cons]
      have hr : rd l (i : Int) = l[i] := by rw [rd_nat, getD_of_lt]
      by_cases e : 0 ≤ l[i] ∧ l[i] ≤ m
      · rw [decide_eq_true e, Bool.true_and]
        refine Ev.step (fun k => ?_) (ih (i + 1) (by omega))
        simp only [spec_l1Up.l0]
        rw [if_pos (by omega), if_pos (by omega), if_pos (by omega), l1In_eq, Option.bind_some, hr, decide_eq_true e, if_pos rfl, wsucc i (by omega)]
      · rw [decide_eq_false e, Bool.false_and]
        refine Ev.step (f := fun _ => some false) (fun k => ?_) (Ev.now _)
        simp only [spec_l1Up.l0]
        rw [if_pos (by omega), if_pos (by omega), if_pos (by omega), l1In_eq, Option.bind_some, hr, decide_eq_false e, if_neg (by simp)]
  unfold spec_l1Up.f picB
  rw [l1Size_eq]
  simp only [Option.bind_some]
  cases hs : sizedB w h with
  | false =>
    simp only [Bool.false_and]
    refine Ev.step (f := fun _ => some false) (fun k => ?_) (Ev.now _)
    rw [if_neg (by simp)]
    simp only [spec_l1Up.j0]
    rw [if_pos trivial]
  | true =>
    obtain ⟨h0, h1, h2, h3, h4⟩ := sized_spec hs
    have e0 : 0 ≤ w * h := Int.mul_nonneg (by omega) (by omega)
    rw [wid (w * h) (by omega) (by omega)]
    simp only [Bool.true_and, if_true]
    by_cases e : (l.length : Int) = w * h
    · rw [decide_eq_true e, Bool.true_and]
      refine Ev.step (fun k => ?_) (key l.length 0 (by omega))
      simp only [spec_l1Up.j0]
      rw [if_neg (by simp [e])]
      rfl
    · rw [decide_eq_false e, Bool.false_and]
      refine Ev.step (f := fun _ => some false) (fun k => ?_) (Ev.now _)
      simp only [spec_l1Up.j0]
      rw [if_pos (by simp [e])]
theorem within_le (l : List Int) (a b : Int) (h : a ≤ b) (hw : withinB l a = true) : withinB l b = true := by
  unfold withinB at hw ⊢
  rw [List.all_eq_true] at hw ⊢
  intro x hx
  have := of_decide_eq_true (hw x hx)
  exact decide_eq_true (by omega)
theorem plateB_eq (w h : Int) (l : List Int) : plateB w h l = picB w h l 1 := by
  unfold plateB picB
  cases sizedB w h <;> simp only [Bool.false_and, Bool.true_and]
  cases decide ((l.length : Int) = w * h) <;> simp only [Bool.false_and, Bool.true_and]
  cases hb : withinB l 1 with
  | false => rw [Bool.and_false]
  | true => rw [within_le l 1 255 (by omega) hb, Bool.and_true]
theorem specIsPlate_ev (w h : Int) (l : List Int) (hl : l.length ≤ 1048576) : Ev (fun k => spec_IsPlate.f k w h l) (plateB w h l) := by
  rw [plateB_eq]
  unfold spec_IsPlate.f
  exact Ev.bind (l1Up_ev w h l 1 hl) (Ev.now _)
theorem l1Empty_eq (w h : Int) (hs : sizedB w h = true) : spec_l1Empty.f w h = some (w, h, List.replicate (h.toNat * w.toNat) 0) := by
  obtain ⟨h0, h1, h2, h3, h4⟩ := sized_spec hs
  have e0 : 0 ≤ w * h := Int.mul_nonneg (by omega) (by omega)
  unfold spec_l1Empty.f
  rw [wid (w * h) (by omega) (by omega), if_pos e0, if_pos (by omega)]
  have : (w * h).toNat = h.toNat * w.toNat := by rw [Int.toNat_mul (by omega) (by omega), Nat.mul_comm]
  rw [this]
theorem gridL_tab (w : Int) (f : Int → Int → Int) (n : Nat) : gridL w f n = (List.range n).map fun i => cellAt w f i := rfl
theorem area_eq {w h : Int} (h0 : 0 ≤ w) (h1 : 0 ≤ h) : ((h.toNat * w.toNat : Nat) : Int) = w * h := by
  rw [Int.natCast_mul, Int.toNat_of_nonneg h0, Int.toNat_of_nonneg h1, Int.mul_comm]
theorem tdiv_nat (i : Nat) (w : Int) (h : 0 < w) : Int.tdiv (i : Int) w = (i : Int) / w := Int.tdiv_eq_ediv_of_nonneg (by omega)
theorem tmod_nat (i : Nat) (w : Int) : Int.tmod (i : Int) w = (i : Int) % w := Int.tmod_eq_emod_of_nonneg (by omega)
theorem cell_bd {w h : Int} (i : Nat) (h0 : 0 < w) (h1 : 0 < h) (hi : (i : Int) < w * h) : 0 ≤ (i : Int) % w ∧ (i : Int) % w < w ∧ 0 ≤ (i : Int) / w ∧ (i : Int) / w < h ∧ (i : Int) / w * w + (i : Int) % w = i := by
  refine ⟨Int.emod_nonneg _ (by omega), Int.emod_lt_of_pos _ h0, Int.ediv_nonneg (by omega) (by omega), ?_, ?_⟩
  · exact Int.ediv_lt_of_lt_mul h0 (by rw [Int.mul_comm]; exact hi)
  · have := Int.mul_ediv_add_emod (i : Int) w
    rw [Int.mul_comm] at this
    exact this
theorem cell_of {w : Int} (x y : Int) (h0 : 0 < w) (hx0 : 0 ≤ x) (hx : x < w) : (y * w + x) % w = x ∧ (y * w + x) / w = y := by
  constructor
  · rw [Int.add_comm, Int.add_mul_emod_self_right, Int.emod_eq_of_lt hx0 hx]
  · rw [Int.add_comm, Int.add_mul_ediv_right _ _ (by omega), Int.ediv_eq_zero_of_lt hx0 hx, Int.zero_add]
/-! The laws' helpers on pictures. -/
theorem szPic_ok (w h : Int) (l : List Int) (left : Int) (h0 : 0 ≤ left) (h1 : left ≤ 1048576) (hl : (l.length : Int) ≤ left) : laws_szPicture.f w h l left = some (left - (l.length : Int)) := by
  unfold laws_szPicture.f
  rw [szIntS_eq l left h0 h1 (by unfold maxLen; omega)]
  unfold szI
  rw [if_neg (by omega), Option.bind_some, if_neg (by omega)]
theorem szPic_big (w h : Int) (l : List Int) (left : Int) (h0 : 0 ≤ left) (h1 : left ≤ 1048576) (hm : l.length ≤ maxLen) (hl : ¬ (l.length : Int) ≤ left) : laws_szPicture.f w h l left = some (-1) := by
  unfold laws_szPicture.f
  rw [szIntS_eq l left h0 h1 hm]
  unfold szI
  rw [if_pos (by omega), Option.bind_some, if_pos (by omega)]
theorem toPic_ev (w h : Int) (l : List Int) (hl : l.length ≤ 1048576) : Ev (fun k => laws_toPicture.f k w h l) (w, h, l) := by
  unfold laws_toPicture.f
  exact Ev.bind (toIntS_ev l hl) (Ev.now _)
theorem eqPic_ev (w h : Int) (l : List Int) (w2 h2 : Int) (l2 : List Int) (hl : l.length ≤ 1048576) : Ev (fun k => laws_eqPicture.f k w h l w2 h2 l2) (decide (w = w2 ∧ h = h2 ∧ l = l2)) := by
  unfold laws_eqPicture.f
  by_cases e1 : w = w2
  · simp only [if_pos e1]
    by_cases e2 : h = h2
    · simp only [if_pos e2]
      refine Ev.bind (eqIntS_ev l l2 hl) ?_
      by_cases e3 : l = l2
      · rw [decide_eq_true e3, decide_eq_true ⟨e1, e2, e3⟩]
        exact Ev.now _
      · rw [decide_eq_false e3, decide_eq_false (fun h => e3 h.2.2)]
        exact Ev.now _
    · simp only [if_neg e2]
      rw [decide_eq_false (fun h => e2 h.2.1)]
      exact Ev.now _
  · simp only [if_neg e1]
    rw [decide_eq_false (fun h => e1 h.1)]
    exact Ev.now _
theorem eqPic_self (w h : Int) (l : List Int) (hl : l.length ≤ 1048576) : Ev (fun k => laws_eqPicture.f k w h l w h l) true := by
  have := eqPic_ev w h l w h l hl
  rwa [decide_eq_true ⟨rfl, rfl, rfl⟩] at this
theorem markPic_ev (w h : Int) (l : List Int) (x : Int) (hl : l.length ≤ 1048576) (h0 : 0 ≤ x) (h1 : x ≤ 1073741824) : Ev (fun k => laws_markPicture.f k w h l x) (x + (l.length : Int), marks l.length x) := by
  unfold laws_markPicture.f
  exact Ev.bind (markIntS_ev l x hl h0 h1) (Ev.now _)
theorem heldPic_ev (w h : Int) (n : Nat) (x : Int) (hl : n ≤ 1048576) (h0 : 0 ≤ x) (h1 : x ≤ 1073741824) : Ev (fun k => laws_heldPicture.f k w h (marks n x) x) (x + (n : Int)) := by
  unfold laws_heldPicture.f
  refine Ev.bind (heldIntS_ev n x hl h0 h1) ?_
  rw [if_neg (by omega)]
  exact Ev.now _
/-! Pairs of functions that answer alike. -/
theorem pic_rd {w h : Int} {l : List Int} {m : Int} (hp : picB w h l m = true) (x y : Int) (hx0 : 0 ≤ x) (hx : x < w) (hy0 : 0 ≤ y) (hy : y < h) : 0 ≤ y * w + x ∧ y * w + x < (l.length : Int) ∧ wrap64 (wrap64 (y * w) + x) = y * w + x := by
  obtain ⟨h0, h1, h2, h3, h4, h5, h6⟩ := pic_spec hp
  have e0 : 0 ≤ y * w := Int.mul_nonneg hy0 (by omega)
  have e1 : y * w ≤ (h - 1) * w := Int.mul_le_mul_of_nonneg_right (by omega) (by omega)
  have e2 : (h - 1) * w = w * h - w := by rw [Int.sub_mul, Int.one_mul, Int.mul_comm]
  rw [wid (y * w) (by omega) (by omega), wid _ (by omega) (by omega)]
  exact ⟨by omega, by omega, rfl⟩
/-! Pictures made from a picture. -/
theorem pic_len {w h : Int} {l : List Int} {m : Int} (hp : picB w h l m = true) : h.toNat * w.toNat = l.length := by
  obtain ⟨h0, h1, h2, h3, h4, h5, h6⟩ := pic_spec hp
  have := area_eq (w := w) (h := h) (by omega) (by omega)
  omega
theorem picb_same {f g : Nat → Option (Int × Int × List Int × Bool)} {c : Prop} [Decidable c] {w h : Int} {l : List Int} (hs : Ev f (if c then (w, h, l, true) else (0, 0, [], false))) (hg : ∀ k, g k = if c then some (w, h, l, true) else some (0, 0, [], false)) (hl : c → l.length ≤ 1048576) : ∃ (x y : Int) (L : List Int) (b : Bool), L.length ≤ 1048576 ∧ Ev f (x, y, L, b) ∧ Ev g (x, y, L, b) := by
  by_cases hc : c
  · rw [if_pos hc] at hs
    exact ⟨_, _, _, _, hl hc, hs, Ev.congr (fun k => (hg k).trans (if_pos hc)) (Ev.now _)⟩
  · rw [if_neg hc] at hs
    exact ⟨_, _, _, _, by simp, hs, Ev.congr (fun k => (hg k).trans (if_neg hc)) (Ev.now _)⟩
theorem pic_small {w h : Int} {l : List Int} {m : Int} (hp : picB w h l m = true) : l.length ≤ 1024 := by
  obtain ⟨h0, h1, h2, h3, h4, h5, h6⟩ := pic_spec hp
  omega
theorem plate_pic {w h : Int} {l : List Int} (hp : plateB w h l = true) : picB w h l 255 = true := by
  unfold plateB at hp
  rw [Bool.and_eq_true] at hp
  exact hp.1
theorem rd_pic {w h : Int} {l : List Int} {m : Int} (hp : picB w h l m = true) (x y : Int) (hx0 : 0 ≤ x) (hx : x < w) (hy0 : 0 ≤ y) (hy : y < h) : 0 ≤ rd l (y * w + x) ∧ rd l (y * w + x) ≤ m := by
  obtain ⟨h0, h1, h2, h3, h4, h5, h6⟩ := pic_spec hp
  obtain ⟨e0, e1, e2⟩ := pic_rd hp x y hx0 hx hy0 hy
  obtain ⟨k, hk⟩ : ∃ k : Nat, y * w + x = (k : Int) := ⟨(y * w + x).toNat, by omega⟩
  rw [hk, rd_nat]
  exact h6 _ (getD_mem l k (by omega))
/-! Sums over grids. -/
def sumN (n : Nat) (g : Nat → Int) : Int := sumL ((List.range n).map g)
theorem sumN_zero (g : Nat → Int) : sumN 0 g = 0 := rfl
theorem sumN_succ (n : Nat) (g : Nat → Int) : sumN (n + 1) g = sumN n g + g n := by
  unfold sumN
  rw [List.range_succ, List.map_append, sumL_append, List.map_cons, List.map_nil, sumL_one]
theorem sumN_congr (n : Nat) (f g : Nat → Int) (h : ∀ i, i < n → f i = g i) : sumN n f = sumN n g := by
  unfold sumN
  rw [tab_congr n f g h]
theorem sumN_add (m n : Nat) (g : Nat → Int) : sumN (m + n) g = sumN m g + sumN n (fun i => g (m + i)) := by
  induction n with
  | zero => rw [sumN_zero]; simp
  | succ n ih => rw [← Nat.add_assoc, sumN_succ, sumN_succ, ih, Int.add_assoc]
theorem sum_grid (w : Int) (f : Int → Int → Int) (n : Nat) (h0 : 0 < w) : sumL (gridL w f (n * w.toNat)) = sumN n (fun y => sumN w.toNat (fun x => f (x : Int) (y : Int))) := by
  have e : ∀ m : Nat, sumL (gridL w f m) = sumN m (cellAt w f) := fun m => rfl
  rw [e]
  induction n with
  | zero => rw [Nat.zero_mul]; rfl
  | succ n ih =>
    rw [Nat.add_mul, Nat.one_mul, sumN_add, ih, sumN_succ]
    congr 1
    refine sumN_congr _ _ _ (fun x hx => ?_)
    show cellAt w f (n * w.toNat + x) = _
    unfold cellAt
    obtain ⟨c0, c1⟩ := cell_of (x : Int) (n : Int) h0 (by omega) (by omega)
    have : ((n * w.toNat + x : Nat) : Int) = (n : Int) * w + (x : Int) := by rw [Int.natCast_add, Int.natCast_mul, Int.toNat_of_nonneg (by omega)]
    rw [this, c0, c1]
theorem sumN_bd (n : Nat) (f : Nat → Int) (b : Int) (hb : 0 ≤ b) (h : ∀ i, i < n → 0 ≤ f i ∧ f i ≤ b) : 0 ≤ sumN n f ∧ sumN n f ≤ b * n := by
  induction n with
  | zero => rw [sumN_zero]; simp
  | succ n ih =>
    rw [sumN_succ]
    have h1 := ih (fun i hi => h i (by omega))
    have h2 := h n (by omega)
    push_cast
    rw [Int.mul_add, Int.mul_one]
    omega
/-! Sums round about. -/
theorem Ev_eq {α : Type} {x : Option α} {a : α} (h : x = some a) : Ev (fun _ => x) a := ⟨0, fun _ _ => h⟩
/-! The blur. -/
def bluG (w h : Int) (l : List Int) (X Y p q : Int) : Int := rd l ((Y + q) % h * w + (X + p) % w)
theorem blu_row (w h : Int) (l : List Int) (x y j : Int) (n : Nat) : impl_BlurPicture.row w h l x y j n = sumN n (fun i => bluG w h l x y (i : Int) j) := by
  induction n with
  | zero => rfl
  | succ n ih =>
    rw [sumN_succ, ← ih]
    rfl
theorem blu_dots (w h : Int) (l : List Int) (x y : Int) (a n : Nat) : impl_BlurPicture.dots w h l x y a n = sumN n (fun j => sumN a (fun i => bluG w h l x y (i : Int) (j : Int))) := by
  induction n with
  | zero => rfl
  | succ n ih =>
    rw [sumN_succ, ← ih, ← blu_row]
    rfl
theorem blu_cells (w h : Int) (l : List Int) (x y : Int) (a b : Nat) (ha : 0 < a) : sumN (b * a) (cellAt (a : Int) (bluG w h l x y)) = impl_BlurPicture.dots w h l x y a b := by
  rw [blu_dots]
  have := sum_grid (a : Int) (bluG w h l x y) b (by omega)
  rw [Int.toNat_natCast] at this
  exact this
def bluF (w h : Int) (l : List Int) (a b x y : Int) : Int := 255 * impl_BlurPicture.dots w h l x y a.toNat b.toNat / (a * b)
theorem specBlur_ev (w h : Int) (l : List Int) (a b : Int) (hl : l.length ≤ 1048576) : Ev (fun k => spec_BlurPicture.f k w h l a b) (if plateB w h l = true ∧ 1 ≤ a ∧ a ≤ 16 ∧ 1 ≤ b ∧ b ≤ 16 then (w, h, gridL w (bluF w h l a b) (Int.toNat h * Int.toNat w), true) else (0, 0, [], false)) := by
  have bad : Ev (fun k => spec_BlurPicture.j0 k a b true w h l) (0, 0, [], false) := Ev.step (fun k => by rw [spec_BlurPicture.j0]) (Ev_pos rfl (Ev.now _))
  unfold spec_BlurPicture.f
  refine Ev.bind (specIsPlate_ev w h l hl) ?_
  by_cases hp : plateB w h l = true
  · refine Ev_pos hp (Ev.bind (Ev_eq (l1In_eq a 1 16)) ?_)
    by_cases ha : 1 ≤ a ∧ a ≤ 16
    · refine Ev_pos (decide_eq_true ha) (Ev.bind (Ev_eq (l1In_eq b 1 16)) ?_)
      by_cases hb : 1 ≤ b ∧ b ≤ 16
      · rw [if_pos ⟨hp, ha.1, ha.2, hb.1, hb.2⟩, decide_eq_true hb]
        have hpp := plate_pic hp
        have hp1 : picB w h l 1 = true := by rw [← plateB_eq]; exact hp
        have sl := pic_small hpp
        obtain ⟨h0, h1, h2, h3, h4, h5, h6⟩ := pic_spec hp1
        have ab : a * b ≤ 16 * 16 := Int.le_trans (Int.mul_le_mul_of_nonneg_right ha.2 (by omega)) (Int.mul_le_mul_of_nonneg_left hb.2 (by omega))
        have ab0 : 0 < a * b := Int.mul_pos (by omega) (by omega)
        have abn : ((b.toNat * a.toNat : Nat) : Int) = a * b := area_eq (by omega) (by omega)
        have ea : ((a.toNat : Nat) : Int) = a := Int.toNat_of_nonneg (by omega)
        rw [pic_len hpp]
        have outer : ∀ d i : Nat, i + d = l.length → Ev (fun k => spec_BlurPicture.l0 k a b (l.length : Int) (i : Int) w h l w h (fill l.length id (cellAt w (bluF w h l a b)) i)) (w, h, gridL w (bluF w h l a b) l.length, true) := by
          intro d
          induction d with
          | zero =>
            intro i hi
            obtain rfl : i = l.length := by omega
            refine Ev.step (fun k => by rw [spec_BlurPicture.l0]) ?_
            rw [fill_all_id, gridL_tab]
            exact Ev_neg (by omega) (Ev.now _)
          | succ d ih =>
            intro i hi
            have nx := ih (i + 1) (by omega)
            rw [← fill_set_id _ (cellAt w (bluF w h l a b)) i (by omega), ← wsucc i (by omega)] at nx
            obtain ⟨b0, b1, b2, b3, b4⟩ := cell_bd (w := w) (h := h) i (by omega) (by omega) (by omega)
            refine Ev.step (fun k => by rw [spec_BlurPicture.l0]) (Ev_pos (by omega) ?_)
            have hG : ∀ m : Nat, 0 ≤ cellAt a (bluG w h l ((i : Int) % w) ((i : Int) / w)) m ∧ cellAt a (bluG w h l ((i : Int) % w) ((i : Int) / w)) m ≤ 1 := fun m => rd_pic hp1 _ _ (Int.emod_nonneg _ (by omega)) (Int.emod_lt_of_pos _ (by omega)) (Int.emod_nonneg _ (by omega)) (Int.emod_lt_of_pos _ (by omega))
            have hS := fun m : Nat => sumN_bd m (cellAt a (bluG w h l ((i : Int) % w) ((i : Int) / w))) 1 (by omega) (fun q _ => hG q)
            have inner : ∀ e m : Nat, m + e = b.toNat * a.toNat → Ev (fun k => spec_BlurPicture.l1 k a b (i : Int) (sumN m (cellAt a (bluG w h l ((i : Int) % w) ((i : Int) / w)))) (m : Int) (l.length : Int) (i : Int) w h l w h (fill l.length id (cellAt w (bluF w h l a b)) i)) (w, h, gridL w (bluF w h l a b) l.length, true) := by
              intro e
              induction e with
              | zero =>
                intro m hm
                obtain rfl : m = b.toNat * a.toNat := by omega
                have s0 := hS (b.toNat * a.toNat)
                have es : sumN (b.toNat * a.toNat) (cellAt a (bluG w h l ((i : Int) % w) ((i : Int) / w))) = impl_BlurPicture.dots w h l ((i : Int) % w) ((i : Int) / w) a.toNat b.toNat := by
                  have := blu_cells w h l ((i : Int) % w) ((i : Int) / w) a.toNat b.toNat (by omega)
                  rw [ea] at this
                  exact this
                refine Ev.step (fun k => by rw [spec_BlurPicture.l1]) ?_
                rw [wid (a * b) (by omega) (by omega)]
                refine Ev_neg (by omega) (Ev_neg (by omega) (Ev_pos (by omega) (Ev_pos (by rw [fill_len]; omega) ?_)))
                rw [es] at s0 ⊢
                have v0 : 0 ≤ 255 * impl_BlurPicture.dots w h l ((i : Int) % w) ((i : Int) / w) a.toNat b.toNat / (a * b) := Int.ediv_nonneg (by omega) (by omega)
                have v1 : 255 * impl_BlurPicture.dots w h l ((i : Int) % w) ((i : Int) / w) a.toNat b.toNat / (a * b) ≤ 255 * impl_BlurPicture.dots w h l ((i : Int) % w) ((i : Int) / w) a.toNat b.toNat := Int.ediv_le_self _ (by omega)
                have ef : cellAt w (bluF w h l a b) i = 255 * impl_BlurPicture.dots w h l ((i : Int) % w) ((i : Int) / w) a.toNat b.toNat / (a * b) := rfl
                rw [wid (255 * impl_BlurPicture.dots w h l ((i : Int) % w) ((i : Int) / w) a.toNat b.toNat) (by omega) (by omega), Int.tdiv_eq_ediv_of_nonneg (by omega), wid (255 * impl_BlurPicture.dots w h l ((i : Int) % w) ((i : Int) / w) a.toNat b.toNat / (a * b)) (by omega) (by omega), ← ef, Int.toNat_natCast]
                exact nx
              | succ e ih2 =>
                intro m hm
                have nx2 := ih2 (m + 1) (by omega)
                have s0 := hS m
                have g0 := hG m
                rw [sumN_succ, ← wsucc m (by omega)] at nx2
                have m0 := Int.emod_nonneg (m : Int) (b := a) (by omega)
                have m1 := Int.emod_lt_of_pos (m : Int) (b := a) (by omega)
                have m2 := Int.ediv_nonneg (show 0 ≤ (m : Int) by omega) (show 0 ≤ a by omega)
                have m3 := Int.ediv_le_self a (show 0 ≤ (m : Int) by omega)
                have x0 := Int.emod_nonneg ((i : Int) % w + (m : Int) % a) (b := w) (by omega)
                have x1 := Int.emod_lt_of_pos ((i : Int) % w + (m : Int) % a) (b := w) (by omega)
                have y0 := Int.emod_nonneg ((i : Int) / w + (m : Int) / a) (b := h) (by omega)
                have y1 := Int.emod_lt_of_pos ((i : Int) / w + (m : Int) / a) (b := h) (by omega)
                have ix := idx_lt (w := w) (h := h) x0 x1 y0 y1
                have yw : 0 ≤ ((i : Int) / w + (m : Int) / a) % h * w := Int.mul_nonneg y0 (by omega)
                have eg : rd l (((i : Int) / w + (m : Int) / a) % h * w + ((i : Int) % w + (m : Int) % a) % w) = cellAt a (bluG w h l ((i : Int) % w) ((i : Int) / w)) m := rfl
                refine Ev.step (fun k => by rw [spec_BlurPicture.l1]) ?_
                rw [wid (a * b) (by omega) (by omega), tdiv_nat i w (by omega), tdiv_nat m a (by omega), tmod_nat, tmod_nat, wid ((i : Int) / w) (by omega) (by omega), wid ((m : Int) / a) (by omega) (by omega), wid ((i : Int) / w + (m : Int) / a) (by omega) (by omega), wid ((i : Int) % w + (m : Int) % a) (by omega) (by omega), Int.tmod_eq_emod_of_nonneg (show 0 ≤ (i : Int) / w + (m : Int) / a by omega), Int.tmod_eq_emod_of_nonneg (show 0 ≤ (i : Int) % w + (m : Int) % a by omega), wid (((i : Int) / w + (m : Int) / a) % h * w) (by omega) (by omega), wid (((i : Int) / w + (m : Int) / a) % h * w + ((i : Int) % w + (m : Int) % a) % w) (by omega) (by omega), eg, wid (sumN m (cellAt a (bluG w h l ((i : Int) % w) ((i : Int) / w))) + cellAt a (bluG w h l ((i : Int) % w) ((i : Int) / w)) m) (by omega) (by omega)]
                exact Ev_pos (by omega) (Ev_neg (by omega) (Ev_neg (by omega) (Ev_neg (by omega) (Ev_pos (by omega) (Ev_pos (by omega) nx2)))))
            have := inner (b.toNat * a.toNat) 0 (by omega)
            rw [sumN_zero] at this
            exact this
        have := outer l.length 0 (by omega)
        rw [fill_zero] at this
        refine Ev.step (fun k => by rw [spec_BlurPicture.j0]) (Ev_neg (by simp) (Ev.bind (Ev_eq (l1Empty_eq w h (decide_eq_true ⟨h0, h1, h2, h3, h4⟩))) ?_))
        rw [pic_len hpp]
        exact this
      · rw [if_neg (fun q => hb ⟨q.2.2.2.1, q.2.2.2.2⟩), decide_eq_false hb]
        exact bad
    · rw [if_neg (fun q => ha ⟨q.2.1, q.2.2.1⟩)]
      exact Ev_neg (by rw [decide_eq_false ha]; simp) bad
  · rw [if_neg (fun q => hp q.1)]
    exact Ev_neg hp bad
theorem BlurPicture_same (w h : Int) (l : List Int) (a b : Int) (hl : l.length ≤ 1048576) : ∃ (x y : Int) (L : List Int) (c : Bool), L.length ≤ 1048576 ∧ Ev (fun k => spec_BlurPicture.f k w h l a b) (x, y, L, c) ∧ Ev (fun k => impl_BlurPicture.f w h l a b) (x, y, L, c) :=
  picb_same (specBlur_ev w h l a b hl) (fun _ => rfl) (fun hm => by rw [gridL_len, pic_len (plate_pic hm.1)]; exact hl)
/-- The law FnExactBlurPicture: the program's BlurPicture answers what the reference's answers. -/
theorem FnExactBlurPicture (a0_0 a0_1 : Int) (l0_2 : List Int) (a1 : Int) (a2 : Int) (h0_ : (Lit.int .i64 a0_0).wf = true) (h1_ : (Lit.int .i64 a0_1).wf = true) (h2_ : l0_2.length ≤ maxLen) (h3_ : (∀ x ∈ l0_2, (Lit.int .i64 x).wf = true)) (h4_ : (Lit.int .i64 a1).wf = true) (h5_ : (Lit.int .i64 a2).wf = true) :
    ∃ k, P.laws_FnExactBlurPicture.f k a0_0 a0_1 l0_2 a1 a2 = some true := by
  refine Ev.rounds ?_
  unfold laws_FnExactBlurPicture.f
  by_cases hl0 : (l0_2.length : Int) ≤ 1048576
  · rw [szPic_ok a0_0 a0_1 l0_2 (1048576) (by omega) (by omega) hl0]
    simp only [Option.bind_some]
    refine Ev_neg (by omega) ?_
    obtain ⟨x, y, L, c, HL, HS, HI⟩ := BlurPicture_same a0_0 a0_1 l0_2 a1 a2 (by omega)
    repeat (first
      | exact Ev.now _
      | (refine Ev.bind HS ?_; try dsimp only)
      | (refine Ev.bind HI ?_; try dsimp only)
      | (refine Ev.bind (toPic_ev _ _ _ (by first | assumption | omega | (rw [List.length_map]; omega))) ?_; try dsimp only)
      | (refine Ev.bind (eqPic_self _ _ _ (by first | assumption | omega | (rw [List.length_map]; omega))) ?_; try dsimp only)
      | (refine Ev.bind (markPic_ev _ _ _ _ (by first | assumption | omega | (rw [List.length_map]; omega)) (by omega) (by omega)) ?_; try dsimp only)
      | (refine Ev.bind (heldPic_ev _ _ _ _ (by first | assumption | omega | (rw [List.length_map]; omega)) (by omega) (by omega)) ?_; try dsimp only)
      | (refine Ev_pos (by first | rfl | omega) ?_)
      | (refine Ev_neg (by first | omega | simp) ?_)
      | (refine Ev.step (fun k => by rw [laws_FnExactBlurPicture.j0]) ?_)
      | (refine Ev.step (fun k => by rw [laws_FnExactBlurPicture.j1]) ?_)
      | (refine Ev.step (fun k => by rw [laws_FnExactBlurPicture.j2]) ?_))
  · rw [szPic_big a0_0 a0_1 l0_2 (1048576) (by omega) (by omega) h2_ hl0]
    simp only [Option.bind_some]
    exact Ev.now _
end Go.Proofs.Ytdlehfnlibddcaa.Q
