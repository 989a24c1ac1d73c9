/- The law FnExactScreenShifted: the program's ScreenShifted answers what the reference's answers. -/
import Derived.Test.YtdlehfnlibddcaaFimplIsMatrix
import Derived.Test.YtdlehfnlibddcaaFimplScreenPicture
import Derived.Test.YtdlehfnlibddcaaFimplScreenShifted
import Derived.Test.YtdlehfnlibddcaaFimplShiftMatrix
import Derived.Test.YtdlehfnlibddcaaFimplcelled
import Derived.Test.YtdlehfnlibddcaaFimplmod
import Derived.Test.YtdlehfnlibddcaaFimplrank
import Derived.Test.YtdlehfnlibddcaaFlawsFnExactScreenShifted
import Derived.Test.YtdlehfnlibddcaaFlawseqIntS
import Derived.Test.YtdlehfnlibddcaaFlawseqMatrix
import Derived.Test.YtdlehfnlibddcaaFlawseqPicture
import Derived.Test.YtdlehfnlibddcaaFlawsheldIntS
import Derived.Test.YtdlehfnlibddcaaFlawsheldPicture
import Derived.Test.YtdlehfnlibddcaaFlawsmarkIntS
import Derived.Test.YtdlehfnlibddcaaFlawsmarkMatrix
import Derived.Test.YtdlehfnlibddcaaFlawsmarkPicture
import Derived.Test.YtdlehfnlibddcaaFlawsszIntS
import Derived.Test.YtdlehfnlibddcaaFlawsszMatrix
import Derived.Test.YtdlehfnlibddcaaFlawsszPicture
import Derived.Test.YtdlehfnlibddcaaFlawstoIntS
import Derived.Test.YtdlehfnlibddcaaFlawstoMatrix
import Derived.Test.YtdlehfnlibddcaaFlawstoPicture
import Derived.Test.YtdlehfnlibddcaaFpre
import Derived.Test.YtdlehfnlibddcaaFspecIsMatrix
import Derived.Test.YtdlehfnlibddcaaFspecIsPicture
import Derived.Test.YtdlehfnlibddcaaFspecScreenPicture
import Derived.Test.YtdlehfnlibddcaaFspecScreenShifted
import Derived.Test.YtdlehfnlibddcaaFspecShiftMatrix
import Derived.Test.YtdlehfnlibddcaaFspecl1Empty
import Derived.Test.YtdlehfnlibddcaaFspecl1In
import Derived.Test.YtdlehfnlibddcaaFspecl1Size
import Derived.Test.YtdlehfnlibddcaaFspecl1Up
import Derived.Test.YtdlehfnlibddcaaFspecl2Mod
import Derived.Test.YtdlehfnlibddcaaFspecl2Rank
import Derived.Test.YtdlehfnlibddcaaFspecl2Shape
import Derived.Test.YtdlehfnlibddcaaFspecl3Level
import Derived.Test.YtdlehfnlibddcaaP0
namespace Go.Proofs.Ytdlehfnlibddcaa.Q
open Go.RowKit Go.Proofs.Ytdlehfnlibddcaa.P Go.Proofs.YtdlehfnlibddcaaW.PrintWords
set_option linter.unusedVariables false
set_option linter.unusedSimpArgs false
theorem wsucc (i : Nat) (h : i < 9223372036854775807) : wrap64 ((i : Int) + 1) = ((i + 1 : Nat) : Int) := by unfold wrap64; omega
theorem wid (x : Int) (h0 : -9223372036854775808 ≤ x) (h1 : x ≤ 9223372036854775807) : wrap64 x = x := by unfold wrap64; omega
theorem rd_nat (l : List Int) (i : Nat) : rd l (i : Int) = l.getD i 0 := by unfold rd; rw [Int.toNat_natCast]
theorem getD_of_lt {α : Type} (l : List α) (d : α) (i : Nat) (h : i < l.length) : l.getD i d = l[i] := by simp [List.getD_eq_getElem?_getD, List.getElem?_eq_getElem h]
theorem ext_getD {a b : List Int} (hl : a.length = b.length) (h : ∀ i, i < a.length → a.getD i 0 = b.getD i 0) : a = b := by
  apply List.ext_getElem hl
  intro i h1 h2
  have := h i h1
  rwa [getD_of_lt a 0 i h1, getD_of_lt b 0 i h2] at this
theorem getD_set (l : List Int) (i j : Nat) (x : Int) (hi : i < l.length) : (l.set i x).getD j 0 = if j = i then x else l.getD j 0 := by
  simp only [List.getD_eq_getElem?_getD, List.getElem?_set]
  by_cases h : i = j
  · subst h; simp [hi]
  · rw [if_neg h, if_neg (fun e => h e.symm)]
theorem getD_tab (n : Nat) (f : Nat → Int) (j : Nat) (h : j < n) : ((List.range n).map f).getD j 0 = f j := by
  simp [List.getD_eq_getElem?_getD, List.getElem?_map, List.getElem?_range h]
theorem len_tab (n : Nat) (f : Nat → Int) : ((List.range n).map f).length = n := by simp
theorem tab_congr (n : Nat) (f g : Nat → Int) (h : ∀ i, i < n → f i = g i) : (List.range n).map f = (List.range n).map g :=
  List.map_congr_left (fun i hi => h i (List.mem_range.1 hi))
theorem tab_self (l : List Int) : (List.range l.length).map (fun i => l.getD i 0) = l := by
  apply ext_getD (by simp)
  intro i hi
  rw [len_tab] at hi
  rw [getD_tab _ _ _ hi]
/-- A table that is filled place by place: after i rounds those whose round has been are told, the others are 0. -/
def fill (n : Nat) (s : Nat → Nat) (f : Nat → Int) (i : Nat) : List Int := (List.range n).map fun m => if s m < i then f m else 0
theorem fill_len (n : Nat) (s : Nat → Nat) (f : Nat → Int) (i : Nat) : (fill n s f i).length = n := len_tab _ _
theorem fill_zero (n : Nat) (s : Nat → Nat) (f : Nat → Int) : fill n s f 0 = List.replicate n 0 := by
  unfold fill
  simp [List.map_const']
theorem fill_all (n : Nat) (s : Nat → Nat) (f : Nat → Int) (h : ∀ m, m < n → s m < n) : fill n s f n = (List.range n).map f := tab_congr _ _ _ (fun i hi => if_pos (h i hi))
theorem fill_set (n : Nat) (s : Nat → Nat) (f : Nat → Int) (i p : Nat) (hp : p < n) (hs : ∀ m, m < n → (s m = i ↔ m = p)) : (fill n s f i).set p (f p) = fill n s f (i + 1) := by
  apply ext_getD (by rw [List.length_set, fill_len, fill_len])
  intro j hj
  rw [List.length_set, fill_len] at hj
  rw [getD_set _ _ _ _ (by rw [fill_len]; exact hp)]
  unfold fill
  rw [getD_tab _ _ _ hj, getD_tab _ _ _ hj]
  have := hs j hj
  by_cases e : j = p
  · subst e
    rw [if_pos rfl, if_pos (by have := this.2 rfl; omega)]
  · rw [if_neg e]
    have hne : s j ≠ i := fun h => e (this.1 h)
    by_cases h : s j < i
    · rw [if_pos h, if_pos (by omega)]
    · rw [if_neg h, if_neg (by omega)]
theorem fill_set_id (n : Nat) (f : Nat → Int) (i : Nat) (hi : i < n) : (fill n id f i).set i (f i) = fill n id f (i + 1) := fill_set n id f i i hi (fun m _ => Iff.rfl)
theorem fill_all_id (n : Nat) (f : Nat → Int) : fill n id f n = (List.range n).map f := fill_all n id f (fun _ h => h)
/-! The laws' own helpers. -/
def szI (n : Nat) (left : Int) : Int := if left - (n : Int) < 0 then -1 else left - (n : Int)
theorem szIntS_eq (l : List Int) (left : Int) (h0 : 0 ≤ left) (h1 : left ≤ 1048576) (hl : l.length ≤ maxLen) : laws_szIntS.f l left = some (szI l.length left) := by
  unfold maxLen at hl
  unfold laws_szIntS.f szI
  rw [wid (left - (l.length : Int)) (by omega) (by omega)]
  split <;> rfl
theorem toIntS_ev (l : List Int) (hl : l.length ≤ 1048576) : Ev (fun k => laws_toIntS.f k l) l := by
  have key : ∀ d i : Nat, i + d = l.length → Ev (fun k => laws_toIntS.l0 k l (fill l.length id (fun j => l.getD j 0) i) (i : Int)) l := by
    intro d
    induction d with
    | zero =>
      intro i hi
      obtain rfl : i = l.length := by omega
      refine Ev.step (f := fun _ => some l) (fun k => ?_) (Ev.now _)
      simp only [laws_toIntS.l0]
      rw [if_neg (by omega), fill_all_id, tab_self]
    | succ d ih =>
      intro i hi
      refine Ev.step (fun k => ?_) (ih (i + 1) (by omega))
      simp only [laws_toIntS.l0]
      rw [if_pos (by omega), if_pos (by omega), fill_len, if_pos (by omega), wsucc i (by omega), rd_nat, Int.toNat_natCast, fill_set_id _ _ _ (by omega)]
  refine Ev.congr (fun k => ?_) (key l.length 0 (by omega))
  unfold laws_toIntS.f
  rw [if_pos (by omega), if_pos (by omega), Int.toNat_natCast, fill_zero]
  rfl
theorem eqIntS_ev (a b : List Int) (ha : a.length ≤ 1048576) : Ev (fun k => laws_eqIntS.f k a b) (decide (a = b)) := by
  by_cases hl : a.length = b.length
  · have key : ∀ d i : Nat, i + d = a.length → (∀ j, j < i → a.getD j 0 = b.getD j 0) → Ev (fun k => laws_eqIntS.l0 k a b (i : Int)) (decide (a = b)) := by
      intro d
      induction d with
      | zero =>
        intro i hi hj
        have : a = b := ext_getD hl (fun j h => hj j (by omega))
        rw [decide_eq_true this]
        refine Ev.step (f := fun _ => some true) (fun k => ?_) (Ev.now _)
        simp only [laws_eqIntS.l0]
        rw [if_neg (by omega)]
      | succ d ih =>
        intro i hi hj
        by_cases e : a.getD i 0 = b.getD i 0
        · refine Ev.step (fun k => ?_) (ih (i + 1) (by omega) (fun j h => if hji : j = i then hji ▸ e else hj j (by omega)))
          simp only [laws_eqIntS.l0]
          rw [if_pos (by omega), if_pos (by omega), if_pos (by omega), rd_nat, rd_nat, if_pos e, wsucc i (by omega)]
        · rw [decide_eq_false (fun h => e (by rw [h]))]
          refine Ev.step (f := fun _ => some false) (fun k => ?_) (Ev.now _)
          simp only [laws_eqIntS.l0]
          rw [if_pos (by omega), if_pos (by omega), if_pos (by omega), rd_nat, rd_nat, if_neg e]
    refine Ev.congr (fun k => ?_) (key a.length 0 (by omega) (fun j h => absurd h (by omega)))
    unfold laws_eqIntS.f
    rw [if_pos (by omega)]
    rfl
  · rw [decide_eq_false (fun h => hl (by rw [h]))]
    refine Ev.congr (fun k => ?_) (Ev.now _)
    unfold laws_eqIntS.f
    rw [if_neg (by omega)]
/-- The list that marking leaves. -/
def marks (n : Nat) (x : Int) : List Int := (List.range n).map fun (j : Nat) => x + (j : Int)
theorem marks_len (n : Nat) (x : Int) : (marks n x).length = n := len_tab _ _
def marking (l : List Int) (x : Int) (i : Nat) : List Int := (List.range l.length).map fun m => if m < i then x + (m : Int) else l.getD m 0
theorem marking_zero (l : List Int) (x : Int) : marking l x 0 = l := by
  unfold marking
  simp only [Nat.not_lt_zero, if_false]
  exact tab_self l
theorem marking_all (l : List Int) (x : Int) : marking l x l.length = marks l.length x := tab_congr _ _ _ (fun i hi => if_pos hi)
theorem marking_len (l : List Int) (x : Int) (i : Nat) : (marking l x i).length = l.length := len_tab _ _
theorem marking_set (l : List Int) (x : Int) (i : Nat) (hi : i < l.length) : (marking l x i).set i (x + (i : Int)) = marking l x (i + 1) := by
  apply ext_getD (by rw [List.length_set, marking_len, marking_len])
  intro j hj
  rw [List.length_set, marking_len] at hj
  rw [getD_set _ _ _ _ (by rw [marking_len]; exact hi)]
  unfold marking
  rw [getD_tab _ _ _ hj, getD_tab _ _ _ hj]
  by_cases e : j = i
  · subst e
    rw [if_pos rfl, if_pos (by omega)]
  · rw [if_neg e]
    by_cases h : j < i
    · rw [if_pos h, if_pos (by omega)]
    · rw [if_neg h, if_neg (by omega)]
theorem markIntS_ev (l : List Int) (x : Int) (hl : l.length ≤ 1048576) (h0 : 0 ≤ x) (h1 : x ≤ 1073741824) : Ev (fun k => laws_markIntS.f k l x) (x + (l.length : Int), marks l.length x) := by
  have key : ∀ d i : Nat, i + d = l.length → Ev (fun k => laws_markIntS.l0 k (marking l x i) (x + (i : Int)) (i : Int)) (x + (l.length : Int), marks l.length x) := by
    intro d
    induction d with
    | zero =>
      intro i hi
      obtain rfl : i = l.length := by omega
      refine Ev.step (f := fun _ => some (x + (l.length : Int), marks l.length x)) (fun k => ?_) (Ev.now _)
      simp only [laws_markIntS.l0]
      rw [marking_len, if_neg (by omega), marking_all]
    | succ d ih =>
      intro i hi
      refine Ev.step (fun k => ?_) (ih (i + 1) (by omega))
      simp only [laws_markIntS.l0]
      rw [marking_len, if_pos (by omega), if_pos (by omega), wsucc i (by omega), Int.toNat_natCast, marking_set _ _ _ (by omega), wid (x + (i : Int) + 1) (by omega) (by omega)]
      rw [show x + (i : Int) + 1 = x + ((i + 1 : Nat) : Int) by omega]
  refine Ev.congr (fun k => ?_) (key l.length 0 (by omega))
  unfold laws_markIntS.f
  rw [marking_zero]
  simp
theorem heldIntS_ev (n : Nat) (x : Int) (hl : n ≤ 1048576) (h0 : 0 ≤ x) (h1 : x ≤ 1073741824) : Ev (fun k => laws_heldIntS.f k (marks n x) x) (x + (n : Int)) := by
  have key : ∀ d i : Nat, i + d = n → Ev (fun k => laws_heldIntS.l0 k (marks n x) (x + (i : Int)) (i : Int)) (x + (n : Int)) := by
    intro d
    induction d with
    | zero =>
      intro i hi
      obtain rfl : i = n := by omega
      refine Ev.step (f := fun _ => some (x + (i : Int))) (fun k => ?_) (Ev.now _)
      simp only [laws_heldIntS.l0]
      rw [marks_len, if_neg (by omega)]
    | succ d ih =>
      intro i hi
      refine Ev.step (fun k => ?_) (ih (i + 1) (by omega))
      simp only [laws_heldIntS.l0]
      have hr : rd (marks n x) (i : Int) = x + (i : Int) := by rw [rd_nat]; unfold marks; rw [getD_tab _ _ _ (by omega)]
      rw [marks_len, if_pos (by omega), if_pos (by omega), hr, if_pos rfl, wsucc i (by omega), wid (x + (i : Int) + 1) (by omega) (by omega)]
      rw [show x + (i : Int) + 1 = x + ((i + 1 : Nat) : Int) by omega]
  refine Ev.congr (fun k => ?_) (key n 0 (by omega))
  unfold laws_heldIntS.f
  simp
theorem Ev_pos {α : Type} {c : Prop} [Decidable c] {f g : Nat → Option α} {r : α} (hc : c) (h : Ev f r) : Ev (fun k => if c then f k else g k) r := Ev.congr (fun k => if_pos hc) h
theorem Ev_neg {α : Type} {c : Prop} [Decidable c] {f g : Nat → Option α} {r : α} (hc : ¬ c) (h : Ev g r) : Ev (fun k => if c then f k else g k) r := Ev.congr (fun k => if_neg hc) h
/-! The reference's pictures. -/
theorem l1In_eq (x a b : Int) : spec_l1In.f x a b = some (decide (a ≤ x ∧ x ≤ b)) := by
  unfold spec_l1In.f
  by_cases h : x ≥ a
  · rw [if_pos h]
    congr 1
    rw [decide_eq_decide]
    omega
  · rw [if_neg h, decide_eq_false (by omega)]
theorem l1Size_eq (a0 a1 : Int) : spec_l1Size.f a0 a1 = some (sizedB a0 a1) := by
  unfold spec_l1Size.f sizedB
  rw [l1In_eq, Option.bind_some]
  by_cases h0 : 1 ≤ a0 ∧ a0 ≤ 64
  · rw [decide_eq_true h0, if_pos rfl, l1In_eq, Option.bind_some]
    by_cases h1 : 1 ≤ a1 ∧ a1 ≤ 64
    · rw [decide_eq_true h1, if_pos rfl]
      have e0 : 0 ≤ a0 * a1 := Int.mul_nonneg (by omega) (by omega)
      have e1 : a0 * a1 ≤ 64 * 64 := Int.le_trans (Int.mul_le_mul_of_nonneg_right h0.2 (by omega)) (Int.mul_le_mul_of_nonneg_left h1.2 (by omega))
      rw [wid (a0 * a1) (by omega) (by omega)]
      congr 1
      rw [decide_eq_decide]
      exact ⟨fun h => ⟨h0.1, h0.2, h1.1, h1.2, h⟩, fun h => h.2.2.2.2⟩
    · rw [decide_eq_false h1, if_neg (by simp), decide_eq_false (fun h => h1 ⟨h.2.2.1, h.2.2.2.1⟩)]
  · rw [decide_eq_false h0, if_neg (by simp), decide_eq_false (fun h => h0 ⟨h.1, h.2.1⟩)]
theorem l1Up_ev (w h : Int) (l : List Int) (m : Int) (hl : l.length ≤ 1048576) : Ev (fun k => spec_l1Up.f k w h l m) (picB w h l m) := by
  have key : ∀ d i : Nat, i + d = l.length → Ev (fun k => spec_l1Up.l0 k m l (l.length : Int) (i : Int)) ((l.drop i).all fun n => decide (0 ≤ n ∧ n ≤ m)) := by
    intro d
    induction d with
    | zero =>
      intro i hi
      rw [List.drop_eq_nil_of_le (by omega)]
      refine Ev.step (f := fun _ => some true) (fun k => ?_) (Ev.now _)
      simp only [spec_l1Up.l0]
      rw [if_neg (by omega)]
    | succ d ih =>
      intro i hi
      rw [List.drop_eq_getElem_cons (by omega), List.all_cons]
      have hr : rd l (i : Int) = l[i] := by rw [rd_nat, getD_of_lt]
      by_cases e : 0 ≤ l[i] ∧ l[i] ≤ m
      · rw [decide_eq_true e, Bool.true_and]
        refine Ev.step (fun k => ?_) (ih (i + 1) (by omega))
        simp only [spec_l1Up.l0]
        rw [if_pos (by omega), if_pos (by omega), if_pos (by omega), l1In_eq, Option.bind_some, hr, decide_eq_true e, if_pos rfl, wsucc i (by omega)]
      · rw [decide_eq_false e, Bool.false_and]
        refine Ev.step (f := fun _ => some false) (fun k => ?_) (Ev.now _)
        simp only [spec_l1Up.l0]
        rw [if_pos (by omega), if_pos (by omega), if_pos (by omega), l1In_eq, Option.bind_some, hr, decide_eq_false e, if_neg (by simp)]
  unfold spec_l1Up.f picB
  rw [l1Size_eq]
  simp only [Option.bind_some]
  cases hs : sizedB w h with
  | false =>
    simp only [Bool.false_and]
    refine Ev.step (f := fun _ => some false) (fun k => ?_) (Ev.now _)
    rw [if_neg (by simp)]
    simp only [spec_l1Up.j0]
    rw [if_pos trivial]
  | true =>
    obtain ⟨h0, h1, h2, h3, h4⟩ := sized_spec hs
    have e0 : 0 ≤ w * h := Int.mul_nonneg (by omega) (by omega)
    rw [wid (w * h) (by omega) (by omega)]
    simp only [Bool.true_and, if_true]
    by_cases e : (l.length : Int) = w * h
    · rw [decide_eq_true e, Bool.true_and]
      refine Ev.step (fun k => ?_) (key l.length 0 (by omega))
      simp only [spec_l1Up.j0]
      rw [if_neg (by simp [e])]
      rfl
    · rw [decide_eq_false e, Bool.false_and]
      refine Ev.step (f := fun _ => some false) (fun k => ?_) (Ev.now _)
      simp only [spec_l1Up.j0]
      rw [if_pos (by simp [e])]
theorem specIsPicture_ev (w h : Int) (l : List Int) (hl : l.length ≤ 1048576) : Ev (fun k => spec_IsPicture.f k w h l) (picB w h l 255) := by
  unfold spec_IsPicture.f
  exact Ev.bind (l1Up_ev w h l 255 hl) (Ev.now _)
theorem l1Empty_eq (w h : Int) (hs : sizedB w h = true) : spec_l1Empty.f w h = some (w, h, List.replicate (h.toNat * w.toNat) 0) := by
  obtain ⟨h0, h1, h2, h3, h4⟩ := sized_spec hs
  have e0 : 0 ≤ w * h := Int.mul_nonneg (by omega) (by omega)
  unfold spec_l1Empty.f
  rw [wid (w * h) (by omega) (by omega), if_pos e0, if_pos (by omega)]
  have : (w * h).toNat = h.toNat * w.toNat := by rw [Int.toNat_mul (by omega) (by omega), Nat.mul_comm]
  rw [this]
theorem gridL_tab (w : Int) (f : Int → Int → Int) (n : Nat) : gridL w f n = (List.range n).map fun i => cellAt w f i := rfl
theorem area_eq {w h : Int} (h0 : 0 ≤ w) (h1 : 0 ≤ h) : ((h.toNat * w.toNat : Nat) : Int) = w * h := by
  rw [Int.natCast_mul, Int.toNat_of_nonneg h0, Int.toNat_of_nonneg h1, Int.mul_comm]
theorem tdiv_nat (i : Nat) (w : Int) (h : 0 < w) : Int.tdiv (i : Int) w = (i : Int) / w := Int.tdiv_eq_ediv_of_nonneg (by omega)
theorem tmod_nat (i : Nat) (w : Int) : Int.tmod (i : Int) w = (i : Int) % w := Int.tmod_eq_emod_of_nonneg (by omega)
theorem cell_bd {w h : Int} (i : Nat) (h0 : 0 < w) (h1 : 0 < h) (hi : (i : Int) < w * h) : 0 ≤ (i : Int) % w ∧ (i : Int) % w < w ∧ 0 ≤ (i : Int) / w ∧ (i : Int) / w < h ∧ (i : Int) / w * w + (i : Int) % w = i := by
  refine ⟨Int.emod_nonneg _ (by omega), Int.emod_lt_of_pos _ h0, Int.ediv_nonneg (by omega) (by omega), ?_, ?_⟩
  · exact Int.ediv_lt_of_lt_mul h0 (by rw [Int.mul_comm]; exact hi)
  · have := Int.mul_ediv_add_emod (i : Int) w
    rw [Int.mul_comm] at this
    exact this
/-! The laws' helpers on pictures. -/
theorem szPic_ok (w h : Int) (l : List Int) (left : Int) (h0 : 0 ≤ left) (h1 : left ≤ 1048576) (hl : (l.length : Int) ≤ left) : laws_szPicture.f w h l left = some (left - (l.length : Int)) := by
  unfold laws_szPicture.f
  rw [szIntS_eq l left h0 h1 (by unfold maxLen; omega)]
  unfold szI
  rw [if_neg (by omega), Option.bind_some, if_neg (by omega)]
theorem szPic_big (w h : Int) (l : List Int) (left : Int) (h0 : 0 ≤ left) (h1 : left ≤ 1048576) (hm : l.length ≤ maxLen) (hl : ¬ (l.length : Int) ≤ left) : laws_szPicture.f w h l left = some (-1) := by
  unfold laws_szPicture.f
  rw [szIntS_eq l left h0 h1 hm]
  unfold szI
  rw [if_pos (by omega), Option.bind_some, if_pos (by omega)]
theorem toPic_ev (w h : Int) (l : List Int) (hl : l.length ≤ 1048576) : Ev (fun k => laws_toPicture.f k w h l) (w, h, l) := by
  unfold laws_toPicture.f
  exact Ev.bind (toIntS_ev l hl) (Ev.now _)
theorem eqPic_ev (w h : Int) (l : List Int) (w2 h2 : Int) (l2 : List Int) (hl : l.length ≤ 1048576) : Ev (fun k => laws_eqPicture.f k w h l w2 h2 l2) (decide (w = w2 ∧ h = h2 ∧ l = l2)) := by
  unfold laws_eqPicture.f
  by_cases e1 : w = w2
  · simp only [if_pos e1]
    by_cases e2 : h = h2
    · simp only [if_pos e2]
      refine Ev.bind (eqIntS_ev l l2 hl) ?_
      by_cases e3 : l = l2
      · rw [decide_eq_true e3, decide_eq_true ⟨e1, e2, e3⟩]
        exact Ev.now _
      · rw [decide_eq_false e3, decide_eq_false (fun h => e3 h.2.2)]
        exact Ev.now _
    · simp only [if_neg e2]
      rw [decide_eq_false (fun h => e2 h.2.1)]
      exact Ev.now _
  · simp only [if_neg e1]
    rw [decide_eq_false (fun h => e1 h.1)]
    exact Ev.now _
theorem eqPic_self (w h : Int) (l : List Int) (hl : l.length ≤ 1048576) : Ev (fun k => laws_eqPicture.f k w h l w h l) true := by
  have := eqPic_ev w h l w h l hl
  rwa [decide_eq_true ⟨rfl, rfl, rfl⟩] at this
theorem markPic_ev (w h : Int) (l : List Int) (x : Int) (hl : l.length ≤ 1048576) (h0 : 0 ≤ x) (h1 : x ≤ 1073741824) : Ev (fun k => laws_markPicture.f k w h l x) (x + (l.length : Int), marks l.length x) := by
  unfold laws_markPicture.f
  exact Ev.bind (markIntS_ev l x hl h0 h1) (Ev.now _)
theorem heldPic_ev (w h : Int) (n : Nat) (x : Int) (hl : n ≤ 1048576) (h0 : 0 ≤ x) (h1 : x ≤ 1073741824) : Ev (fun k => laws_heldPicture.f k w h (marks n x) x) (x + (n : Int)) := by
  unfold laws_heldPicture.f
  refine Ev.bind (heldIntS_ev n x hl h0 h1) ?_
  rw [if_neg (by omega)]
  exact Ev.now _
/-! Pictures made from a picture. -/
theorem pic_len {w h : Int} {l : List Int} {m : Int} (hp : picB w h l m = true) : h.toNat * w.toNat = l.length := by
  obtain ⟨h0, h1, h2, h3, h4, h5, h6⟩ := pic_spec hp
  have := area_eq (w := w) (h := h) (by omega) (by omega)
  omega
theorem pic_same {f g : Nat → Option (Int × Int × List Int)} {c : Prop} [Decidable c] {w h : Int} {l : List Int} (hs : Ev f (if c then (w, h, l) else (0, 0, []))) (hg : ∀ k, g k = if c then some (w, h, l) else some (0, 0, [])) (hl : c → l.length ≤ 1048576) : ∃ (x y : Int) (L : List Int), L.length ≤ 1048576 ∧ Ev f (x, y, L) ∧ Ev g (x, y, L) := by
  by_cases hc : c
  · rw [if_pos hc] at hs
    exact ⟨_, _, _, hl hc, hs, Ev.congr (fun k => (hg k).trans (if_pos hc)) (Ev.now _)⟩
  · rw [if_neg hc] at hs
    exact ⟨_, _, _, by simp, hs, Ev.congr (fun k => (hg k).trans (if_neg hc)) (Ev.now _)⟩
/-! The laws' helpers on matrices. -/
theorem szMat_ok (w h : Int) (l : List Int) (left : Int) (h0 : 0 ≤ left) (h1 : left ≤ 1048576) (hl : (l.length : Int) ≤ left) : laws_szMatrix.f w h l left = some (left - (l.length : Int)) := by
  unfold laws_szMatrix.f
  rw [szIntS_eq l left h0 h1 (by unfold maxLen; omega)]
  unfold szI
  rw [if_neg (by omega), Option.bind_some, if_neg (by omega)]
theorem szMat_big (w h : Int) (l : List Int) (left : Int) (h0 : 0 ≤ left) (h1 : left ≤ 1048576) (hm : l.length ≤ maxLen) (hl : ¬ (l.length : Int) ≤ left) : laws_szMatrix.f w h l left = some (-1) := by
  unfold laws_szMatrix.f
  rw [szIntS_eq l left h0 h1 hm]
  unfold szI
  rw [if_pos (by omega), Option.bind_some, if_pos (by omega)]
theorem toMat_ev (w h : Int) (l : List Int) (hl : l.length ≤ 1048576) : Ev (fun k => laws_toMatrix.f k w h l) (w, h, l) := by
  unfold laws_toMatrix.f
  exact Ev.bind (toIntS_ev l hl) (Ev.now _)
theorem eqMat_ev (w h : Int) (l : List Int) (w2 h2 : Int) (l2 : List Int) (hl : l.length ≤ 1048576) : Ev (fun k => laws_eqMatrix.f k w h l w2 h2 l2) (decide (w = w2 ∧ h = h2 ∧ l = l2)) := by
  unfold laws_eqMatrix.f
  by_cases e1 : w = w2
  · simp only [if_pos e1]
    by_cases e2 : h = h2
    · simp only [if_pos e2]
      refine Ev.bind (eqIntS_ev l l2 hl) ?_
      by_cases e3 : l = l2
      · rw [decide_eq_true e3, decide_eq_true ⟨e1, e2, e3⟩]
        exact Ev.now _
      · rw [decide_eq_false e3, decide_eq_false (fun h => e3 h.2.2)]
        exact Ev.now _
    · simp only [if_neg e2]
      rw [decide_eq_false (fun h => e2 h.2.1)]
      exact Ev.now _
  · simp only [if_neg e1]
    rw [decide_eq_false (fun h => e1 h.1)]
    exact Ev.now _
theorem eqMat_self (w h : Int) (l : List Int) (hl : l.length ≤ 1048576) : Ev (fun k => laws_eqMatrix.f k w h l w h l) true := by
  have := eqMat_ev w h l w h l hl
  rwa [decide_eq_true ⟨rfl, rfl, rfl⟩] at this
theorem markMat_ev (w h : Int) (l : List Int) (x : Int) (hl : l.length ≤ 1048576) (h0 : 0 ≤ x) (h1 : x ≤ 1073741824) : Ev (fun k => laws_markMatrix.f k w h l x) (x + (l.length : Int), marks l.length x) := by
  unfold laws_markMatrix.f
  exact Ev.bind (markIntS_ev l x hl h0 h1) (Ev.now _)
/-! Matrices. -/
theorem l2Shape_eq (a b : Int) : spec_l2Shape.f a b = some (celledB a b) := by
  unfold spec_l2Shape.f celledB
  rw [l1In_eq, Option.bind_some]
  by_cases h0 : 1 ≤ a ∧ a ≤ 256
  · rw [decide_eq_true h0, if_pos rfl, l1In_eq, Option.bind_some]
    by_cases h1 : 1 ≤ b ∧ b ≤ 256
    · rw [decide_eq_true h1, if_pos rfl]
      have e0 : 0 ≤ a * b := Int.mul_nonneg (by omega) (by omega)
      have e1 : a * b ≤ 256 * 256 := Int.le_trans (Int.mul_le_mul_of_nonneg_right h0.2 (by omega)) (Int.mul_le_mul_of_nonneg_left h1.2 (by omega))
      rw [wid (a * b) (by omega) (by omega)]
      congr 1
      rw [decide_eq_decide]
      exact ⟨fun h => ⟨h0.1, h0.2, h1.1, h1.2, h⟩, fun h => h.2.2.2.2⟩
    · rw [decide_eq_false h1, if_neg (by simp), decide_eq_false (fun h => h1 ⟨h.2.2.1, h.2.2.2.1⟩)]
  · rw [decide_eq_false h0, if_neg (by simp), decide_eq_false (fun h => h0 ⟨h.1, h.2.1⟩)]
theorem specIsMatrix_ev (w h : Int) (l : List Int) (hl : l.length ≤ 1048576) : ∃ r : Bool, Ev (fun k => spec_IsMatrix.f k w h l) r ∧ Ev (fun _ => impl_IsMatrix.f w h l) r := by
  unfold spec_IsMatrix.f impl_IsMatrix.f
  rw [l2Shape_eq, impl_celled.eq]
  simp only [Option.bind_some]
  have bad : Ev (fun k => spec_IsMatrix.j0 k true w h l) false := by
    refine Ev.step (f := fun _ => some false) (fun k => ?_) (Ev.now _)
    simp only [spec_IsMatrix.j0, if_true]
  by_cases hc : celledB w h = true
  · by_cases hn : ((l.length : Int) != wrap64 (w * h)) = true
    · exact ⟨false, Ev_pos hc (by rw [hn]; exact bad), Ev_pos hc (Ev_pos hn (Ev.now _))⟩
    · rw [Bool.not_eq_true] at hn
      obtain ⟨h0, h1, h2, h3, h4⟩ := celled_spec hc
      have e0 : 0 ≤ w * h := Int.mul_nonneg (by omega) (by omega)
      have hln : (l.length : Int) = w * h := by
        have : (l.length : Int) = wrap64 (w * h) := by simpa using hn
        rw [this, wid (w * h) (by omega) (by omega)]
      have hsm : l.length ≤ 256 := by omega
      have key : ∀ (d i : Nat) (s : List Bool) (s2 : List Bool), i + d = l.length → s.length = l.length → s2.length = 256 → (∀ j, j < l.length → s.getD j false = s2.getD j false) → Ev (fun k => spec_IsMatrix.l0 k s l (l.length : Int) (i : Int) w h l) (seenB (l.drop i) (l.length : Int) s2) := by
        intro d
        induction d with
        | zero =>
          intro i s s2 hi hs hs2 he
          rw [List.drop_eq_nil_of_le (by omega)]
          refine Ev.step (fun k => by rw [spec_IsMatrix.l0]) ?_
          exact Ev_neg (by omega) (Ev.now true)
        | succ d ih =>
          intro i s s2 hi hs hs2 he
          have hr : rd l (i : Int) = l[i] := by rw [rd_nat, getD_of_lt]
          rw [List.drop_eq_getElem_cons (by omega)]
          unfold seenB
          refine Ev.step (fun k => by rw [spec_IsMatrix.l0]) ?_
          refine Ev_pos (by omega) (Ev_pos (by omega) (Ev_pos (by omega) ?_))
          rw [hr, wid ((l.length : Int) - 1) (by omega) (by omega), l1In_eq]
          simp only [Option.bind_some]
          generalize l[i] = x
          by_cases c : 0 ≤ x ∧ x ≤ (l.length : Int) - 1
          · refine Ev_pos (decide_eq_true c) (Ev_pos c.1 (Ev_pos (by omega) ?_))
            rw [if_neg (by omega), if_neg (by omega)]
            have hx := he x.toNat (by omega)
            have hrd : rdOf false s x = s2.getD x.toNat false := by rw [← hx]; rfl
            rw [hrd]
            by_cases b : s2.getD x.toNat false = true
            · rw [if_pos b]
              exact Ev_pos b (Ev.now _)
            · rw [if_neg b]
              refine Ev_neg b ?_
              rw [wsucc i (by omega)]
              refine ih (i + 1) _ _ (by omega) (by rw [List.length_set]; exact hs) (by rw [List.length_set]; exact hs2) (fun j hj => ?_)
              simp only [List.getD_eq_getElem?_getD, List.getElem?_set]
              have hj' := he j hj
              simp only [List.getD_eq_getElem?_getD] at hj'
              by_cases q : x.toNat = j
              · rw [if_pos q, if_pos q, if_pos (by omega), if_pos (by omega)]
              · rw [if_neg q, if_neg q]
                exact hj'
          · refine Ev_neg (by rw [decide_eq_false c]; simp) ?_
            by_cases c1 : x < 0
            · rw [if_pos c1]
              exact Ev.now _
            · rw [if_neg c1, if_pos (by omega)]
              exact Ev.now _
      refine ⟨seenB l (l.length : Int) (List.replicate 256 false), Ev_pos hc ?_, Ev_pos hc (Ev_neg (by rw [hn]; simp) (Ev.now _))⟩
      rw [hn]
      refine Ev.step (fun k => by rw [spec_IsMatrix.j0]) ?_
      refine Ev_neg (by simp) (Ev_pos (by omega) (Ev_pos (by omega) ?_))
      have := key l.length 0 (List.replicate l.length false) (List.replicate 256 false) (by omega) List.length_replicate List.length_replicate (fun j hj => by
        rw [getD_of_lt _ false j (by rw [List.length_replicate]; exact hj), getD_of_lt _ false j (by rw [List.length_replicate]; omega), List.getElem_replicate, List.getElem_replicate])
      rw [Int.toNat_natCast]
      exact this
  · exact ⟨false, Ev_neg hc bad, Ev_neg hc (Ev.now _)⟩
/-! Ranks. -/
theorem specMod_ev (x w : Int) (hw : 0 < w) (hw2 : w ≤ 1000000000000) : spec_l2Mod.f x w = some (x % w) := by
  have b0 := Int.emod_nonneg x (b := w) (by omega)
  have b1 := Int.emod_lt_of_pos x hw
  unfold spec_l2Mod.f
  rw [if_neg (by omega)]
  by_cases hx : 0 ≤ x
  · rw [Int.tmod_eq_emod_of_nonneg hx, if_neg (by omega)]
  · have e : Int.tmod x w = -((-x) % w) := by
      rw [← Int.tmod_eq_emod_of_nonneg (by omega : 0 ≤ -x), Int.neg_tmod, Int.neg_neg]
    have c0 := Int.emod_nonneg (-x) (b := w) (by omega)
    have c1 := Int.emod_lt_of_pos (-x) hw
    rw [e]
    have d1 := Int.mul_ediv_add_emod x w
    have d2 := Int.mul_ediv_add_emod (-x) w
    by_cases hz : (-x) % w = 0
    · rw [hz, if_neg (by omega)]
      have : x % w = 0 := Int.emod_eq_zero_of_dvd ((Int.dvd_neg.1 (Int.dvd_of_emod_eq_zero hz)))
      rw [this]
      rfl
    · rw [if_pos (by omega), wid _ (by omega) (by omega)]
      congr 1
      have e3 : w * (x / w) + w * (-x / w) = w * (x / w + -x / w) := (Int.mul_add _ _ _).symm
      have k1 : x / w + -x / w < 0 := by
        by_cases k : 0 ≤ x / w + -x / w
        · have := Int.mul_nonneg (by omega : 0 ≤ w) k
          omega
        · omega
      have k2 : -2 < x / w + -x / w := by
        by_cases k : x / w + -x / w ≤ -2
        · have := Int.mul_le_mul_of_nonneg_left k (by omega : 0 ≤ w)
          omega
        · omega
      rw [show x / w + -x / w = -1 by omega] at e3
      omega
theorem specIsMat_ev (w h : Int) (l : List Int) (hl : l.length ≤ 1048576) : Ev (fun k => spec_IsMatrix.f k w h l) (matB w h l) := by
  obtain ⟨r, h1, K, h2⟩ := specIsMatrix_ev w h l hl
  have := h2 K (Nat.le_refl _)
  rw [impl_IsMatrix.eq] at this
  rw [Option.some.inj this]
  exact h1
theorem rank_eq {w h : Int} {l : List Int} (hm : matB w h l = true) (x y : Int) : spec_l2Rank.f w h l x y = some (rd l (y % h * w + x % w)) ∧ impl_rank.f w h l x y = some (rd l (y % h * w + x % w)) := by
  obtain ⟨h0, h1, h2, h3, h4, h5, _⟩ := mat_spec hm
  have bx := Int.emod_nonneg x (b := w) (by omega)
  have bx' := Int.emod_lt_of_pos x (b := w) (by omega)
  have by_ := Int.emod_nonneg y (b := h) (by omega)
  have by' := Int.emod_lt_of_pos y (b := h) (by omega)
  have hb := idx_lt (w := w) (h := h) (x := x % w) (y := y % h) bx bx' by_ by'
  have hm0 : 0 ≤ y % h * w := Int.mul_nonneg (by omega) (by omega)
  unfold spec_l2Rank.f impl_rank.f
  rw [specMod_ev y h (by omega) (by omega), specMod_ev x w (by omega) (by omega), impl_mod.eq y h (by omega) (by omega), impl_mod.eq x w (by omega) (by omega)]
  simp only [Option.bind_some]
  rw [wid (y % h * w) (by omega) (by omega), wid (y % h * w + x % w) (by omega) (by omega), if_pos hb.1, if_pos (by omega)]
  exact ⟨rfl, rfl⟩
/-! Matrices reversed. -/
theorem mat_len {w h : Int} {l : List Int} (hm : matB w h l = true) : h.toNat * w.toNat = l.length := by
  obtain ⟨h0, h1, h2, h3, h4, h5, _⟩ := mat_spec hm
  have := area_eq (w := w) (h := h) (by omega) (by omega)
  omega
theorem specShift_ev (w h : Int) (l : List Int) (dx dy : Int) (hl : l.length ≤ 1048576) : Ev (fun k => spec_ShiftMatrix.f k w h l dx dy) (if matB w h l = true ∧ -1000 ≤ dx ∧ dx ≤ 1000 ∧ -1000 ≤ dy ∧ dy ≤ 1000 then (w, h, gridL w (fun x y => rd l ((y - dy) % h * w + (x - dx) % w)) (Int.toNat h * Int.toNat w)) else (0, 0, [])) := by
  have bad : Ev (fun k => spec_ShiftMatrix.j0 k dx dy true w h l) (0, 0, []) := by
    refine Ev.step (f := fun _ => some (0, 0, [])) (fun k => ?_) (Ev.now _)
    simp only [spec_ShiftMatrix.j0, if_true]
  unfold spec_ShiftMatrix.f
  refine Ev.bind (specIsMat_ev w h l hl) ?_
  rw [l1In_eq, l1In_eq]
  simp only [Option.bind_some]
  by_cases hm : matB w h l = true
  · refine Ev_pos hm ?_
    obtain ⟨h0, h1, h2, h3, h4, h5, _⟩ := mat_spec hm
    by_cases hx : -1000 ≤ dx ∧ dx ≤ 1000
    · refine Ev_pos (decide_eq_true hx) ?_
      by_cases hy : -1000 ≤ dy ∧ dy ≤ 1000
      · rw [if_pos ⟨hm, hx.1, hx.2, hy.1, hy.2⟩, decide_eq_true hy, mat_len hm]
        refine Ev.step (fun k => by rw [spec_ShiftMatrix.j0]) ?_
        refine Ev_neg (by simp) ?_
        have key : ∀ d i : Nat, i + d = l.length → Ev (fun k => spec_ShiftMatrix.l0 k dx dy (l.length : Int) (i : Int) w h l w h (gridL w (fun x y => rd l ((y - dy) % h * w + (x - dx) % w)) i)) (w, h, gridL w (fun x y => rd l ((y - dy) % h * w + (x - dx) % w)) l.length) := by
          intro d
          induction d with
          | zero =>
            intro i hi
            obtain rfl : i = l.length := by omega
            refine Ev.step (fun k => by rw [spec_ShiftMatrix.l0]) ?_
            exact Ev_neg (by omega) (Ev.now _)
          | succ d ih =>
            intro i hi
            obtain ⟨b0, b1, b2, b3, b4⟩ := cell_bd (w := w) (h := h) i (by omega) (by omega) (by omega)
            refine Ev.step (fun k => ?_) (ih (i + 1) (by omega))
            simp only [spec_ShiftMatrix.l0]
            rw [if_pos (by omega), if_neg (by omega), tmod_nat, tdiv_nat i w (by omega), wid ((i : Int) / w) (by omega) (by omega), wid ((i : Int) % w - dx) (by omega) (by omega), wid ((i : Int) / w - dy) (by omega) (by omega), (rank_eq hm _ _).1, Option.bind_some, gridL_len, if_pos (by omega), wsucc i (by omega), gridL_succ]
            rfl
        exact key l.length 0 (by omega)
      · rw [if_neg (fun q => hy ⟨q.2.2.2.1, q.2.2.2.2⟩), decide_eq_false hy]
        exact bad
    · rw [if_neg (fun q => hx ⟨q.2.1, q.2.2.1⟩)]
      exact Ev_neg (by rw [decide_eq_false hx]; simp) bad
  · rw [if_neg (fun q => hm q.1)]
    exact Ev_neg hm bad
theorem ShiftMatrix_same (w h : Int) (l : List Int) (dx dy : Int) (hl : l.length ≤ 1048576) : ∃ (x y : Int) (L : List Int), L.length ≤ 1048576 ∧ Ev (fun k => spec_ShiftMatrix.f k w h l dx dy) (x, y, L) ∧ Ev (fun k => impl_ShiftMatrix.f w h l dx dy) (x, y, L) :=
  pic_same (specShift_ev w h l dx dy hl) (fun _ => rfl) (fun hm => by rw [gridL_len, mat_len hm.1]; exact hl)
theorem fill_keep (n : Nat) (f : Nat → Int) (i : Nat) (hi : i < n) (h0 : f i = 0) : fill n id f i = fill n id f (i + 1) := by
  rw [← fill_set_id n f i hi, h0]
  apply ext_getD (by rw [List.length_set])
  intro j hj
  rw [fill_len] at hj
  rw [getD_set _ _ _ _ (by rw [fill_len]; omega)]
  by_cases e : j = i
  · subst e
    rw [if_pos rfl]
    unfold fill
    rw [getD_tab _ _ _ hj, if_neg (by simp)]
  · rw [if_neg e]
theorem specScrP_ev (w h : Int) (l : List Int) (u v : Int) (m : List Int) (hl : l.length ≤ 1048576) (hm2 : m.length ≤ 1048576) : Ev (fun k => spec_ScreenPicture.f k w h l u v m) (if matB w h l = true ∧ picB u v m 255 = true then (u, v, gridL u (fun x y => if rd l (y % h * w + x % w) < lvlW (l.length : Int) (rd m (y * u + x)) then 1 else 0) (Int.toNat v * Int.toNat u)) else (0, 0, [])) := by
  have bad : Ev (fun k => spec_ScreenPicture.j0 k true w h l u v m) (0, 0, []) := Ev.step (fun k => by rw [spec_ScreenPicture.j0]) (Ev_pos rfl (Ev.now _))
  unfold spec_ScreenPicture.f
  refine Ev.bind (specIsMat_ev w h l hl) ?_
  by_cases hm : matB w h l = true
  · refine Ev_pos hm (Ev.bind (specIsPicture_ev u v m hm2) ?_)
    by_cases hp : picB u v m 255 = true
    · rw [if_pos ⟨hm, hp⟩, hp, pic_len hp, gridL_tab]
      obtain ⟨g0, g1, g2, g3, g4, g5, g6⟩ := pic_spec hp
      have hn := area_eq (w := u) (h := v) (by omega) (by omega)
      refine Ev.step (fun k => by rw [spec_ScreenPicture.j0]) (Ev_neg (by simp) ?_)
      rw [l1Empty_eq u v (decide_eq_true ⟨g0, g1, g2, g3, g4⟩), pic_len hp]
      simp only [Option.bind_some]
      have key : ∀ d i : Nat, i + d = m.length → Ev (fun k => spec_ScreenPicture.l0 k m (m.length : Int) (i : Int) w h l u v m u v (fill m.length id (cellAt u (fun x y => if rd l (y % h * w + x % w) < lvlW (l.length : Int) (rd m (y * u + x)) then 1 else 0)) i)) (u, v, (List.range m.length).map (fun i : Nat => cellAt u (fun x y => if rd l (y % h * w + x % w) < lvlW (l.length : Int) (rd m (y * u + x)) then 1 else 0) i)) := by
        intro d
        induction d with
        | zero =>
          intro i hi
          obtain rfl : i = m.length := by omega
          refine Ev.step (fun k => by rw [spec_ScreenPicture.l0]) ?_
          rw [fill_all_id]
          exact Ev_neg (by omega) (Ev.now _)
        | succ d ih =>
          intro i hi
          have nx := ih (i + 1) (by omega)
          obtain ⟨b0, b1, b2, b3, b4⟩ := cell_bd (w := u) (h := v) i (by omega) (by omega) (by omega)
          refine Ev.step (fun k => by rw [spec_ScreenPicture.l0]) (Ev_pos (by omega) (Ev_pos (by omega) (Ev_pos (by omega) (Ev_neg (by omega) ?_))))
          rw [tmod_nat, tdiv_nat i u (by omega), wid ((i : Int) / u) (by omega) (by omega), (rank_eq hm _ _).1, wsucc i (by omega)]
          unfold spec_l3Level.f
          simp only [Option.bind_some]
          have ec : cellAt u (fun x y => if rd l (y % h * w + x % w) < lvlW (l.length : Int) (rd m (y * u + x)) then (1 : Int) else 0) i = if rd l ((i : Int) / u % h * w + (i : Int) % u % w) < lvlW (l.length : Int) (rd m (i : Int)) then 1 else 0 := by
            show (if rd l ((i : Int) / u % h * w + (i : Int) % u % w) < lvlW (l.length : Int) (rd m ((i : Int) / u * u + (i : Int) % u)) then (1 : Int) else 0) = _
            rw [b4]
          by_cases c : rd l ((i : Int) / u % h * w + (i : Int) % u % w) < lvlW (l.length : Int) (rd m (i : Int))
          · refine Ev_pos c (Ev_pos (by rw [fill_len]; omega) ?_)
            have e := fill_set_id m.length (cellAt u (fun x y => if rd l (y % h * w + x % w) < lvlW (l.length : Int) (rd m (y * u + x)) then (1 : Int) else 0)) i (by omega)
            rw [ec, if_pos c] at e
            rw [Int.toNat_natCast, e]
            exact nx
          · refine Ev_neg c ?_
            rw [fill_keep m.length (cellAt u (fun x y => if rd l (y % h * w + x % w) < lvlW (l.length : Int) (rd m (y * u + x)) then (1 : Int) else 0)) i (by omega) (by rw [ec, if_neg c])]
            exact nx
      have := key m.length 0 (by omega)
      rw [fill_zero] at this
      exact this
    · rw [if_neg (fun q => hp q.2)]
      rw [Bool.not_eq_true] at hp
      rw [hp]
      exact bad
  · rw [if_neg (fun q => hm q.1)]
    exact Ev_neg hm bad
theorem ScreenPicture_same (w h : Int) (l : List Int) (u v : Int) (m : List Int) (hl : l.length ≤ 1048576) (hm2 : m.length ≤ 1048576) : ∃ (x y : Int) (L : List Int), L.length ≤ 1048576 ∧ Ev (fun k => spec_ScreenPicture.f k w h l u v m) (x, y, L) ∧ Ev (fun k => impl_ScreenPicture.f w h l u v m) (x, y, L) :=
  pic_same (specScrP_ev w h l u v m hl hm2) (fun _ => rfl) (fun hm => by rw [gridL_len, pic_len hm.2]; exact hm2)
theorem ScreenShifted_same (w h : Int) (l : List Int) (u v : Int) (m : List Int) (a b : Int) (hl : l.length ≤ 1048576) (hm2 : m.length ≤ 1048576) : ∃ (x y : Int) (L : List Int), L.length ≤ 1048576 ∧ Ev (fun k => spec_ScreenShifted.f k w h l u v m a b) (x, y, L) ∧ Ev (fun k => impl_ScreenShifted.f w h l u v m a b) (x, y, L) := by
  obtain ⟨x, y, L, h1, h2, h3⟩ := ShiftMatrix_same w h l a b hl
  obtain ⟨x2, y2, L2, h4, h5, h6⟩ := ScreenPicture_same x y L u v m h1 hm2
  refine ⟨x2, y2, L2, h4, ?_, ?_⟩
  · unfold spec_ScreenShifted.f
    exact Ev.bind h2 (Ev.bind h5 (Ev.now _))
  · unfold impl_ScreenShifted.f
    exact Ev.bind h3 (Ev.bind h6 (Ev.now _))
/-- The law FnExactScreenShifted: the program's ScreenShifted answers what the reference's answers. -/
theorem FnExactScreenShifted (a0_0 a0_1 : Int) (l0_2 : List Int) (a1_0 a1_1 : Int) (l1_2 : List Int) (a2 : Int) (a3 : Int) (h0_ : (Lit.int .i64 a0_0).wf = true) (h1_ : (Lit.int .i64 a0_1).wf = true) (h2_ : l0_2.length ≤ maxLen) (h3_ : (∀ x ∈ l0_2, (Lit.int .i64 x).wf = true)) (h4_ : (Lit.int .i64 a1_0).wf = true) (h5_ : (Lit.int .i64 a1_1).wf = true) (h6_ : l1_2.length ≤ maxLen) (h7_ : (∀ x ∈ l1_2, (Lit.int .i64 x).wf = true)) (h8_ : (Lit.int .i64 a2).wf = true) (h9_ : (Lit.int .i64 a3).wf = true) :
    ∃ k, P.laws_FnExactScreenShifted.f k a0_0 a0_1 l0_2 a1_0 a1_1 l1_2 a2 a3 = some true := by
  refine Ev.rounds ?_
  unfold laws_FnExactScreenShifted.f
  by_cases hl0 : (l0_2.length : Int) ≤ 1048576
  · rw [szMat_ok a0_0 a0_1 l0_2 (1048576) (by omega) (by omega) hl0]
    simp only [Option.bind_some]
    refine Ev_neg (by omega) ?_
    by_cases hl1 : (l1_2.length : Int) ≤ 1048576 - (l0_2.length : Int)
    · rw [szPic_ok a1_0 a1_1 l1_2 (1048576 - (l0_2.length : Int)) (by omega) (by omega) hl1]
      simp only [Option.bind_some]
      refine Ev_neg (by omega) ?_
      obtain ⟨x, y, L, HL, HS, HI⟩ := ScreenShifted_same a0_0 a0_1 l0_2 a1_0 a1_1 l1_2 a2 a3 (by omega) (by omega)
      repeat (first
        | exact Ev.now _
        | (refine Ev.bind HS ?_; try dsimp only)
        | (refine Ev.bind HI ?_; try dsimp only)
        | (refine Ev.bind (toPic_ev _ _ _ (by first | assumption | omega | (rw [List.length_map]; omega))) ?_; try dsimp only)
        | (refine Ev.bind (eqPic_self _ _ _ (by first | assumption | omega | (rw [List.length_map]; omega))) ?_; try dsimp only)
        | (refine Ev.bind (markPic_ev _ _ _ _ (by first | assumption | omega | (rw [List.length_map]; omega)) (by omega) (by omega)) ?_; try dsimp only)
        | (refine Ev.bind (heldPic_ev _ _ _ _ (by first | assumption | omega | (rw [List.length_map]; omega)) (by omega) (by omega)) ?_; try dsimp only)
        | (refine Ev.bind (toMat_ev _ _ _ (by first | assumption | omega | (rw [List.length_map]; omega))) ?_; try dsimp only)
        | (refine Ev.bind (eqMat_self _ _ _ (by first | assumption | omega | (rw [List.length_map]; omega))) ?_; try dsimp only)
        | (refine Ev.bind (markMat_ev _ _ _ _ (by first | assumption | omega | (rw [List.length_map]; omega)) (by omega) (by omega)) ?_; try dsimp only)
        | (refine Ev_pos (by first | rfl | omega) ?_)
        | (refine Ev_neg (by first | omega | simp) ?_)
        | (refine Ev.step (fun k => by rw [laws_FnExactScreenShifted.j0]) ?_))
    · rw [szPic_big a1_0 a1_1 l1_2 (1048576 - (l0_2.length : Int)) (by omega) (by omega) h6_ hl1]
      simp only [Option.bind_some]
      exact Ev.now _
  · rw [szMat_big a0_0 a0_1 l0_2 (1048576) (by omega) (by omega) h2_ hl0]
    simp only [Option.bind_some]
    exact Ev.now _
end Go.Proofs.Ytdlehfnlibddcaa.Q
