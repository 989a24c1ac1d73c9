/- The law FnExactAddPictures: the program's AddPictures answers what the reference's answers. -/
import Derived.Test.YtndnklicfibkeaaFimplAddPictures
import Derived.Test.YtndnklicfibkeaaFimplalike
import Derived.Test.YtndnklicfibkeaaFlawsFnExactAddPictures
import Derived.Test.YtndnklicfibkeaaFlawseqIntS
import Derived.Test.YtndnklicfibkeaaFlawseqPicture
import Derived.Test.YtndnklicfibkeaaFlawsheldIntS
import Derived.Test.YtndnklicfibkeaaFlawsheldPicture
import Derived.Test.YtndnklicfibkeaaFlawsmarkIntS
import Derived.Test.YtndnklicfibkeaaFlawsmarkPicture
import Derived.Test.YtndnklicfibkeaaFlawsszIntS
import Derived.Test.YtndnklicfibkeaaFlawsszPicture
import Derived.Test.YtndnklicfibkeaaFlawstoIntS
import Derived.Test.YtndnklicfibkeaaFlawstoPicture
import Derived.Test.YtndnklicfibkeaaFpre
import Derived.Test.YtndnklicfibkeaaFspecAddPictures
import Derived.Test.YtndnklicfibkeaaFspecIsPicture
import Derived.Test.YtndnklicfibkeaaFspecl1Empty
import Derived.Test.YtndnklicfibkeaaFspecl1In
import Derived.Test.YtndnklicfibkeaaFspecl1Pair
import Derived.Test.YtndnklicfibkeaaFspecl1Size
import Derived.Test.YtndnklicfibkeaaFspecl1Up
import Derived.Test.YtndnklicfibkeaaP0
namespace Go.Proofs.Ytndnklicfibkeaa.Q
open Go.RowKit Go.Proofs.Ytndnklicfibkeaa.P Go.Proofs.YtndnklicfibkeaaW.PrintWords
set_option linter.unusedVariables false
set_option linter.unusedSimpArgs false
theorem wsucc (i : Nat) (h : i < 9223372036854775807) : wrap64 ((i : Int) + 1) = ((i + 1 : Nat) : Int) := by unfold wrap64; omega
theorem wid (x : Int) (h0 : -9223372036854775808 ≤ x) (h1 : x ≤ 9223372036854775807) : wrap64 x = x := by unfold wrap64; omega
theorem rd_nat (l : List Int) (i : Nat) : rd l (i : Int) = l.getD i 0 := by unfold rd; rw [Int.toNat_natCast]
theorem getD_of_lt {α : Type} (l : List α) (d : α) (i : Nat) (h : i < l.length) : l.getD i d = l[i] := by simp [List.getD_eq_getElem?_getD, List.getElem?_eq_getElem h]
theorem getD_mem (l : List Int) (i : Nat) (h : i < l.length) : l.getD i 0 ∈ l := by rw [getD_of_lt l 0 i h]; exact List.getElem_mem h
theorem ext_getD {a b : List Int} (hl : a.length = b.length) (h : ∀ i, i < a.length → a.getD i 0 = b.getD i 0) : a = b := by
  apply List.ext_getElem hl
  intro i h1 h2
  have := h i h1
  rwa [getD_of_lt a 0 i h1, getD_of_lt b 0 i h2] at this
theorem getD_set (l : List Int) (i j : Nat) (x : Int) (hi : i < l.length) : (l.set i x).getD j 0 = if j = i then x else l.getD j 0 := by
  simp only [List.getD_eq_getElem?_getD, List.getElem?_set]
  by_cases h : i = j
  · subst h; simp [hi]
  · rw [if_neg h, if_neg (fun e => h e.symm)]
theorem getD_tab (n : Nat) (f : Nat → Int) (j : Nat) (h : j < n) : ((List.range n).map f).getD j 0 = f j := by
  simp [List.getD_eq_getElem?_getD, List.getElem?_map, List.getElem?_range h]
theorem len_tab (n : Nat) (f : Nat → Int) : ((List.range n).map f).length = n := by simp
theorem tab_congr (n : Nat) (f g : Nat → Int) (h : ∀ i, i < n → f i = g i) : (List.range n).map f = (List.range n).map g :=
  List.map_congr_left (fun i hi => h i (List.mem_range.1 hi))
theorem tab_self (l : List Int) : (List.range l.length).map (fun i => l.getD i 0) = l := by
  apply ext_getD (by simp)
  intro i hi
  rw [len_tab] at hi
  rw [getD_tab _ _ _ hi]
/-- A table that is filled place by place: after i rounds those whose round has been are told, the others are 0. -/
def fill (n : Nat) (s : Nat → Nat) (f : Nat → Int) (i : Nat) : List Int := (List.range n).map fun m => if s m < i then f m else 0
theorem fill_len (n : Nat) (s : Nat → Nat) (f : Nat → Int) (i : Nat) : (fill n s f i).length = n := len_tab _ _
theorem fill_zero (n : Nat) (s : Nat → Nat) (f : Nat → Int) : fill n s f 0 = List.replicate n 0 := by
  unfold fill
  simp [List.map_const']
theorem fill_all (n : Nat) (s : Nat → Nat) (f : Nat → Int) (h : ∀ m, m < n → s m < n) : fill n s f n = (List.range n).map f := tab_congr _ _ _ (fun i hi => if_pos (h i hi))
theorem fill_set (n : Nat) (s : Nat → Nat) (f : Nat → Int) (i p : Nat) (hp : p < n) (hs : ∀ m, m < n → (s m = i ↔ m = p)) : (fill n s f i).set p (f p) = fill n s f (i + 1) := by
  apply ext_getD (by rw [List.length_set, fill_len, fill_len])
  intro j hj
  rw [List.length_set, fill_len] at hj
  rw [getD_set _ _ _ _ (by rw [fill_len]; exact hp)]
  unfold fill
  rw [getD_tab _ _ _ hj, getD_tab _ _ _ hj]
  have := hs j hj
  by_cases e : j = p
  · subst e
    rw [if_pos rfl, if_pos (by have := this.2 rfl; omega)]
  · rw [if_neg e]
    have hne : s j ≠ i := fun h => e (this.1 h)
    by_cases h : s j < i
    · rw [if_pos h, if_pos (by omega)]
    · rw [if_neg h, if_neg (by omega)]
theorem fill_set_id (n : Nat) (f : Nat → Int) (i : Nat) (hi : i < n) : (fill n id f i).set i (f i) = fill n id f (i + 1) := fill_set n id f i i hi (fun m _ => Iff.rfl)
theorem fill_all_id (n : Nat) (f : Nat → Int) : fill n id f n = (List.range n).map f := fill_all n id f (fun _ h => h)
/-! The laws' own helpers. -/
def szI (n : Nat) (left : Int) : Int := if left - (n : Int) < 0 then -1 else left - (n : Int)
theorem szIntS_eq (l : List Int) (left : Int) (h0 : 0 ≤ left) (h1 : left ≤ 1048576) (hl : l.length ≤ maxLen) : laws_szIntS.f l left = some (szI l.length left) := by
  unfold maxLen at hl
  unfold laws_szIntS.f szI
  rw [wid (left - (l.length : Int)) (by omega) (by omega)]
  split <;> rfl
theorem toIntS_ev (l : List Int) (hl : l.length ≤ 1048576) : Ev (fun k => laws_toIntS.f k l) l := by
  have key : ∀ d i : Nat, i + d = l.length → Ev (fun k => laws_toIntS.l0 k l (fill l.length id (fun j => l.getD j 0) i) (i : Int)) l := by
    intro d
    induction d with
    | zero =>
      intro i hi
      obtain rfl : i = l.length := by omega
      refine Ev.step (f := fun _ => some l) (fun k => ?_) (Ev.now _)
      simp only [laws_toIntS.l0]
      rw [if_neg (by omega), fill_all_id, tab_self]
    | succ d ih =>
      intro i hi
      refine Ev.step (fun k => ?_) (ih (i + 1) (by omega))
      simp only [laws_toIntS.l0]
      rw [if_pos (by omega), if_pos (by omega), fill_len, if_pos (by omega), wsucc i (by omega), rd_nat, Int.toNat_natCast, fill_set_id _ _ _ (by omega)]
  refine Ev.congr (fun k => ?_) (key l.length 0 (by omega))
  unfold laws_toIntS.f
  rw [if_pos (by omega), if_pos (by omega), Int.toNat_natCast, fill_zero]
  rfl
theorem eqIntS_ev (a b : List Int) (ha : a.length ≤ 1048576) : Ev (fun k => laws_eqIntS.f k a b) (decide (a = b)) := by
  by_cases hl : a.length = b.length
  · have key : ∀ d i : Nat, i + d = a.length → (∀ j, j < i → a.getD j 0 = b.getD j 0) → Ev (fun k => laws_eqIntS.l0 k a b (i : Int)) (decide (a = b)) := by
      intro d
      induction d with
      | zero =>
        intro i hi hj
        have : a = b := ext_getD hl (fun j h => hj j (by omega))
        rw [decide_eq_true this]
        refine Ev.step (f := fun _ => some true) (fun k => ?_) (Ev.now _)
        simp only [laws_eqIntS.l0]
        rw [if_neg (by omega)]
      | succ d ih =>
        intro i hi hj
        by_cases e : a.getD i 0 = b.getD i 0
        · refine Ev.step (fun k => ?_) (ih (i + 1) (by omega) (fun j h => if hji : j = i then hji ▸ e else hj j (by omega)))
          simp only [laws_eqIntS.l0]
          rw [if_pos (by omega), if_pos (by omega), if_pos (by omega), rd_nat, rd_nat, if_pos e, wsucc i (by omega)]
        · rw [decide_eq_false (fun h => e (by rw [h]))]
          refine Ev.step (f := fun _ => some false) (fun k => ?_) (Ev.now _)
          simp only [laws_eqIntS.l0]
          rw [if_pos (by omega), if_pos (by omega), if_pos (by omega), rd_nat, rd_nat, if_neg e]
    refine Ev.congr (fun k => ?_) (key a.length 0 (by omega) (fun j h => absurd h (by omega)))
    unfold laws_eqIntS.f
    rw [if_pos (by omega)]
    rfl
  · rw [decide_eq_false (fun h => hl (by rw [h]))]
    refine Ev.congr (fun k => ?_) (Ev.now _)
    unfold laws_eqIntS.f
    rw [if_neg (by omega)]
/-- The list that marking leaves. -/
def marks (n : Nat) (x : Int) : List Int := (List.range n).map fun (j : Nat) => x + (j : Int)
theorem marks_len (n : Nat) (x : Int) : (marks n x).length = n := len_tab _ _
def marking (l : List Int) (x : Int) (i : Nat) : List Int := (List.range l.length).map fun m => if m < i then x + (m : Int) else l.getD m 0
theorem marking_zero (l : List Int) (x : Int) : marking l x 0 = l := by
  unfold marking
  simp only [Nat.not_lt_zero, if_false]
  exact tab_self l
theorem marking_all (l : List Int) (x : Int) : marking l x l.length = marks l.length x := tab_congr _ _ _ (fun i hi => if_pos hi)
theorem marking_len (l : List Int) (x : Int) (i : Nat) : (marking l x i).length = l.length := len_tab _ _
theorem marking_set (l : List Int) (x : Int) (i : Nat) (hi : i < l.length) : (marking l x i).set i (x + (i : Int)) = marking l x (i + 1) := by
  apply ext_getD (by rw [List.length_set, marking_len, marking_len])
  intro j hj
  rw [List.length_set, marking_len] at hj
  rw [getD_set _ _ _ _ (by rw [marking_len]; exact hi)]
  unfold marking
  rw [getD_tab _ _ _ hj, getD_tab _ _ _ hj]
  by_cases e : j = i
  · subst e
    rw [if_pos rfl, if_pos (by omega)]
  · rw [if_neg e]
    by_cases h : j < i
    · rw [if_pos h, if_pos (by omega)]
    · rw [if_neg h, if_neg (by omega)]
theorem markIntS_ev (l : List Int) (x : Int) (hl : l.length ≤ 1048576) (h0 : 0 ≤ x) (h1 : x ≤ 1073741824) : Ev (fun k => laws_markIntS.f k l x) (x + (l.length : Int), marks l.length x) := by
  have key : ∀ d i : Nat, i + d = l.length → Ev (fun k => laws_markIntS.l0 k (marking l x i) (x + (i : Int)) (i : Int)) (x + (l.length : Int), marks l.length x) := by
    intro d
    induction d with
    | zero =>
      intro i hi
      obtain rfl : i = l.length := by omega
      refine Ev.step (f := fun _ => some (x + (l.length : Int), marks l.length x)) (fun k => ?_) (Ev.now _)
      simp only [laws_markIntS.l0]
      rw [marking_len, if_neg (by omega), marking_all]
    | succ d ih =>
      intro i hi
      refine Ev.step (fun k => ?_) (ih (i + 1) (by omega))
      simp only [laws_markIntS.l0]
      rw [marking_len, if_pos (by omega), if_pos (by omega), wsucc i (by omega), Int.toNat_natCast, marking_set _ _ _ (by omega), wid (x + (i : Int) + 1) (by omega) (by omega)]
      rw [show x + (i : Int) + 1 = x + ((i + 1 : Nat) : Int) by omega]
  refine Ev.congr (fun k => ?_) (key l.length 0 (by omega))
  unfold laws_markIntS.f
  rw [marking_zero]
  simp
theorem heldIntS_ev (n : Nat) (x : Int) (hl : n ≤ 1048576) (h0 : 0 ≤ x) (h1 : x ≤ 1073741824) : Ev (fun k => laws_heldIntS.f k (marks n x) x) (x + (n : Int)) := by
  have key : ∀ d i : Nat, i + d = n → Ev (fun k => laws_heldIntS.l0 k (marks n x) (x + (i : Int)) (i : Int)) (x + (n : Int)) := by
    intro d
    induction d with
    | zero =>
      intro i hi
      obtain rfl : i = n := by omega
      refine Ev.step (f := fun _ => some (x + (i : Int))) (fun k => ?_) (Ev.now _)
      simp only [laws_heldIntS.l0]
      rw [marks_len, if_neg (by omega)]
    | succ d ih =>
      intro i hi
      refine Ev.step (fun k => ?_) (ih (i + 1) (by omega))
      simp only [laws_heldIntS.l0]
      have hr : rd (marks n x) (i : Int) = x + (i : Int) := by rw [rd_nat]; unfold marks; rw [getD_tab _ _ _ (by omega)]
      rw [marks_len, if_pos (by omega), if_pos (by omega), hr, if_pos rfl, wsucc i (by omega), wid (x + (i : Int) + 1) (by omega) (by omega)]
      rw [show x + (i : Int) + 1 = x + ((i + 1 : Nat) : Int) by omega]
  refine Ev.congr (fun k => ?_) (key n 0 (by omega))
  unfold laws_heldIntS.f
  simp
theorem Ev_pos {α : Type} {c : Prop} [Decidable c] {f g : Nat → Option α} {r : α} (hc : c) (h : Ev f r) : Ev (fun k => if c then f k else g k) r := Ev.congr (fun k => if_pos hc) h
theorem Ev_neg {α : Type} {c : Prop} [Decidable c] {f g : Nat → Option α} {r : α} (hc : ¬ c) (h : Ev g r) : Ev (fun k => if c then f k else g k) r := Ev.congr (fun k => if_neg hc) h
/-! The reference's pictures. -/
theorem l1In_eq (x a b : Int) : spec_l1In.f x a b = some (decide (a ≤ x ∧ x ≤ b)) := by
  unfold spec_l1In.f
  by_cases h : x ≥ a
  · rw [if_pos h]
    congr 1
    rw [decide_eq_decide]
    omega
  · rw [if_neg h, decide_eq_false (by omega)]
theorem l1Size_eq (a0 a1 : Int) : spec_l1Size.f a0 a1 = some (sizedB a0 a1) := by
  unfold spec_l1Size.f sizedB
  rw [l1In_eq, Option.bind_some]
  by_cases h0 : 1 ≤ a0 ∧ a0 ≤ 64
  · rw [decide_eq_true h0, if_pos rfl, l1In_eq, Option.bind_some]
    by_cases h1 : 1 ≤ a1 ∧ a1 ≤ 64
    · rw [decide_eq_true h1, if_pos rfl]
      have e0 : 0 ≤ a0 * a1 := Int.mul_nonneg (by omega) (by omega)
      have e1 : a0 * a1 ≤ 64 * 64 := Int.le_trans (Int.mul_le_mul_of_nonneg_right h0.2 (by omega)) (Int.mul_le_mul_of_nonneg_left h1.2 (by omega))
      rw [wid (a0 * a1) (by omega) (by omega)]
      congr 1
      rw [decide_eq_decide]
      exact ⟨fun h => ⟨h0.1, h0.2, h1.1, h1.2, h⟩, fun h => h.2.2.2.2⟩
    · rw [decide_eq_false h1, if_neg (by simp), decide_eq_false (fun h => h1 ⟨h.2.2.1, h.2.2.2.1⟩)]
  · rw [decide_eq_false h0, if_neg (by simp), decide_eq_false (fun h => h0 ⟨h.1, h.2.1⟩)]
theorem l1Up_ev (w h : Int) (l : List Int) (m : Int) (hl : l.length ≤ 1048576) : Ev (fun k => spec_l1Up.f k w h l m) (picB w h l m) := by
  have key : ∀ d i : Nat, i + d = l.length → Ev (fun k => spec_l1Up.l0 k m l (l.length : Int) (i : Int)) ((l.drop i).all fun n => decide (0 ≤ n ∧ n ≤ m)) := by
    intro d
    induction d with
    | zero =>
      intro i hi
      rw [List.drop_eq_nil_of_le (by omega)]
      refine Ev.step (f := fun _ => some true) (fun k => ?_) (Ev.now _)
      simp only [spec_l1Up.l0]
      rw [if_neg (by omega)]
    | succ d ih =>
      intro i hi
      rw [List.drop_eq_getElem_cons (by omega), List.all_cons]
      have hr : rd l (i : Int) = l[i] := by rw [rd_nat, getD_of_lt]
      by_cases e : 0 ≤ l[i] ∧ l[i] ≤ m
      · rw [decide_eq_true e, Bool.true_and]
        refine Ev.step (fun k => ?_) (ih (i + 1) (by omega))
        simp only [spec_l1Up.l0]
        rw [if_pos (by omega), if_pos (by omega), if_pos (by omega), l1In_eq, Option.bind_some, hr, decide_eq_true e, if_pos rfl, wsucc i (by omega)]
      · rw [decide_eq_false e, Bool.false_and]
        refine Ev.step (f := fun _ => some false) (fun k => ?_) (Ev.now _)
        simp only [spec_l1Up.l0]
        rw [if_pos (by omega), if_pos (by omega), if_pos (by omega), l1In_eq, Option.bind_some, hr, decide_eq_false e, if_neg (by simp)]
  unfold spec_l1Up.f picB
  rw [l1Size_eq]
  simp only [Option.bind_some]
  cases hs : sizedB w h with
  | false =>
    simp only [Bool.false_and]
    refine Ev.step (f := fun _ => some false) (fun k => ?_) (Ev.now _)
    rw [if_neg (by simp)]
    simp only [spec_l1Up.j0]
    rw [if_pos trivial]
  | true =>
    obtain ⟨h0, h1, h2, h3, h4⟩ := sized_spec hs
    have e0 : 0 ≤ w * h := Int.mul_nonneg (by omega) (by omega)
    rw [wid (w * h) (by omega) (by omega)]
    simp only [Bool.true_and, if_true]
    by_cases e : (l.length : Int) = w * h
    · rw [decide_eq_true e, Bool.true_and]
      refine Ev.step (fun k => ?_) (key l.length 0 (by omega))
      simp only [spec_l1Up.j0]
      rw [if_neg (by simp [e])]
      rfl
    · rw [decide_eq_false e, Bool.false_and]
      refine Ev.step (f := fun _ => some false) (fun k => ?_) (Ev.now _)
      simp only [spec_l1Up.j0]
      rw [if_pos (by simp [e])]
theorem specIsPicture_ev (w h : Int) (l : List Int) (hl : l.length ≤ 1048576) : Ev (fun k => spec_IsPicture.f k w h l) (picB w h l 255) := by
  unfold spec_IsPicture.f
  exact Ev.bind (l1Up_ev w h l 255 hl) (Ev.now _)
theorem l1Empty_eq (w h : Int) (hs : sizedB w h = true) : spec_l1Empty.f w h = some (w, h, List.replicate (h.toNat * w.toNat) 0) := by
  obtain ⟨h0, h1, h2, h3, h4⟩ := sized_spec hs
  have e0 : 0 ≤ w * h := Int.mul_nonneg (by omega) (by omega)
  unfold spec_l1Empty.f
  rw [wid (w * h) (by omega) (by omega), if_pos e0, if_pos (by omega)]
  have : (w * h).toNat = h.toNat * w.toNat := by rw [Int.toNat_mul (by omega) (by omega), Nat.mul_comm]
  rw [this]
theorem gridL_tab (w : Int) (f : Int → Int → Int) (n : Nat) : gridL w f n = (List.range n).map fun i => cellAt w f i := rfl
theorem area_eq {w h : Int} (h0 : 0 ≤ w) (h1 : 0 ≤ h) : ((h.toNat * w.toNat : Nat) : Int) = w * h := by
  rw [Int.natCast_mul, Int.toNat_of_nonneg h0, Int.toNat_of_nonneg h1, Int.mul_comm]
theorem cell_bd {w h : Int} (i : Nat) (h0 : 0 < w) (h1 : 0 < h) (hi : (i : Int) < w * h) : 0 ≤ (i : Int) % w ∧ (i : Int) % w < w ∧ 0 ≤ (i : Int) / w ∧ (i : Int) / w < h ∧ (i : Int) / w * w + (i : Int) % w = i := by
  refine ⟨Int.emod_nonneg _ (by omega), Int.emod_lt_of_pos _ h0, Int.ediv_nonneg (by omega) (by omega), ?_, ?_⟩
  · exact Int.ediv_lt_of_lt_mul h0 (by rw [Int.mul_comm]; exact hi)
  · have := Int.mul_ediv_add_emod (i : Int) w
    rw [Int.mul_comm] at this
    exact this
/-! The laws' helpers on pictures. -/
theorem szPic_ok (w h : Int) (l : List Int) (left : Int) (h0 : 0 ≤ left) (h1 : left ≤ 1048576) (hl : (l.length : Int) ≤ left) : laws_szPicture.f w h l left = some (left - (l.length : Int)) := by
  unfold laws_szPicture.f
  rw [szIntS_eq l left h0 h1 (by unfold maxLen; omega)]
  unfold szI
  rw [if_neg (by omega), Option.bind_some, if_neg (by omega)]
theorem szPic_big (w h : Int) (l : List Int) (left : Int) (h0 : 0 ≤ left) (h1 : left ≤ 1048576) (hm : l.length ≤ maxLen) (hl : ¬ (l.length : Int) ≤ left) : laws_szPicture.f w h l left = some (-1) := by
  unfold laws_szPicture.f
  rw [szIntS_eq l left h0 h1 hm]
  unfold szI
  rw [if_pos (by omega), Option.bind_some, if_pos (by omega)]
theorem toPic_ev (w h : Int) (l : List Int) (hl : l.length ≤ 1048576) : Ev (fun k => laws_toPicture.f k w h l) (w, h, l) := by
  unfold laws_toPicture.f
  exact Ev.bind (toIntS_ev l hl) (Ev.now _)
theorem eqPic_ev (w h : Int) (l : List Int) (w2 h2 : Int) (l2 : List Int) (hl : l.length ≤ 1048576) : Ev (fun k => laws_eqPicture.f k w h l w2 h2 l2) (decide (w = w2 ∧ h = h2 ∧ l = l2)) := by
  unfold laws_eqPicture.f
  by_cases e1 : w = w2
  · simp only [if_pos e1]
    by_cases e2 : h = h2
    · simp only [if_pos e2]
      refine Ev.bind (eqIntS_ev l l2 hl) ?_
      by_cases e3 : l = l2
      · rw [decide_eq_true e3, decide_eq_true ⟨e1, e2, e3⟩]
        exact Ev.now _
      · rw [decide_eq_false e3, decide_eq_false (fun h => e3 h.2.2)]
        exact Ev.now _
    · simp only [if_neg e2]
      rw [decide_eq_false (fun h => e2 h.2.1)]
      exact Ev.now _
  · simp only [if_neg e1]
    rw [decide_eq_false (fun h => e1 h.1)]
    exact Ev.now _
theorem eqPic_self (w h : Int) (l : List Int) (hl : l.length ≤ 1048576) : Ev (fun k => laws_eqPicture.f k w h l w h l) true := by
  have := eqPic_ev w h l w h l hl
  rwa [decide_eq_true ⟨rfl, rfl, rfl⟩] at this
theorem markPic_ev (w h : Int) (l : List Int) (x : Int) (hl : l.length ≤ 1048576) (h0 : 0 ≤ x) (h1 : x ≤ 1073741824) : Ev (fun k => laws_markPicture.f k w h l x) (x + (l.length : Int), marks l.length x) := by
  unfold laws_markPicture.f
  exact Ev.bind (markIntS_ev l x hl h0 h1) (Ev.now _)
theorem heldPic_ev (w h : Int) (n : Nat) (x : Int) (hl : n ≤ 1048576) (h0 : 0 ≤ x) (h1 : x ≤ 1073741824) : Ev (fun k => laws_heldPicture.f k w h (marks n x) x) (x + (n : Int)) := by
  unfold laws_heldPicture.f
  refine Ev.bind (heldIntS_ev n x hl h0 h1) ?_
  rw [if_neg (by omega)]
  exact Ev.now _
theorem l1Pair_ev (w h : Int) (l : List Int) (w2 h2 : Int) (l2 : List Int) (hl : l.length ≤ 1048576) (hl2 : l2.length ≤ 1048576) : Ev (fun k => spec_l1Pair.f k w h l w2 h2 l2) (alikeB w h l w2 h2 l2) := by
  unfold spec_l1Pair.f alikeB
  refine Ev.bind (specIsPicture_ev w h l hl) ?_
  cases hp : picB w h l 255 with
  | false => simpa using Ev.now false
  | true =>
    refine Ev_pos rfl (Ev.bind (specIsPicture_ev w2 h2 l2 hl2) ?_)
    cases hp2 : picB w2 h2 l2 255 with
    | false => simpa using Ev.now false
    | true =>
      refine Ev_pos rfl ?_
      by_cases e : w = w2
      · refine Ev_pos e ?_
        subst e
        by_cases e2 : h = h2
        · rw [show (true && (true && decide (w = w ∧ h = h2))) = (h == h2) by simp [e2]]
          exact Ev.now _
        · rw [show (true && (true && decide (w = w ∧ h = h2))) = (h == h2) by simp [e2]]
          exact Ev.now _
      · refine Ev_neg e ?_
        simpa [e] using Ev.now false
/-! Pictures made from a picture. -/
theorem pic_len {w h : Int} {l : List Int} {m : Int} (hp : picB w h l m = true) : h.toNat * w.toNat = l.length := by
  obtain ⟨h0, h1, h2, h3, h4, h5, h6⟩ := pic_spec hp
  have := area_eq (w := w) (h := h) (by omega) (by omega)
  omega
theorem pic_small {w h : Int} {l : List Int} {m : Int} (hp : picB w h l m = true) : l.length ≤ 1024 := by
  obtain ⟨h0, h1, h2, h3, h4, h5, h6⟩ := pic_spec hp
  omega
/-! Sums round about. -/
theorem Ev_eq {α : Type} {x : Option α} {a : α} (h : x = some a) : Ev (fun _ => x) a := ⟨0, fun _ _ => h⟩
def sumQ (l m : List Int) (i : Nat) : Int := mn 255 (m.getD i 0 + l.getD i 0)
def sumQL (l m : List Int) : List Int := (List.range l.length).map (sumQ l m)
theorem sumQ_bd {w h : Int} {l m : List Int} (hp : picB w h l 255 = true) (hq : picB w h m 255 = true) (i : Nat) (hi : i < l.length) : l.getD i 0 ≤ sumQ l m i ∧ 0 ≤ sumQ l m i ∧ sumQ l m i ≤ 255 ∧ 0 ≤ m.getD i 0 + l.getD i 0 ∧ m.getD i 0 + l.getD i 0 ≤ 510 := by
  obtain ⟨_, _, _, _, _, h5, h6⟩ := pic_spec hp
  obtain ⟨_, _, _, _, _, g5, g6⟩ := pic_spec hq
  have a := h6 _ (getD_mem l i hi)
  have b := g6 _ (getD_mem m i (by omega))
  unfold sumQ mn
  split <;> omega
theorem alikeQ {w h : Int} {l m : List Int} (hp : picB w h l 255 = true) (hq : picB w h m 255 = true) : alikeB w h l w h m = true := by
  unfold alikeB
  rw [hp, hq, decide_eq_true ⟨rfl, rfl⟩]
  rfl
theorem specAddQ_ev {w h : Int} {l m : List Int} (hp : picB w h l 255 = true) (hq : picB w h m 255 = true) : Ev (fun k => spec_AddPictures.f k w h l w h m) (w, h, sumQL l m, true) := by
  have sl := pic_small hp
  have sm := pic_small hq
  obtain ⟨h0, h1, h2, h3, h4, h5, h6⟩ := pic_spec hp
  obtain ⟨_, _, _, _, _, g5, g6⟩ := pic_spec hq
  have hs : sizedB w h = true := decide_eq_true ⟨h0, h1, h2, h3, h4⟩
  unfold spec_AddPictures.f
  refine Ev.bind (l1Pair_ev w h l w h m (by omega) (by omega)) (Ev_pos (alikeQ hp hq) ?_)
  rw [l1Empty_eq w h hs, pic_len hp]
  simp only [Option.bind_some]
  unfold sumQL
  have key : ∀ d i : Nat, i + d = l.length → Ev (fun k => spec_AddPictures.l0 k m (m.length : Int) (i : Int) w h l w h (fill l.length id (sumQ l m) i)) (w, h, (List.range l.length).map (sumQ l m), true) := by
    intro d
    induction d with
    | zero =>
      intro i hi
      obtain rfl : i = l.length := by omega
      refine Ev.step (fun k => by rw [spec_AddPictures.l0]) ?_
      rw [fill_all_id]
      exact Ev_neg (by omega) (Ev.now _)
    | succ d ih =>
      intro i hi
      have hb := sumQ_bd hp hq i (by omega)
      have nx := ih (i + 1) (by omega)
      rw [← fill_set_id _ (sumQ l m) i (by omega), ← wsucc i (by omega)] at nx
      refine Ev.step (fun k => by rw [spec_AddPictures.l0]) (Ev_pos (by omega) (Ev_pos (by omega) (Ev_pos (by omega) (Ev_pos (by omega) (Ev_pos (by rw [fill_len]; omega) ?_)))))
      rw [rd_nat, rd_nat, wid (m.getD i 0 + l.getD i 0) (by omega) (by omega), Int.toNat_natCast]
      exact nx
  have := key l.length 0 (by omega)
  rw [fill_zero] at this
  exact this
theorem addQ_eq {w h : Int} {l m : List Int} (hp : picB w h l 255 = true) : gridL w (fun x y => impl_AddPictures.amount l m (y * w + x)) (h.toNat * w.toNat) = sumQL l m := by
  obtain ⟨h0, h1, h2, h3, h4, h5, h6⟩ := pic_spec hp
  unfold sumQL
  rw [pic_len hp, gridL_tab]
  refine tab_congr _ _ _ (fun i hi => ?_)
  obtain ⟨b0, b1, b2, b3, b4⟩ := cell_bd (w := w) (h := h) i (by omega) (by omega) (by omega)
  show impl_AddPictures.amount l m ((i : Int) / w * w + (i : Int) % w) = sumQ l m i
  rw [b4]
  unfold impl_AddPictures.amount sumQ mn
  rw [rd_nat, rd_nat, Int.add_comm]
theorem AddPictures_same (w h : Int) (l : List Int) (w2 h2 : Int) (l2 : List Int) (hl : l.length ≤ 1048576) (hl2 : l2.length ≤ 1048576) : ∃ (x y : Int) (L : List Int) (b : Bool), L.length ≤ 1048576 ∧ Ev (fun k => spec_AddPictures.f k w h l w2 h2 l2) (x, y, L, b) ∧ Ev (fun k => impl_AddPictures.f w h l w2 h2 l2) (x, y, L, b) := by
  by_cases ha : alikeB w h l w2 h2 l2 = true
  · obtain ⟨p1, p2, e1, e2⟩ := alike_spec ha
    subst e1
    subst e2
    refine ⟨_, _, sumQL l l2, true, ?_, specAddQ_ev p1 p2, Ev_eq ((if_pos ha).trans ?_)⟩
    · unfold sumQL
      rw [len_tab]
      exact hl
    · rw [addQ_eq p1]
  · refine ⟨0, 0, [], false, Nat.zero_le _, ?_, Ev_eq (if_neg ha)⟩
    unfold spec_AddPictures.f
    exact Ev.bind (l1Pair_ev w h l w2 h2 l2 hl hl2) (Ev_neg ha (Ev.now _))
/-- The law FnExactAddPictures: the program's AddPictures answers what the reference's answers. -/
theorem FnExactAddPictures (a0_0 a0_1 : Int) (l0_2 : List Int) (a1_0 a1_1 : Int) (l1_2 : List Int) (h0_ : (Lit.int .i64 a0_0).wf = true) (h1_ : (Lit.int .i64 a0_1).wf = true) (h2_ : l0_2.length ≤ maxLen) (h3_ : (∀ x ∈ l0_2, (Lit.int .i64 x).wf = true)) (h4_ : (Lit.int .i64 a1_0).wf = true) (h5_ : (Lit.int .i64 a1_1).wf = true) (h6_ : l1_2.length ≤ maxLen) (h7_ : (∀ x ∈ l1_2, (Lit.int .i64 x).wf = true)) :
    ∃ k, P.laws_FnExactAddPictures.f k a0_0 a0_1 l0_2 a1_0 a1_1 l1_2 = some true := by
  refine Ev.rounds ?_
  unfold laws_FnExactAddPictures.f
  by_cases hl0 : (l0_2.length : Int) ≤ 1048576
  · rw [szPic_ok a0_0 a0_1 l0_2 (1048576) (by omega) (by omega) hl0]
    simp only [Option.bind_some]
    refine Ev_neg (by omega) ?_
    by_cases hl1 : (l1_2.length : Int) ≤ 1048576 - (l0_2.length : Int)
    · rw [szPic_ok a1_0 a1_1 l1_2 (1048576 - (l0_2.length : Int)) (by omega) (by omega) hl1]
      simp only [Option.bind_some]
      refine Ev_neg (by omega) ?_
      obtain ⟨x, y, L, b, HL, HS, HI⟩ := AddPictures_same a0_0 a0_1 l0_2 a1_0 a1_1 l1_2 (by omega) (by omega)
      repeat (first
        | exact Ev.now _
        | (refine Ev.bind HS ?_; try dsimp only)
        | (refine Ev.bind HI ?_; try dsimp only)
        | (refine Ev.bind (toPic_ev _ _ _ (by first | assumption | omega | (rw [List.length_map]; omega))) ?_; try dsimp only)
        | (refine Ev.bind (eqPic_self _ _ _ (by first | assumption | omega | (rw [List.length_map]; omega))) ?_; try dsimp only)
        | (refine Ev.bind (markPic_ev _ _ _ _ (by first | assumption | omega | (rw [List.length_map]; omega)) (by omega) (by omega)) ?_; try dsimp only)
        | (refine Ev.bind (heldPic_ev _ _ _ _ (by first | assumption | omega | (rw [List.length_map]; omega)) (by omega) (by omega)) ?_; try dsimp only)
        | (refine Ev_pos (by first | rfl | omega) ?_)
        | (refine Ev_neg (by first | omega | simp) ?_)
        | (refine Ev.step (fun k => by rw [laws_FnExactAddPictures.j0]) ?_)
        | (refine Ev.step (fun k => by rw [laws_FnExactAddPictures.j1]) ?_)
        | (refine Ev.step (fun k => by rw [laws_FnExactAddPictures.j2]) ?_))
    · rw [szPic_big a1_0 a1_1 l1_2 (1048576 - (l0_2.length : Int)) (by omega) (by omega) h6_ hl1]
      simp only [Option.bind_some]
      exact Ev.now _
  · rw [szPic_big a0_0 a0_1 l0_2 (1048576) (by omega) (by omega) h2_ hl0]
    simp only [Option.bind_some]
    exact Ev.now _
end Go.Proofs.Ytndnklicfibkeaa.Q
