/- The law FnExactSpreadOf: the program's SpreadOf answers what the reference's answers. -/
import Derived.Test.YtdlehfnlibddcaaFimplCellsBelow
import Derived.Test.YtdlehfnlibddcaaFimplIsMatrix
import Derived.Test.YtdlehfnlibddcaaFimplSpreadOf
import Derived.Test.YtdlehfnlibddcaaFimplcelled
import Derived.Test.YtdlehfnlibddcaaFimplfarness
import Derived.Test.YtdlehfnlibddcaaFimplmod
import Derived.Test.YtdlehfnlibddcaaFlawsFnExactSpreadOf
import Derived.Test.YtdlehfnlibddcaaFlawseqIntS
import Derived.Test.YtdlehfnlibddcaaFlawseqMatrix
import Derived.Test.YtdlehfnlibddcaaFlawsszIntS
import Derived.Test.YtdlehfnlibddcaaFlawsszMatrix
import Derived.Test.YtdlehfnlibddcaaFlawstoIntS
import Derived.Test.YtdlehfnlibddcaaFlawstoMatrix
import Derived.Test.YtdlehfnlibddcaaFpre
import Derived.Test.YtdlehfnlibddcaaFspecCellsBelow
import Derived.Test.YtdlehfnlibddcaaFspecIsMatrix
import Derived.Test.YtdlehfnlibddcaaFspecSpreadOf
import Derived.Test.YtdlehfnlibddcaaFspecl1Empty
import Derived.Test.YtdlehfnlibddcaaFspecl1In
import Derived.Test.YtdlehfnlibddcaaFspecl1Size
import Derived.Test.YtdlehfnlibddcaaFspecl2Far
import Derived.Test.YtdlehfnlibddcaaFspecl2Mod
import Derived.Test.YtdlehfnlibddcaaFspecl2Round
import Derived.Test.YtdlehfnlibddcaaFspecl2Shape
import Derived.Test.YtdlehfnlibddcaaP0
namespace Go.Proofs.Ytdlehfnlibddcaa.Q
open Go.RowKit Go.Proofs.Ytdlehfnlibddcaa.P Go.Proofs.YtdlehfnlibddcaaW.PrintWords
set_option linter.unusedVariables false
set_option linter.unusedSimpArgs false
theorem wsucc (i : Nat) (h : i < 9223372036854775807) : wrap64 ((i : Int) + 1) = ((i + 1 : Nat) : Int) := by unfold wrap64; omega
theorem wid (x : Int) (h0 : -9223372036854775808 ≤ x) (h1 : x ≤ 9223372036854775807) : wrap64 x = x := by unfold wrap64; omega
theorem rd_nat (l : List Int) (i : Nat) : rd l (i : Int) = l.getD i 0 := by unfold rd; rw [Int.toNat_natCast]
theorem getD_of_lt {α : Type} (l : List α) (d : α) (i : Nat) (h : i < l.length) : l.getD i d = l[i] := by simp [List.getD_eq_getElem?_getD, List.getElem?_eq_getElem h]
theorem ext_getD {a b : List Int} (hl : a.length = b.length) (h : ∀ i, i < a.length → a.getD i 0 = b.getD i 0) : a = b := by
  apply List.ext_getElem hl
  intro i h1 h2
  have := h i h1
  rwa [getD_of_lt a 0 i h1, getD_of_lt b 0 i h2] at this
theorem getD_set (l : List Int) (i j : Nat) (x : Int) (hi : i < l.length) : (l.set i x).getD j 0 = if j = i then x else l.getD j 0 := by
  simp only [List.getD_eq_getElem?_getD, List.getElem?_set]
  by_cases h : i = j
  · subst h; simp [hi]
  · rw [if_neg h, if_neg (fun e => h e.symm)]
theorem getD_tab (n : Nat) (f : Nat → Int) (j : Nat) (h : j < n) : ((List.range n).map f).getD j 0 = f j := by
  simp [List.getD_eq_getElem?_getD, List.getElem?_map, List.getElem?_range h]
theorem len_tab (n : Nat) (f : Nat → Int) : ((List.range n).map f).length = n := by simp
theorem tab_congr (n : Nat) (f g : Nat → Int) (h : ∀ i, i < n → f i = g i) : (List.range n).map f = (List.range n).map g :=
  List.map_congr_left (fun i hi => h i (List.mem_range.1 hi))
theorem tab_self (l : List Int) : (List.range l.length).map (fun i => l.getD i 0) = l := by
  apply ext_getD (by simp)
  intro i hi
  rw [len_tab] at hi
  rw [getD_tab _ _ _ hi]
/-- A table that is filled place by place: after i rounds those whose round has been are told, the others are 0. -/
def fill (n : Nat) (s : Nat → Nat) (f : Nat → Int) (i : Nat) : List Int := (List.range n).map fun m => if s m < i then f m else 0
theorem fill_len (n : Nat) (s : Nat → Nat) (f : Nat → Int) (i : Nat) : (fill n s f i).length = n := len_tab _ _
theorem fill_zero (n : Nat) (s : Nat → Nat) (f : Nat → Int) : fill n s f 0 = List.replicate n 0 := by
  unfold fill
  simp [List.map_const']
theorem fill_all (n : Nat) (s : Nat → Nat) (f : Nat → Int) (h : ∀ m, m < n → s m < n) : fill n s f n = (List.range n).map f := tab_congr _ _ _ (fun i hi => if_pos (h i hi))
theorem fill_set (n : Nat) (s : Nat → Nat) (f : Nat → Int) (i p : Nat) (hp : p < n) (hs : ∀ m, m < n → (s m = i ↔ m = p)) : (fill n s f i).set p (f p) = fill n s f (i + 1) := by
  apply ext_getD (by rw [List.length_set, fill_len, fill_len])
  intro j hj
  rw [List.length_set, fill_len] at hj
  rw [getD_set _ _ _ _ (by rw [fill_len]; exact hp)]
  unfold fill
  rw [getD_tab _ _ _ hj, getD_tab _ _ _ hj]
  have := hs j hj
  by_cases e : j = p
  · subst e
    rw [if_pos rfl, if_pos (by have := this.2 rfl; omega)]
  · rw [if_neg e]
    have hne : s j ≠ i := fun h => e (this.1 h)
    by_cases h : s j < i
    · rw [if_pos h, if_pos (by omega)]
    · rw [if_neg h, if_neg (by omega)]
theorem fill_set_id (n : Nat) (f : Nat → Int) (i : Nat) (hi : i < n) : (fill n id f i).set i (f i) = fill n id f (i + 1) := fill_set n id f i i hi (fun m _ => Iff.rfl)
theorem fill_all_id (n : Nat) (f : Nat → Int) : fill n id f n = (List.range n).map f := fill_all n id f (fun _ h => h)
/-! The laws' own helpers. -/
def szI (n : Nat) (left : Int) : Int := if left - (n : Int) < 0 then -1 else left - (n : Int)
theorem szIntS_eq (l : List Int) (left : Int) (h0 : 0 ≤ left) (h1 : left ≤ 1048576) (hl : l.length ≤ maxLen) : laws_szIntS.f l left = some (szI l.length left) := by
  unfold maxLen at hl
  unfold laws_szIntS.f szI
  rw [wid (left - (l.length : Int)) (by omega) (by omega)]
  split <;> rfl
theorem toIntS_ev (l : List Int) (hl : l.length ≤ 1048576) : Ev (fun k => laws_toIntS.f k l) l := by
  have key : ∀ d i : Nat, i + d = l.length → Ev (fun k => laws_toIntS.l0 k l (fill l.length id (fun j => l.getD j 0) i) (i : Int)) l := by
    intro d
    induction d with
    | zero =>
      intro i hi
      obtain rfl : i = l.length := by omega
      refine Ev.step (f := fun _ => some l) (fun k => ?_) (Ev.now _)
      simp only [laws_toIntS.l0]
      rw [if_neg (by omega), fill_all_id, tab_self]
    | succ d ih =>
      intro i hi
      refine Ev.step (fun k => ?_) (ih (i + 1) (by omega))
      simp only [laws_toIntS.l0]
      rw [if_pos (by omega), if_pos (by omega), fill_len, if_pos (by omega), wsucc i (by omega), rd_nat, Int.toNat_natCast, fill_set_id _ _ _ (by omega)]
  refine Ev.congr (fun k => ?_) (key l.length 0 (by omega))
  unfold laws_toIntS.f
  rw [if_pos (by omega), if_pos (by omega), Int.toNat_natCast, fill_zero]
  rfl
theorem eqIntS_ev (a b : List Int) (ha : a.length ≤ 1048576) : Ev (fun k => laws_eqIntS.f k a b) (decide (a = b)) := by
  by_cases hl : a.length = b.length
  · have key : ∀ d i : Nat, i + d = a.length → (∀ j, j < i → a.getD j 0 = b.getD j 0) → Ev (fun k => laws_eqIntS.l0 k a b (i : Int)) (decide (a = b)) := by
      intro d
      induction d with
      | zero =>
        intro i hi hj
        have : a = b := ext_getD hl (fun j h => hj j (by omega))
        rw [decide_eq_true this]
        refine Ev.step (f := fun _ => some true) (fun k => ?_) (Ev.now _)
        simp only [laws_eqIntS.l0]
        rw [if_neg (by omega)]
      | succ d ih =>
        intro i hi hj
        by_cases e : a.getD i 0 = b.getD i 0
        · refine Ev.step (fun k => ?_) (ih (i + 1) (by omega) (fun j h => if hji : j = i then hji ▸ e else hj j (by omega)))
          simp only [laws_eqIntS.l0]
          rw [if_pos (by omega), if_pos (by omega), if_pos (by omega), rd_nat, rd_nat, if_pos e, wsucc i (by omega)]
        · rw [decide_eq_false (fun h => e (by rw [h]))]
          refine Ev.step (f := fun _ => some false) (fun k => ?_) (Ev.now _)
          simp only [laws_eqIntS.l0]
          rw [if_pos (by omega), if_pos (by omega), if_pos (by omega), rd_nat, rd_nat, if_neg e]
    refine Ev.congr (fun k => ?_) (key a.length 0 (by omega) (fun j h => absurd h (by omega)))
    unfold laws_eqIntS.f
    rw [if_pos (by omega)]
    rfl
  · rw [decide_eq_false (fun h => hl (by rw [h]))]
    refine Ev.congr (fun k => ?_) (Ev.now _)
    unfold laws_eqIntS.f
    rw [if_neg (by omega)]
theorem Ev_pos {α : Type} {c : Prop} [Decidable c] {f g : Nat → Option α} {r : α} (hc : c) (h : Ev f r) : Ev (fun k => if c then f k else g k) r := Ev.congr (fun k => if_pos hc) h
theorem Ev_neg {α : Type} {c : Prop} [Decidable c] {f g : Nat → Option α} {r : α} (hc : ¬ c) (h : Ev g r) : Ev (fun k => if c then f k else g k) r := Ev.congr (fun k => if_neg hc) h
/-! The reference's pictures. -/
theorem l1In_eq (x a b : Int) : spec_l1In.f x a b = some (decide (a ≤ x ∧ x ≤ b)) := by
  unfold spec_l1In.f
  by_cases h : x ≥ a
  · rw [if_pos h]
    congr 1
    rw [decide_eq_decide]
    omega
  · rw [if_neg h, decide_eq_false (by omega)]
theorem l1Size_eq (a0 a1 : Int) : spec_l1Size.f a0 a1 = some (sizedB a0 a1) := by
  unfold spec_l1Size.f sizedB
  rw [l1In_eq, Option.bind_some]
  by_cases h0 : 1 ≤ a0 ∧ a0 ≤ 64
  · rw [decide_eq_true h0, if_pos rfl, l1In_eq, Option.bind_some]
    by_cases h1 : 1 ≤ a1 ∧ a1 ≤ 64
    · rw [decide_eq_true h1, if_pos rfl]
      have e0 : 0 ≤ a0 * a1 := Int.mul_nonneg (by omega) (by omega)
      have e1 : a0 * a1 ≤ 64 * 64 := Int.le_trans (Int.mul_le_mul_of_nonneg_right h0.2 (by omega)) (Int.mul_le_mul_of_nonneg_left h1.2 (by omega))
      rw [wid (a0 * a1) (by omega) (by omega)]
      congr 1
      rw [decide_eq_decide]
      exact ⟨fun h => ⟨h0.1, h0.2, h1.1, h1.2, h⟩, fun h => h.2.2.2.2⟩
    · rw [decide_eq_false h1, if_neg (by simp), decide_eq_false (fun h => h1 ⟨h.2.2.1, h.2.2.2.1⟩)]
  · rw [decide_eq_false h0, if_neg (by simp), decide_eq_false (fun h => h0 ⟨h.1, h.2.1⟩)]
theorem l1Empty_eq (w h : Int) (hs : sizedB w h = true) : spec_l1Empty.f w h = some (w, h, List.replicate (h.toNat * w.toNat) 0) := by
  obtain ⟨h0, h1, h2, h3, h4⟩ := sized_spec hs
  have e0 : 0 ≤ w * h := Int.mul_nonneg (by omega) (by omega)
  unfold spec_l1Empty.f
  rw [wid (w * h) (by omega) (by omega), if_pos e0, if_pos (by omega)]
  have : (w * h).toNat = h.toNat * w.toNat := by rw [Int.toNat_mul (by omega) (by omega), Nat.mul_comm]
  rw [this]
theorem gridL_tab (w : Int) (f : Int → Int → Int) (n : Nat) : gridL w f n = (List.range n).map fun i => cellAt w f i := rfl
theorem area_eq {w h : Int} (h0 : 0 ≤ w) (h1 : 0 ≤ h) : ((h.toNat * w.toNat : Nat) : Int) = w * h := by
  rw [Int.natCast_mul, Int.toNat_of_nonneg h0, Int.toNat_of_nonneg h1, Int.mul_comm]
theorem tdiv_nat (i : Nat) (w : Int) (h : 0 < w) : Int.tdiv (i : Int) w = (i : Int) / w := Int.tdiv_eq_ediv_of_nonneg (by omega)
theorem tmod_nat (i : Nat) (w : Int) : Int.tmod (i : Int) w = (i : Int) % w := Int.tmod_eq_emod_of_nonneg (by omega)
theorem cell_bd {w h : Int} (i : Nat) (h0 : 0 < w) (h1 : 0 < h) (hi : (i : Int) < w * h) : 0 ≤ (i : Int) % w ∧ (i : Int) % w < w ∧ 0 ≤ (i : Int) / w ∧ (i : Int) / w < h ∧ (i : Int) / w * w + (i : Int) % w = i := by
  refine ⟨Int.emod_nonneg _ (by omega), Int.emod_lt_of_pos _ h0, Int.ediv_nonneg (by omega) (by omega), ?_, ?_⟩
  · exact Int.ediv_lt_of_lt_mul h0 (by rw [Int.mul_comm]; exact hi)
  · have := Int.mul_ediv_add_emod (i : Int) w
    rw [Int.mul_comm] at this
    exact this
theorem grid_map (w : Int) (g : Int → Int) (l : List Int) (n : Nat) (hn : l.length = n) (h0 : 0 < w) : gridL w (fun x y => g (rd l (y * w + x))) n = l.map g := by
  subst hn
  rw [gridL_tab]
  have : l.map g = ((List.range l.length).map (fun i => l.getD i 0)).map g := by rw [tab_self]
  rw [this, List.map_map]
  refine List.map_congr_left (fun i hi => ?_)
  show g (rd l ((i : Int) / w * w + (i : Int) % w)) = g (l.getD i 0)
  have := Int.mul_ediv_add_emod (i : Int) w
  rw [Int.mul_comm] at this
  rw [this, rd_nat]
/-! The laws' helpers on matrices. -/
theorem szMat_ok (w h : Int) (l : List Int) (left : Int) (h0 : 0 ≤ left) (h1 : left ≤ 1048576) (hl : (l.length : Int) ≤ left) : laws_szMatrix.f w h l left = some (left - (l.length : Int)) := by
  unfold laws_szMatrix.f
  rw [szIntS_eq l left h0 h1 (by unfold maxLen; omega)]
  unfold szI
  rw [if_neg (by omega), Option.bind_some, if_neg (by omega)]
theorem szMat_big (w h : Int) (l : List Int) (left : Int) (h0 : 0 ≤ left) (h1 : left ≤ 1048576) (hm : l.length ≤ maxLen) (hl : ¬ (l.length : Int) ≤ left) : laws_szMatrix.f w h l left = some (-1) := by
  unfold laws_szMatrix.f
  rw [szIntS_eq l left h0 h1 hm]
  unfold szI
  rw [if_pos (by omega), Option.bind_some, if_pos (by omega)]
theorem toMat_ev (w h : Int) (l : List Int) (hl : l.length ≤ 1048576) : Ev (fun k => laws_toMatrix.f k w h l) (w, h, l) := by
  unfold laws_toMatrix.f
  exact Ev.bind (toIntS_ev l hl) (Ev.now _)
theorem eqMat_ev (w h : Int) (l : List Int) (w2 h2 : Int) (l2 : List Int) (hl : l.length ≤ 1048576) : Ev (fun k => laws_eqMatrix.f k w h l w2 h2 l2) (decide (w = w2 ∧ h = h2 ∧ l = l2)) := by
  unfold laws_eqMatrix.f
  by_cases e1 : w = w2
  · simp only [if_pos e1]
    by_cases e2 : h = h2
    · simp only [if_pos e2]
      refine Ev.bind (eqIntS_ev l l2 hl) ?_
      by_cases e3 : l = l2
      · rw [decide_eq_true e3, decide_eq_true ⟨e1, e2, e3⟩]
        exact Ev.now _
      · rw [decide_eq_false e3, decide_eq_false (fun h => e3 h.2.2)]
        exact Ev.now _
    · simp only [if_neg e2]
      rw [decide_eq_false (fun h => e2 h.2.1)]
      exact Ev.now _
  · simp only [if_neg e1]
    rw [decide_eq_false (fun h => e1 h.1)]
    exact Ev.now _
theorem eqMat_self (w h : Int) (l : List Int) (hl : l.length ≤ 1048576) : Ev (fun k => laws_eqMatrix.f k w h l w h l) true := by
  have := eqMat_ev w h l w h l hl
  rwa [decide_eq_true ⟨rfl, rfl, rfl⟩] at this
/-! Matrices. -/
theorem l2Shape_eq (a b : Int) : spec_l2Shape.f a b = some (celledB a b) := by
  unfold spec_l2Shape.f celledB
  rw [l1In_eq, Option.bind_some]
  by_cases h0 : 1 ≤ a ∧ a ≤ 256
  · rw [decide_eq_true h0, if_pos rfl, l1In_eq, Option.bind_some]
    by_cases h1 : 1 ≤ b ∧ b ≤ 256
    · rw [decide_eq_true h1, if_pos rfl]
      have e0 : 0 ≤ a * b := Int.mul_nonneg (by omega) (by omega)
      have e1 : a * b ≤ 256 * 256 := Int.le_trans (Int.mul_le_mul_of_nonneg_right h0.2 (by omega)) (Int.mul_le_mul_of_nonneg_left h1.2 (by omega))
      rw [wid (a * b) (by omega) (by omega)]
      congr 1
      rw [decide_eq_decide]
      exact ⟨fun h => ⟨h0.1, h0.2, h1.1, h1.2, h⟩, fun h => h.2.2.2.2⟩
    · rw [decide_eq_false h1, if_neg (by simp), decide_eq_false (fun h => h1 ⟨h.2.2.1, h.2.2.2.1⟩)]
  · rw [decide_eq_false h0, if_neg (by simp), decide_eq_false (fun h => h0 ⟨h.1, h.2.1⟩)]
theorem specIsMatrix_ev (w h : Int) (l : List Int) (hl : l.length ≤ 1048576) : ∃ r : Bool, Ev (fun k => spec_IsMatrix.f k w h l) r ∧ Ev (fun _ => impl_IsMatrix.f w h l) r := by
  unfold spec_IsMatrix.f impl_IsMatrix.f
  rw [l2Shape_eq, impl_celled.eq]
  simp only [Option.bind_some]
  have bad : Ev (fun k => spec_IsMatrix.j0 k true w h l) false := by
    refine Ev.step (f := fun _ => some false) (fun k => ?_) (Ev.now _)
    simp only [spec_IsMatrix.j0, if_true]
  by_cases hc : celledB w h = true
  · by_cases hn : ((l.length : Int) != wrap64 (w * h)) = true
    · exact ⟨false, Ev_pos hc (by rw [hn]; exact bad), Ev_pos hc (Ev_pos hn (Ev.now _))⟩
    · rw [Bool.not_eq_true] at hn
      obtain ⟨h0, h1, h2, h3, h4⟩ := celled_spec hc
      have e0 : 0 ≤ w * h := Int.mul_nonneg (by omega) (by omega)
      have hln : (l.length : Int) = w * h := by
        have : (l.length : Int) = wrap64 (w * h) := by simpa using hn
        rw [this, wid (w * h) (by omega) (by omega)]
      have hsm : l.length ≤ 256 := by omega
      have key : ∀ (d i : Nat) (s : List Bool) (s2 : List Bool), i + d = l.length → s.length = l.length → s2.length = 256 → (∀ j, j < l.length → s.getD j false = s2.getD j false) → Ev (fun k => spec_IsMatrix.l0 k s l (l.length : Int) (i : Int) w h l) (seenB (l.drop i) (l.length : Int) s2) := by
        intro d
        induction d with
        | zero =>
          intro i s s2 hi hs hs2 he
          rw [List.drop_eq_nil_of_le (by omega)]
          refine Ev.step (fun k => by rw [spec_IsMatrix.l0]) ?_
          exact Ev_neg (by omega) (Ev.now true)
        | succ d ih =>
          intro i s s2 hi hs hs2 he
          have hr : rd l (i : Int) = l[i] := by rw [rd_nat, getD_of_lt]
          rw [List.drop_eq_getElem_cons (by omega)]
          unfold seenB
          refine Ev.step (fun k => by rw [spec_IsMatrix.l0]) ?_
          refine Ev_pos (by omega) (Ev_pos (by omega) (Ev_pos (by omega) ?_))
          rw [hr, wid ((l.length : Int) - 1) (by omega) (by omega), l1In_eq]
          simp only [Option.bind_some]
          generalize l[i] = x
          by_cases c : 0 ≤ x ∧ x ≤ (l.length : Int) - 1
          · refine Ev_pos (decide_eq_true c) (Ev_pos c.1 (Ev_pos (by omega) ?_))
            rw [if_neg (by omega), if_neg (by omega)]
            have hx := he x.toNat (by omega)
            have hrd : rdOf false s x = s2.getD x.toNat false := by rw [← hx]; rfl
            rw [hrd]
            by_cases b : s2.getD x.toNat false = true
            · rw [if_pos b]
              exact Ev_pos b (Ev.now _)
            · rw [if_neg b]
              refine Ev_neg b ?_
              rw [wsucc i (by omega)]
              refine ih (i + 1) _ _ (by omega) (by rw [List.length_set]; exact hs) (by rw [List.length_set]; exact hs2) (fun j hj => ?_)
              simp only [List.getD_eq_getElem?_getD, List.getElem?_set]
              have hj' := he j hj
              simp only [List.getD_eq_getElem?_getD] at hj'
              by_cases q : x.toNat = j
              · rw [if_pos q, if_pos q, if_pos (by omega), if_pos (by omega)]
              · rw [if_neg q, if_neg q]
                exact hj'
          · refine Ev_neg (by rw [decide_eq_false c]; simp) ?_
            by_cases c1 : x < 0
            · rw [if_pos c1]
              exact Ev.now _
            · rw [if_neg c1, if_pos (by omega)]
              exact Ev.now _
      refine ⟨seenB l (l.length : Int) (List.replicate 256 false), Ev_pos hc ?_, Ev_pos hc (Ev_neg (by rw [hn]; simp) (Ev.now _))⟩
      rw [hn]
      refine Ev.step (fun k => by rw [spec_IsMatrix.j0]) ?_
      refine Ev_neg (by simp) (Ev_pos (by omega) (Ev_pos (by omega) ?_))
      have := key l.length 0 (List.replicate l.length false) (List.replicate 256 false) (by omega) List.length_replicate List.length_replicate (fun j hj => by
        rw [getD_of_lt _ false j (by rw [List.length_replicate]; exact hj), getD_of_lt _ false j (by rw [List.length_replicate]; omega), List.getElem_replicate, List.getElem_replicate])
      rw [Int.toNat_natCast]
      exact this
  · exact ⟨false, Ev_neg hc bad, Ev_neg hc (Ev.now _)⟩
/-! Ranks. -/
theorem specMod_ev (x w : Int) (hw : 0 < w) (hw2 : w ≤ 1000000000000) : spec_l2Mod.f x w = some (x % w) := by
  have b0 := Int.emod_nonneg x (b := w) (by omega)
  have b1 := Int.emod_lt_of_pos x hw
  unfold spec_l2Mod.f
  rw [if_neg (by omega)]
  by_cases hx : 0 ≤ x
  · rw [Int.tmod_eq_emod_of_nonneg hx, if_neg (by omega)]
  · have e : Int.tmod x w = -((-x) % w) := by
      rw [← Int.tmod_eq_emod_of_nonneg (by omega : 0 ≤ -x), Int.neg_tmod, Int.neg_neg]
    have c0 := Int.emod_nonneg (-x) (b := w) (by omega)
    have c1 := Int.emod_lt_of_pos (-x) hw
    rw [e]
    have d1 := Int.mul_ediv_add_emod x w
    have d2 := Int.mul_ediv_add_emod (-x) w
    by_cases hz : (-x) % w = 0
    · rw [hz, if_neg (by omega)]
      have : x % w = 0 := Int.emod_eq_zero_of_dvd ((Int.dvd_neg.1 (Int.dvd_of_emod_eq_zero hz)))
      rw [this]
      rfl
    · rw [if_pos (by omega), wid _ (by omega) (by omega)]
      congr 1
      have e3 : w * (x / w) + w * (-x / w) = w * (x / w + -x / w) := (Int.mul_add _ _ _).symm
      have k1 : x / w + -x / w < 0 := by
        by_cases k : 0 ≤ x / w + -x / w
        · have := Int.mul_nonneg (by omega : 0 ≤ w) k
          omega
        · omega
      have k2 : -2 < x / w + -x / w := by
        by_cases k : x / w + -x / w ≤ -2
        · have := Int.mul_le_mul_of_nonneg_left k (by omega : 0 ≤ w)
          omega
        · omega
      rw [show x / w + -x / w = -1 by omega] at e3
      omega
theorem specIsMat_ev (w h : Int) (l : List Int) (hl : l.length ≤ 1048576) : Ev (fun k => spec_IsMatrix.f k w h l) (matB w h l) := by
  obtain ⟨r, h1, K, h2⟩ := specIsMatrix_ev w h l hl
  have := h2 K (Nat.le_refl _)
  rw [impl_IsMatrix.eq] at this
  rw [Option.some.inj this]
  exact h1
/-! Matrices reversed. -/
theorem mat_len {w h : Int} {l : List Int} (hm : matB w h l = true) : h.toNat * w.toNat = l.length := by
  obtain ⟨h0, h1, h2, h3, h4, h5, _⟩ := mat_spec hm
  have := area_eq (w := w) (h := h) (by omega) (by omega)
  omega
theorem grid_modmap {w h : Int} {l : List Int} (g : Int → Int) (hm : matB w h l = true) : gridL w (fun x y => g (rd l (y % h * w + x % w))) (h.toNat * w.toNat) = l.map g := by
  obtain ⟨h0, h1, h2, h3, h4, h5, _⟩ := mat_spec hm
  rw [mat_len hm, ← grid_map w g l l.length rfl (by omega), gridL_tab, gridL_tab]
  refine tab_congr _ _ _ (fun i hi => ?_)
  obtain ⟨b0, b1, b2, b3, b4⟩ := cell_bd (w := w) (h := h) i (by omega) (by omega) (by omega)
  show g (rd l ((i : Int) / w % h * w + (i : Int) % w % w)) = g (rd l ((i : Int) / w * w + (i : Int) % w))
  rw [Int.emod_eq_of_lt b2 b3, Int.emod_eq_of_lt b0 b1]
theorem fill_keep (n : Nat) (f : Nat → Int) (i : Nat) (hi : i < n) (h0 : f i = 0) : fill n id f i = fill n id f (i + 1) := by
  rw [← fill_set_id n f i hi, h0]
  apply ext_getD (by rw [List.length_set])
  intro j hj
  rw [fill_len] at hj
  rw [getD_set _ _ _ _ (by rw [fill_len]; omega)]
  by_cases e : j = i
  · subst e
    rw [if_pos rfl]
    unfold fill
    rw [getD_tab _ _ _ hj, if_neg (by simp)]
  · rw [if_neg e]
theorem specCells_ev (w h : Int) (l : List Int) (v : Int) (hl : l.length ≤ 1048576) : Ev (fun k => spec_CellsBelow.f k w h l v) (if matB w h l = true ∧ 0 ≤ v ∧ v ≤ (l.length : Int) ∧ sizedB w h = true then (w, h, gridL w (fun x y => if rd l (y % h * w + x % w) < v then 1 else 0) (Int.toNat h * Int.toNat w)) else (0, 0, [])) := by
  have bad : Ev (fun k => spec_CellsBelow.j0 k v true w h l) (0, 0, []) := by
    refine Ev.step (f := fun _ => some (0, 0, [])) (fun k => ?_) (Ev.now _)
    simp only [spec_CellsBelow.j0, if_true]
  unfold spec_CellsBelow.f
  refine Ev.bind (specIsMat_ev w h l hl) ?_
  rw [l1In_eq, l1Size_eq]
  simp only [Option.bind_some]
  by_cases hm : matB w h l = true
  · refine Ev_pos hm ?_
    by_cases hv : 0 ≤ v ∧ v ≤ (l.length : Int)
    · refine Ev_pos (decide_eq_true hv) ?_
      by_cases hs : sizedB w h = true
      · rw [if_pos ⟨hm, hv.1, hv.2, hs⟩, hs, grid_modmap (fun u => if u < v then 1 else 0) hm]
        refine Ev.step (fun k => by rw [spec_CellsBelow.j0]) ?_
        refine Ev_neg (by simp) ?_
        rw [l1Empty_eq w h hs, mat_len hm]
        simp only [Option.bind_some]
        have hF : l.map (fun u => if u < v then (1 : Int) else 0) = (List.range l.length).map (fun i => if l.getD i 0 < v then (1 : Int) else 0) := by
          conv => lhs; rw [← tab_self l]
          rw [List.map_map]
          rfl
        rw [hF]
        have key : ∀ d i : Nat, i + d = l.length → Ev (fun k => spec_CellsBelow.l0 k v l (l.length : Int) (i : Int) w h (fill l.length id (fun i => if l.getD i 0 < v then (1 : Int) else 0) i)) (w, h, (List.range l.length).map (fun i => if l.getD i 0 < v then (1 : Int) else 0)) := by
          intro d
          induction d with
          | zero =>
            intro i hi
            obtain rfl : i = l.length := by omega
            refine Ev.step (fun k => by rw [spec_CellsBelow.l0]) ?_
            rw [fill_all_id]
            exact Ev_neg (by omega) (Ev.now _)
          | succ d ih =>
            intro i hi
            have nx := ih (i + 1) (by omega)
            refine Ev.step (fun k => by rw [spec_CellsBelow.l0]) ?_
            refine Ev_pos (by omega) (Ev_pos (by omega) (Ev_pos (by omega) ?_))
            rw [rd_nat, wsucc i (by omega)]
            by_cases c : l.getD i 0 < v
            · refine Ev_pos c (Ev_pos (by rw [fill_len]; omega) ?_)
              have e := fill_set_id l.length (fun i => if l.getD i 0 < v then (1 : Int) else 0) i (by omega)
              have e1 : (if l.getD i 0 < v then (1 : Int) else 0) = 1 := if_pos c
              rw [e1] at e
              rw [Int.toNat_natCast, e]
              exact nx
            · refine Ev_neg c ?_
              rw [fill_keep l.length (fun i => if l.getD i 0 < v then (1 : Int) else 0) i (by omega) (if_neg c)]
              exact nx
        have := key l.length 0 (by omega)
        rw [fill_zero] at this
        exact this
      · rw [if_neg (fun q => hs q.2.2.2)]
        rw [Bool.not_eq_true] at hs
        rw [hs]
        exact bad
    · rw [if_neg (fun q => hv ⟨q.2.1, q.2.2.1⟩)]
      exact Ev_neg (by rw [decide_eq_false hv]; simp) bad
  · rw [if_neg (fun q => hm q.1)]
    exact Ev_neg hm bad
/-! The spread of dots. -/
def rndQ (t n : Int) : Int := mn (t % n) (n - t % n)
def farQ (w h i k : Int) : Int := rndQ (i % w - k % w) w * rndQ (i % w - k % w) w + rndQ (i / w - k / w) h * rndQ (i / w - k / w) h
theorem rndQ_bd (t n : Int) (h : 0 < n) : 0 ≤ rndQ t n ∧ rndQ t n ≤ n := by
  have a := Int.emod_nonneg t (b := n) (by omega)
  have b := Int.emod_lt_of_pos t h
  unfold rndQ mn
  split <;> omega
theorem rndQ_sq {t n : Int} (h : 0 < n) (h2 : n ≤ 256) : 0 ≤ rndQ t n * rndQ t n ∧ rndQ t n * rndQ t n ≤ 65536 := by
  obtain ⟨a, b⟩ := rndQ_bd t n h
  have c := Int.mul_nonneg a a
  have d := Int.le_trans (Int.mul_le_mul_of_nonneg_right (show rndQ t n ≤ 256 by omega) a) (Int.mul_le_mul_of_nonneg_left (show rndQ t n ≤ 256 by omega) (show (0 : Int) ≤ 256 by omega))
  omega
theorem far_eq {w h : Int} (l : List Int) (i k : Nat) (h0 : 0 < w) (h1 : w ≤ 256) (h2 : 0 < h) (h3 : h ≤ 256) (hi : (i : Int) < w * h) (hk : (k : Int) < w * h) : impl_farness.f w h l i k = some (farQ w h i k) ∧ spec_l2Far.f w h l i k = some (farQ w h i k) := by
  obtain ⟨a0, a1, a2, a3, a4⟩ := cell_bd (w := w) (h := h) i h0 h2 hi
  obtain ⟨b0, b1, b2, b3, b4⟩ := cell_bd (w := w) (h := h) k h0 h2 hk
  have x0 := Int.emod_nonneg ((i : Int) % w - (k : Int) % w) (b := w) (by omega)
  have x1 := Int.emod_lt_of_pos ((i : Int) % w - (k : Int) % w) h0
  have y0 := Int.emod_nonneg ((i : Int) / w - (k : Int) / w) (b := h) (by omega)
  have y1 := Int.emod_lt_of_pos ((i : Int) / w - (k : Int) / w) h2
  have s1 := rndQ_sq (t := (i : Int) % w - (k : Int) % w) h0 h1
  have s2 := rndQ_sq (t := (i : Int) / w - (k : Int) / w) h2 h3
  have e1 : mn (((i : Int) % w - (k : Int) % w) % w) (wrap64 (w - ((i : Int) % w - (k : Int) % w) % w)) = rndQ ((i : Int) % w - (k : Int) % w) w := by rw [wid _ (by omega) (by omega)]; rfl
  have e2 : mn (((i : Int) / w - (k : Int) / w) % h) (wrap64 (h - ((i : Int) / w - (k : Int) / w) % h)) = rndQ ((i : Int) / w - (k : Int) / w) h := by rw [wid _ (by omega) (by omega)]; rfl
  constructor
  · unfold impl_farness.f
    rw [if_neg (by omega), tmod_nat, tmod_nat, tdiv_nat i w h0, tdiv_nat k w h0, wid ((i : Int) / w) (by omega) (by omega), wid ((k : Int) / w) (by omega) (by omega), wid ((i : Int) % w - (k : Int) % w) (by omega) (by omega), wid ((i : Int) / w - (k : Int) / w) (by omega) (by omega), impl_mod.eq _ w h0 (by omega), impl_mod.eq _ h h2 (by omega)]
    simp only [Option.bind_some]
    rw [e1, e2, wid (rndQ ((i : Int) % w - (k : Int) % w) w * rndQ ((i : Int) % w - (k : Int) % w) w) (by omega) (by omega), wid (rndQ ((i : Int) / w - (k : Int) / w) h * rndQ ((i : Int) / w - (k : Int) / w) h) (by omega) (by omega), wid _ (by omega) (by omega)]
    rfl
  · unfold spec_l2Far.f spec_l2Round.f
    rw [if_neg (by omega), tmod_nat, tmod_nat, tdiv_nat i w h0, tdiv_nat k w h0, wid ((i : Int) / w) (by omega) (by omega), wid ((k : Int) / w) (by omega) (by omega), wid ((i : Int) % w - (k : Int) % w) (by omega) (by omega), wid ((i : Int) / w - (k : Int) / w) (by omega) (by omega), specMod_ev _ w h0 (by omega), specMod_ev _ h h2 (by omega)]
    simp only [Option.bind_some]
    rw [e1, e2, wid (rndQ ((i : Int) % w - (k : Int) % w) w * rndQ ((i : Int) % w - (k : Int) % w) w) (by omega) (by omega), wid (rndQ ((i : Int) / w - (k : Int) / w) h * rndQ ((i : Int) / w - (k : Int) / w) h) (by omega) (by omega), wid _ (by omega) (by omega)]
    rfl
def spStep (f : Nat → Nat → Int) (p : List Int) (i : Nat) (b : Int) (k : Nat) : Int := if p.getD i 0 = 1 then (if p.getD k 0 = 1 then (if b = 0 then f i k else (if f i k < b then f i k else b)) else b) else b
def spIn (f : Nat → Nat → Int) (p : List Int) (i : Nat) (b : Int) : Nat → Int
  | 0 => b
  | k + 1 => spStep f p i (spIn f p i b k) k
def spOut (f : Nat → Nat → Int) (p : List Int) : Nat → Int
  | 0 => 0
  | i + 1 => spIn f p i (spOut f p i) i
def farN (w h : Int) (i k : Nat) : Int := farQ w h i k
theorem implSp_ev {w h : Int} (p : List Int) (hp : p.length ≤ 65536) (hf : ∀ i k : Nat, i < p.length → k < p.length → impl_farness.f w h p i k = some (farN w h i k)) : Ev (fun k => impl_SpreadOf.l0 k 0 (p.length : Int) 0 w h p) (spOut (farN w h) p p.length) := by
  have outer : ∀ d i : Nat, i + d = p.length → Ev (fun k => impl_SpreadOf.l0 k (spOut (farN w h) p i) (p.length : Int) (i : Int) w h p) (spOut (farN w h) p p.length) := by
    intro d
    induction d with
    | zero =>
      intro i hi
      obtain rfl : i = p.length := by omega
      exact Ev.step (fun k => by rw [impl_SpreadOf.l0]) (Ev_neg (by omega) (Ev.now _))
    | succ d ih =>
      intro i hi
      have nx := ih (i + 1) (by omega)
      refine Ev.step (fun k => by rw [impl_SpreadOf.l0]) (Ev_pos (by omega) ?_)
      have inner : ∀ e k : Nat, k + e = i → Ev (fun q => impl_SpreadOf.l1 q (spIn (farN w h) p i (spOut (farN w h) p i) k) (i : Int) (p.length : Int) (i : Int) (i : Int) (k : Int) w h p) (spOut (farN w h) p p.length) := by
        intro e
        induction e with
        | zero =>
          intro k hk
          obtain rfl : k = i := by omega
          refine Ev.step (fun k => by rw [impl_SpreadOf.l1]) (Ev_neg (by omega) ?_)
          rw [wsucc k (by omega)]
          exact nx
        | succ e ih2 =>
          intro k hk
          have nk := ih2 (k + 1) (by omega)
          have es : spIn (farN w h) p i (spOut (farN w h) p i) (k + 1) = spStep (farN w h) p i (spIn (farN w h) p i (spOut (farN w h) p i) k) k := rfl
          rw [es] at nk
          generalize spIn (farN w h) p i (spOut (farN w h) p i) k = b at nk ⊢
          unfold spStep at nk
          refine Ev.step (fun k => by rw [impl_SpreadOf.l1]) (Ev_pos (by omega) (Ev_pos (by omega) (Ev_pos (by omega) ?_)))
          rw [rd_nat, rd_nat]
          by_cases c1 : p.getD i 0 = 1
          · rw [if_pos c1] at nk
            refine Ev_pos c1 (Ev_pos (by omega) (Ev_pos (by omega) ?_))
            refine Ev.step (fun k => by rw [impl_SpreadOf.j2]) ?_
            by_cases c2 : p.getD k 0 = 1
            · rw [if_pos c2] at nk
              refine Ev_pos (beq_iff_eq.2 c2) ?_
              rw [hf i k (by omega) (by omega), wsucc k (by omega)]
              simp only [Option.bind_some]
              by_cases c3 : b = 0
              · rw [if_pos c3] at nk
                exact Ev_pos c3 nk
              · rw [if_neg c3] at nk
                refine Ev_neg c3 ?_
                by_cases c4 : farN w h i k < b
                · rw [if_pos c4] at nk
                  exact Ev_pos c4 nk
                · rw [if_neg c4] at nk
                  exact Ev_neg c4 nk
            · rw [if_neg c2] at nk
              refine Ev_neg (fun q => c2 (beq_iff_eq.1 q)) ?_
              rw [wsucc k (by omega)]
              exact nk
          · rw [if_neg c1] at nk
            refine Ev_neg c1 (Ev.step (fun k => by rw [impl_SpreadOf.j2]) (Ev_neg (by simp) ?_))
            rw [wsucc k (by omega)]
            exact nk
      exact inner i 0 (by omega)
  exact outer p.length 0 (by omega)
theorem specSp_ev {w h : Int} (p : List Int) (hp : p.length ≤ 65536) (hf : ∀ i k : Nat, i < p.length → k < p.length → spec_l2Far.f w h p i k = some (farN w h i k)) : Ev (fun k => spec_SpreadOf.l0 k 0 p (p.length : Int) 0 w h p) (spOut (farN w h) p p.length) := by
  have outer : ∀ d i : Nat, i + d = p.length → Ev (fun k => spec_SpreadOf.l0 k (spOut (farN w h) p i) p (p.length : Int) (i : Int) w h p) (spOut (farN w h) p p.length) := by
    intro d
    induction d with
    | zero =>
      intro i hi
      obtain rfl : i = p.length := by omega
      exact Ev.step (fun k => by rw [spec_SpreadOf.l0]) (Ev_neg (by omega) (Ev.now _))
    | succ d ih =>
      intro i hi
      have nx := ih (i + 1) (by omega)
      refine Ev.step (fun k => by rw [spec_SpreadOf.l0]) (Ev_pos (by omega) (Ev_pos (by omega) (Ev_pos (by omega) ?_)))
      rw [rd_nat]
      have inner : ∀ e k : Nat, k + e = i → Ev (fun q => spec_SpreadOf.l1 q (spIn (farN w h) p i (spOut (farN w h) p i) k) (i : Int) (p.getD i 0) (k : Int) p (p.length : Int) (i : Int) w h p) (spOut (farN w h) p p.length) := by
        intro e
        induction e with
        | zero =>
          intro k hk
          obtain rfl : k = i := by omega
          refine Ev.step (fun k => by rw [spec_SpreadOf.l1]) (Ev_neg (by omega) ?_)
          rw [wsucc k (by omega)]
          exact nx
        | succ e ih2 =>
          intro k hk
          have nk := ih2 (k + 1) (by omega)
          have es : spIn (farN w h) p i (spOut (farN w h) p i) (k + 1) = spStep (farN w h) p i (spIn (farN w h) p i (spOut (farN w h) p i) k) k := rfl
          rw [es] at nk
          generalize spIn (farN w h) p i (spOut (farN w h) p i) k = b at nk ⊢
          unfold spStep at nk
          refine Ev.step (fun k => by rw [spec_SpreadOf.l1]) (Ev_pos (by omega) ?_)
          rw [rd_nat, wsucc k (by omega), hf i k (by omega) (by omega)]
          simp only [Option.bind_some]
          by_cases c1 : p.getD i 0 = 1
          · rw [if_pos c1] at nk
            refine Ev_pos c1 (Ev_pos (by omega) (Ev_pos (by omega) ?_))
            by_cases c2 : p.getD k 0 = 1
            · rw [if_pos c2] at nk
              refine Ev_pos c2 ?_
              by_cases c3 : b = 0
              · rw [if_pos c3] at nk
                exact Ev_pos c3 nk
              · rw [if_neg c3] at nk
                refine Ev_neg c3 ?_
                by_cases c4 : farN w h i k < b
                · rw [if_pos c4] at nk
                  exact Ev_pos c4 nk
                · rw [if_neg c4] at nk
                  exact Ev_neg c4 nk
            · rw [if_neg c2] at nk
              exact Ev_neg c2 nk
          · rw [if_neg c1] at nk
            exact Ev_neg c1 nk
      exact inner i 0 (by omega)
  exact outer p.length 0 (by omega)
theorem SpreadOf_same (w h : Int) (l : List Int) (v : Int) (hl : l.length ≤ 1048576) : ∃ r : Int, Ev (fun k => spec_SpreadOf.f k w h l v) r ∧ Ev (fun k => impl_SpreadOf.f k w h l v) r := by
  have h1 := specCells_ev w h l v hl
  unfold spec_SpreadOf.f impl_SpreadOf.f
  by_cases hc : matB w h l = true ∧ 0 ≤ v ∧ v ≤ (l.length : Int) ∧ sizedB w h = true
  · rw [if_pos hc] at h1
    have h2 : impl_CellsBelow.f w h l v = some (w, h, gridL w (fun x y => if rd l (y % h * w + x % w) < v then 1 else 0) (Int.toNat h * Int.toNat w)) := if_pos hc
    obtain ⟨a0, a1, a2, a3, a4, a5, _⟩ := mat_spec hc.1
    have hn := mat_len hc.1
    have hlen := gridL_len w (fun x y => if rd l (y % h * w + x % w) < v then (1 : Int) else 0) (Int.toNat h * Int.toNat w)
    generalize gridL w (fun x y => if rd l (y % h * w + x % w) < v then (1 : Int) else 0) (Int.toNat h * Int.toNat w) = p at h1 h2 hlen
    have hf := fun (i k : Nat) (hi : i < p.length) (hk : k < p.length) => far_eq (w := w) (h := h) p i k (by omega) a1 (by omega) a3 (by omega) (by omega)
    refine ⟨spOut (farN w h) p p.length, Ev.bind h1 ?_, ?_⟩
    · exact specSp_ev p (by omega) (fun i k hi hk => (hf i k hi hk).2)
    · rw [h2]
      simp only [Option.bind_some]
      exact implSp_ev p (by omega) (fun i k hi hk => (hf i k hi hk).1)
  · rw [if_neg hc] at h1
    have h2 : impl_CellsBelow.f w h l v = some (0, 0, []) := if_neg hc
    refine ⟨0, Ev.bind h1 (Ev.step (fun k => by rw [spec_SpreadOf.l0]) (Ev_neg (by simp) (Ev.now _))), ?_⟩
    rw [h2]
    simp only [Option.bind_some]
    exact Ev.step (fun k => by rw [impl_SpreadOf.l0]) (Ev_neg (by simp) (Ev.now _))
/-- The law FnExactSpreadOf: the program's SpreadOf answers what the reference's answers. -/
theorem FnExactSpreadOf (a0_0 a0_1 : Int) (l0_2 : List Int) (a1 : Int) (h0_ : (Lit.int .i64 a0_0).wf = true) (h1_ : (Lit.int .i64 a0_1).wf = true) (h2_ : l0_2.length ≤ maxLen) (h3_ : (∀ x ∈ l0_2, (Lit.int .i64 x).wf = true)) (h4_ : (Lit.int .i64 a1).wf = true) :
    ∃ k, P.laws_FnExactSpreadOf.f k a0_0 a0_1 l0_2 a1 = some true := by
  refine Ev.rounds ?_
  unfold laws_FnExactSpreadOf.f
  by_cases hl0 : (l0_2.length : Int) ≤ 1048576
  · rw [szMat_ok a0_0 a0_1 l0_2 (1048576) (by omega) (by omega) hl0]
    simp only [Option.bind_some]
    refine Ev_neg (by omega) ?_
    obtain ⟨r, HS, HI⟩ := SpreadOf_same a0_0 a0_1 l0_2 a1 (by omega)
    repeat (first
      | exact Ev.now _
      | (refine Ev.bind HS ?_; try dsimp only)
      | (refine Ev.bind HI ?_; try dsimp only)
      | (refine Ev.bind (toMat_ev _ _ _ (by first | assumption | omega | (rw [List.length_map]; omega))) ?_; try dsimp only)
      | (refine Ev.bind (eqMat_self _ _ _ (by first | assumption | omega | (rw [List.length_map]; omega))) ?_; try dsimp only)
      | (refine Ev_pos (by first | rfl | omega) ?_)
      | (refine Ev_neg (by first | omega | simp) ?_))
  · rw [szMat_big a0_0 a0_1 l0_2 (1048576) (by omega) (by omega) h2_ hl0]
    simp only [Option.bind_some]
    exact Ev.now _
end Go.Proofs.Ytdlehfnlibddcaa.Q
