import Derived.Laws.BitsLemmas
import Derived.Test.YtdlehfnlibddcaaFimplCoversPicture
import Derived.Test.YtdlehfnlibddcaaFimplDoubleMatrix
import Derived.Test.YtdlehfnlibddcaaFimplFlatPicture
import Derived.Test.YtdlehfnlibddcaaFimplIsMatrix
import Derived.Test.YtdlehfnlibddcaaFimplIsPlate
import Derived.Test.YtdlehfnlibddcaaFimplLevelOf
import Derived.Test.YtdlehfnlibddcaaFimplScreenLevel
import Derived.Test.YtdlehfnlibddcaaFimplScreenPicture
import Derived.Test.YtdlehfnlibddcaaFimplalike
import Derived.Test.YtdlehfnlibddcaaFimplcelled
import Derived.Test.YtdlehfnlibddcaaFimpllevel
import Derived.Test.YtdlehfnlibddcaaFimplmod
import Derived.Test.YtdlehfnlibddcaaFimplrank
import Derived.Test.YtdlehfnlibddcaaFlawsFnStacked
import Derived.Test.YtdlehfnlibddcaaFlawsat
import Derived.Test.YtdlehfnlibddcaaFlawsfresh
import Derived.Test.YtdlehfnlibddcaaFlawsints
import Derived.Test.YtdlehfnlibddcaaFlawssame
import Derived.Test.YtdlehfnlibddcaaFpre
import Derived.Test.YtdlehfnlibddcaaFspecAddPictures
import Derived.Test.YtdlehfnlibddcaaFspecBayerMatrix
import Derived.Test.YtdlehfnlibddcaaFspecIsPicture
import Derived.Test.YtdlehfnlibddcaaFspecMakeLike
import Derived.Test.YtdlehfnlibddcaaFspecMakeMatrix
import Derived.Test.YtdlehfnlibddcaaFspecMakePicture
import Derived.Test.YtdlehfnlibddcaaFspecRowMatrix
import Derived.Test.YtdlehfnlibddcaaFspecSpiralMatrix
import Derived.Test.YtdlehfnlibddcaaFspecl01Below
import Derived.Test.YtdlehfnlibddcaaFspecl01Byte
import Derived.Test.YtdlehfnlibddcaaFspecl01Int
import Derived.Test.YtdlehfnlibddcaaFspecl01New
import Derived.Test.YtdlehfnlibddcaaFspecl1Draw
import Derived.Test.YtdlehfnlibddcaaFspecl1Empty
import Derived.Test.YtdlehfnlibddcaaFspecl1In
import Derived.Test.YtdlehfnlibddcaaFspecl1Pair
import Derived.Test.YtdlehfnlibddcaaFspecl1Size
import Derived.Test.YtdlehfnlibddcaaFspecl1Up
import Derived.Test.YtdlehfnlibddcaaFspecl2Double
import Derived.Test.YtdlehfnlibddcaaFspecl2Draw
import Derived.Test.YtdlehfnlibddcaaFspecl2Mod
import Derived.Test.YtdlehfnlibddcaaFspecl2Rank
import Derived.Test.YtdlehfnlibddcaaFspecl2Shape
import Derived.Test.YtdlehfnlibddcaaP0
import Derived.Test.YtdlehfnlibddcaaR
import Derived.Test.YtdlehfnlibddcaaK
namespace Go.Proofs.Ytdlehfnlibddcaa.Q
open Go.RowKit Go.Proofs.Ytdlehfnlibddcaa.P Go.Proofs.YtdlehfnlibddcaaW.PrintWords
set_option linter.unusedVariables false
set_option linter.unusedSimpArgs false
theorem wsucc (i : Nat) (h : i < 9223372036854775807) : wrap64 ((i : Int) + 1) = ((i + 1 : Nat) : Int) := by unfold wrap64; omega
theorem wid (x : Int) (h0 : -9223372036854775808 ≤ x) (h1 : x ≤ 9223372036854775807) : wrap64 x = x := by unfold wrap64; omega
theorem rd_nat (l : List Int) (i : Nat) : rd l (i : Int) = l.getD i 0 := by unfold rd; rw [Int.toNat_natCast]
theorem getD_of_lt {α : Type} (l : List α) (d : α) (i : Nat) (h : i < l.length) : l.getD i d = l[i] := by simp [List.getD_eq_getElem?_getD, List.getElem?_eq_getElem h]
theorem getD_mem (l : List Int) (i : Nat) (h : i < l.length) : l.getD i 0 ∈ l := by rw [getD_of_lt l 0 i h]; exact List.getElem_mem h
theorem ext_getD {a b : List Int} (hl : a.length = b.length) (h : ∀ i, i < a.length → a.getD i 0 = b.getD i 0) : a = b := by
  apply List.ext_getElem hl
  intro i h1 h2
  have := h i h1
  rwa [getD_of_lt a 0 i h1, getD_of_lt b 0 i h2] at this
theorem getD_set (l : List Int) (i j : Nat) (x : Int) (hi : i < l.length) : (l.set i x).getD j 0 = if j = i then x else l.getD j 0 := by
  simp only [List.getD_eq_getElem?_getD, List.getElem?_set]
  by_cases h : i = j
  · subst h; simp [hi]
  · rw [if_neg h, if_neg (fun e => h e.symm)]
theorem getD_tab (n : Nat) (f : Nat → Int) (j : Nat) (h : j < n) : ((List.range n).map f).getD j 0 = f j := by
  simp [List.getD_eq_getElem?_getD, List.getElem?_map, List.getElem?_range h]
theorem len_tab (n : Nat) (f : Nat → Int) : ((List.range n).map f).length = n := by simp
theorem tab_congr (n : Nat) (f g : Nat → Int) (h : ∀ i, i < n → f i = g i) : (List.range n).map f = (List.range n).map g :=
  List.map_congr_left (fun i hi => h i (List.mem_range.1 hi))
/-- A table that is filled place by place: after i rounds those whose round has been are told, the others are 0. -/
def fill (n : Nat) (s : Nat → Nat) (f : Nat → Int) (i : Nat) : List Int := (List.range n).map fun m => if s m < i then f m else 0
theorem fill_len (n : Nat) (s : Nat → Nat) (f : Nat → Int) (i : Nat) : (fill n s f i).length = n := len_tab _ _
theorem fill_zero (n : Nat) (s : Nat → Nat) (f : Nat → Int) : fill n s f 0 = List.replicate n 0 := by
  unfold fill
  simp [List.map_const']
theorem fill_all (n : Nat) (s : Nat → Nat) (f : Nat → Int) (h : ∀ m, m < n → s m < n) : fill n s f n = (List.range n).map f := tab_congr _ _ _ (fun i hi => if_pos (h i hi))
theorem fill_set (n : Nat) (s : Nat → Nat) (f : Nat → Int) (i p : Nat) (hp : p < n) (hs : ∀ m, m < n → (s m = i ↔ m = p)) : (fill n s f i).set p (f p) = fill n s f (i + 1) := by
  apply ext_getD (by rw [List.length_set, fill_len, fill_len])
  intro j hj
  rw [List.length_set, fill_len] at hj
  rw [getD_set _ _ _ _ (by rw [fill_len]; exact hp)]
  unfold fill
  rw [getD_tab _ _ _ hj, getD_tab _ _ _ hj]
  have := hs j hj
  by_cases e : j = p
  · subst e
    rw [if_pos rfl, if_pos (by have := this.2 rfl; omega)]
  · rw [if_neg e]
    have hne : s j ≠ i := fun h => e (this.1 h)
    by_cases h : s j < i
    · rw [if_pos h, if_pos (by omega)]
    · rw [if_neg h, if_neg (by omega)]
theorem fill_set_id (n : Nat) (f : Nat → Int) (i : Nat) (hi : i < n) : (fill n id f i).set i (f i) = fill n id f (i + 1) := fill_set n id f i i hi (fun m _ => Iff.rfl)
theorem fill_all_id (n : Nat) (f : Nat → Int) : fill n id f n = (List.range n).map f := fill_all n id f (fun _ h => h)
theorem Ev_pos {α : Type} {c : Prop} [Decidable c] {f g : Nat → Option α} {r : α} (hc : c) (h : Ev f r) : Ev (fun k => if c then f k else g k) r := Ev.congr (fun k => if_pos hc) h
theorem Ev_neg {α : Type} {c : Prop} [Decidable c] {f g : Nat → Option α} {r : α} (hc : ¬ c) (h : Ev g r) : Ev (fun k => if c then f k else g k) r := Ev.congr (fun k => if_neg hc) h
/-! The reference's pictures. -/
theorem l1In_eq (x a b : Int) : spec_l1In.f x a b = some (decide (a ≤ x ∧ x ≤ b)) := by
  unfold spec_l1In.f
  by_cases h : x ≥ a
  · rw [if_pos h]
    congr 1
    rw [decide_eq_decide]
    omega
  · rw [if_neg h, decide_eq_false (by omega)]
theorem l1Size_eq (a0 a1 : Int) : spec_l1Size.f a0 a1 = some (sizedB a0 a1) := by
  unfold spec_l1Size.f sizedB
  rw [l1In_eq, Option.bind_some]
  by_cases h0 : 1 ≤ a0 ∧ a0 ≤ 64
  · rw [decide_eq_true h0, if_pos rfl, l1In_eq, Option.bind_some]
    by_cases h1 : 1 ≤ a1 ∧ a1 ≤ 64
    · rw [decide_eq_true h1, if_pos rfl]
      have e0 : 0 ≤ a0 * a1 := Int.mul_nonneg (by omega) (by omega)
      have e1 : a0 * a1 ≤ 64 * 64 := Int.le_trans (Int.mul_le_mul_of_nonneg_right h0.2 (by omega)) (Int.mul_le_mul_of_nonneg_left h1.2 (by omega))
      rw [wid (a0 * a1) (by omega) (by omega)]
      congr 1
      rw [decide_eq_decide]
      exact ⟨fun h => ⟨h0.1, h0.2, h1.1, h1.2, h⟩, fun h => h.2.2.2.2⟩
    · rw [decide_eq_false h1, if_neg (by simp), decide_eq_false (fun h => h1 ⟨h.2.2.1, h.2.2.2.1⟩)]
  · rw [decide_eq_false h0, if_neg (by simp), decide_eq_false (fun h => h0 ⟨h.1, h.2.1⟩)]
theorem l1Up_ev (w h : Int) (l : List Int) (m : Int) (hl : l.length ≤ 1048576) : Ev (fun k => spec_l1Up.f k w h l m) (picB w h l m) := by
  have key : ∀ d i : Nat, i + d = l.length → Ev (fun k => spec_l1Up.l0 k m l (l.length : Int) (i : Int)) ((l.drop i).all fun n => decide (0 ≤ n ∧ n ≤ m)) := by
    intro d
    induction d with
    | zero =>
      intro i hi
      rw [List.drop_eq_nil_of_le (by omega)]
      refine Ev.step (f := fun _ => some true) (fun k => ?_) (Ev.now _)
      simp only [spec_l1Up.l0]
      rw [if_neg (by omega)]
    | succ d ih =>
      intro i hi
      rw [List.drop_eq_getElem_cons (by omega), List.all_cons]
      have hr : rd l (i : Int) = l[i] := by rw [rd_nat, getD_of_lt]
      by_cases e : 0 ≤ l[i] ∧ l[i] ≤ m
      · rw [decide_eq_true e, Bool.true_and]
        refine Ev.step (fun k => ?_) (ih (i + 1) (by omega))
        simp only [spec_l1Up.l0]
        rw [if_pos (by omega), if_pos (by omega), if_pos (by omega), l1In_eq, Option.bind_some, hr, decide_eq_true e, if_pos rfl, wsucc i (by omega)]
      · rw [decide_eq_false e, Bool.false_and]
        refine Ev.step (f := fun _ => some false) (fun k => ?_) (Ev.now _)
        simp only [spec_l1Up.l0]
        rw [if_pos (by omega), if_pos (by omega), if_pos (by omega), l1In_eq, Option.bind_some, hr, decide_eq_false e, if_neg (by simp)]
  unfold spec_l1Up.f picB
  rw [l1Size_eq]
  simp only [Option.bind_some]
  cases hs : sizedB w h with
  | false =>
    simp only [Bool.false_and]
    refine Ev.step (f := fun _ => some false) (fun k => ?_) (Ev.now _)
    rw [if_neg (by simp)]
    simp only [spec_l1Up.j0]
    rw [if_pos trivial]
  | true =>
    obtain ⟨h0, h1, h2, h3, h4⟩ := sized_spec hs
    have e0 : 0 ≤ w * h := Int.mul_nonneg (by omega) (by omega)
    rw [wid (w * h) (by omega) (by omega)]
    simp only [Bool.true_and, if_true]
    by_cases e : (l.length : Int) = w * h
    · rw [decide_eq_true e, Bool.true_and]
      refine Ev.step (fun k => ?_) (key l.length 0 (by omega))
      simp only [spec_l1Up.j0]
      rw [if_neg (by simp [e])]
      rfl
    · rw [decide_eq_false e, Bool.false_and]
      refine Ev.step (f := fun _ => some false) (fun k => ?_) (Ev.now _)
      simp only [spec_l1Up.j0]
      rw [if_pos (by simp [e])]
theorem specIsPicture_ev (w h : Int) (l : List Int) (hl : l.length ≤ 1048576) : Ev (fun k => spec_IsPicture.f k w h l) (picB w h l 255) := by
  unfold spec_IsPicture.f
  exact Ev.bind (l1Up_ev w h l 255 hl) (Ev.now _)
theorem within_le (l : List Int) (a b : Int) (h : a ≤ b) (hw : withinB l a = true) : withinB l b = true := by
  unfold withinB at hw ⊢
  rw [List.all_eq_true] at hw ⊢
  intro x hx
  have := of_decide_eq_true (hw x hx)
  exact decide_eq_true (by omega)
theorem plateB_eq (w h : Int) (l : List Int) : plateB w h l = picB w h l 1 := by
  unfold plateB picB
  cases sizedB w h <;> simp only [Bool.false_and, Bool.true_and]
  cases decide ((l.length : Int) = w * h) <;> simp only [Bool.false_and, Bool.true_and]
  cases hb : withinB l 1 with
  | false => rw [Bool.and_false]
  | true => rw [within_le l 1 255 (by omega) hb, Bool.and_true]
theorem l1Empty_eq (w h : Int) (hs : sizedB w h = true) : spec_l1Empty.f w h = some (w, h, List.replicate (h.toNat * w.toNat) 0) := by
  obtain ⟨h0, h1, h2, h3, h4⟩ := sized_spec hs
  have e0 : 0 ≤ w * h := Int.mul_nonneg (by omega) (by omega)
  unfold spec_l1Empty.f
  rw [wid (w * h) (by omega) (by omega), if_pos e0, if_pos (by omega)]
  have : (w * h).toNat = h.toNat * w.toNat := by rw [Int.toNat_mul (by omega) (by omega), Nat.mul_comm]
  rw [this]
theorem gridL_tab (w : Int) (f : Int → Int → Int) (n : Nat) : gridL w f n = (List.range n).map fun i => cellAt w f i := rfl
theorem area_eq {w h : Int} (h0 : 0 ≤ w) (h1 : 0 ≤ h) : ((h.toNat * w.toNat : Nat) : Int) = w * h := by
  rw [Int.natCast_mul, Int.toNat_of_nonneg h0, Int.toNat_of_nonneg h1, Int.mul_comm]
theorem tdiv_nat (i : Nat) (w : Int) (h : 0 < w) : Int.tdiv (i : Int) w = (i : Int) / w := Int.tdiv_eq_ediv_of_nonneg (by omega)
theorem tmod_nat (i : Nat) (w : Int) : Int.tmod (i : Int) w = (i : Int) % w := Int.tmod_eq_emod_of_nonneg (by omega)
theorem cell_bd {w h : Int} (i : Nat) (h0 : 0 < w) (h1 : 0 < h) (hi : (i : Int) < w * h) : 0 ≤ (i : Int) % w ∧ (i : Int) % w < w ∧ 0 ≤ (i : Int) / w ∧ (i : Int) / w < h ∧ (i : Int) / w * w + (i : Int) % w = i := by
  refine ⟨Int.emod_nonneg _ (by omega), Int.emod_lt_of_pos _ h0, Int.ediv_nonneg (by omega) (by omega), ?_, ?_⟩
  · exact Int.ediv_lt_of_lt_mul h0 (by rw [Int.mul_comm]; exact hi)
  · have := Int.mul_ediv_add_emod (i : Int) w
    rw [Int.mul_comm] at this
    exact this
theorem cell_of {w : Int} (x y : Int) (h0 : 0 < w) (hx0 : 0 ≤ x) (hx : x < w) : (y * w + x) % w = x ∧ (y * w + x) / w = y := by
  constructor
  · rw [Int.add_comm, Int.add_mul_emod_self_right, Int.emod_eq_of_lt hx0 hx]
  · rw [Int.add_comm, Int.add_mul_ediv_right _ _ (by omega), Int.ediv_eq_zero_of_lt hx0 hx, Int.zero_add]
theorem l1Pair_ev (w h : Int) (l : List Int) (w2 h2 : Int) (l2 : List Int) (hl : l.length ≤ 1048576) (hl2 : l2.length ≤ 1048576) : Ev (fun k => spec_l1Pair.f k w h l w2 h2 l2) (alikeB w h l w2 h2 l2) := by
  unfold spec_l1Pair.f alikeB
  refine Ev.bind (specIsPicture_ev w h l hl) ?_
  cases hp : picB w h l 255 with
  | false => simpa using Ev.now false
  | true =>
    refine Ev_pos rfl (Ev.bind (specIsPicture_ev w2 h2 l2 hl2) ?_)
    cases hp2 : picB w2 h2 l2 255 with
    | false => simpa using Ev.now false
    | true =>
      refine Ev_pos rfl ?_
      by_cases e : w = w2
      · refine Ev_pos e ?_
        subst e
        by_cases e2 : h = h2
        · rw [show (true && (true && decide (w = w ∧ h = h2))) = (h == h2) by simp [e2]]
          exact Ev.now _
        · rw [show (true && (true && decide (w = w ∧ h = h2))) = (h == h2) by simp [e2]]
          exact Ev.now _
      · refine Ev_neg e ?_
        simpa [e] using Ev.now false
def coversL (a b : List Int) : Bool := (List.range a.length).all fun i => decide (¬ a.getD i 0 > b.getD i 0)
theorem implCov_ev (a : List Int) (w h : Int) (b : List Int) (ha : a.length ≤ 1048576) (hab : a.length = b.length) : Ev (fun k => impl_CoversPicture.l0 k a (a.length : Int) 0 w h b) (coversL a b) := by
  have key : ∀ d i : Nat, i + d = a.length → (∀ j, j < i → ¬ a.getD j 0 > b.getD j 0) → Ev (fun k => impl_CoversPicture.l0 k a (a.length : Int) (i : Int) w h b) (coversL a b) := by
    intro d
    induction d with
    | zero =>
      intro i hi hj
      have : coversL a b = true := by
        unfold coversL
        rw [List.all_eq_true]
        intro j hm
        exact decide_eq_true (hj j (by have := List.mem_range.1 hm; omega))
      rw [this]
      refine Ev.step (f := fun _ => some true) (fun k => ?_) (Ev.now _)
      simp only [impl_CoversPicture.l0]
      rw [if_neg (by omega)]
    | succ d ih =>
      intro i hi hj
      by_cases e : a.getD i 0 > b.getD i 0
      · have : coversL a b = false := by
          unfold coversL
          rw [List.all_eq_false]
          exact ⟨i, List.mem_range.2 (by omega), by simpa using e⟩
        rw [this]
        refine Ev.step (f := fun _ => some false) (fun k => ?_) (Ev.now _)
        simp only [impl_CoversPicture.l0]
        rw [if_pos (by omega), if_pos (by omega), if_pos (by omega), if_pos (by omega), rd_nat, rd_nat, if_pos e]
      · refine Ev.step (fun k => ?_) (ih (i + 1) (by omega) (fun j h => if hji : j = i then hji ▸ e else hj j (by omega)))
        simp only [impl_CoversPicture.l0]
        rw [if_pos (by omega), if_pos (by omega), if_pos (by omega), if_pos (by omega), rd_nat, rd_nat, if_neg e, wsucc i (by omega)]
  exact key a.length 0 (by omega) (fun j h => absurd h (by omega))
/-! Pictures made from a picture. -/
theorem pic_len {w h : Int} {l : List Int} {m : Int} (hp : picB w h l m = true) : h.toNat * w.toNat = l.length := by
  obtain ⟨h0, h1, h2, h3, h4, h5, h6⟩ := pic_spec hp
  have := area_eq (w := w) (h := h) (by omega) (by omega)
  omega
/-! The drawing of inputs. -/
theorem and255 (n : Int) : Go.bits .and .i64 n 255 = n % 256 := by
  have h127 : (BitVec.ofInt 64 255).toNat = 2 ^ 8 - 1 := by decide
  have key : (BitVec.ofInt 64 n &&& BitVec.ofInt 64 255).toNat = (n % ((2 ^ 64 : Nat) : Int)).toNat % 2 ^ 8 := by
    rw [BitVec.toNat_and, BitVec.toNat_ofInt, h127, Nat.and_two_pow_sub_one_eq_mod]
  show IntKind.i64.wrap ((BitVec.ofInt 64 n &&& BitVec.ofInt 64 255).toNat : Nat) = n % 256
  rw [key, IntKind.wrap_i64]
  omega
theorem byte_ok (s : List Int) (a b : Int) (ha : 0 ≤ a) (hl : s.length ≤ maxLen) : ∃ v a2 b2 : Int, spec_l01Byte.f s a b = some (v, a2, b2) ∧ 0 ≤ v ∧ v ≤ 255 ∧ 0 ≤ a2 := by
  unfold maxLen at hl
  unfold spec_l01Byte.f
  simp only [and255]
  by_cases h : a < (s.length : Int)
  · rw [if_pos h, if_pos ha, wid (a + 1) (by omega) (by omega)]
    exact ⟨_, _, _, rfl, by omega, by omega, by omega⟩
  · rw [if_neg h]
    exact ⟨_, _, _, rfl, by omega, by omega, by omega⟩
theorem below_ok (s : List Int) (a b n : Int) (ha : 0 ≤ a) (hl : s.length ≤ maxLen) (h1 : 1 ≤ n) (h2 : n ≤ 256) : ∃ v a2 b2 : Int, spec_l01Below.f s a b n = some (v, a2, b2) ∧ 0 ≤ v ∧ v < n ∧ 0 ≤ a2 := by
  obtain ⟨v, a2, b2, e, h3, h4, h5⟩ := byte_ok s a b ha hl
  unfold spec_l01Below.f
  rw [if_neg (by omega), if_pos h2, e, Option.bind_some, if_neg (by omega)]
  exact ⟨_, _, _, rfl, Int.tmod_nonneg _ h3, Int.tmod_lt_of_pos _ (by omega), h5⟩
theorem draw_ok (s : List Int) (a b : Int) (L : List Int) (ha : 0 ≤ a) (hl : s.length ≤ maxLen) (h1 : 1 ≤ L.length) (h2 : L.length ≤ 256) : ∃ v a2 b2 : Int, spec_l01Int.f s a b L = some (v, a2, b2) ∧ v ∈ L ∧ 0 ≤ a2 := by
  obtain ⟨v, a2, b2, e, h3, h4, h5⟩ := below_ok s a b (L.length : Int) ha hl (by omega) (by omega)
  unfold spec_l01Int.f
  rw [e, Option.bind_some, if_pos h3, if_pos h4]
  refine ⟨_, _, _, rfl, ?_, h5⟩
  obtain ⟨m, rfl⟩ : ∃ m : Nat, v = (m : Int) := ⟨v.toNat, by omega⟩
  rw [rd_nat]
  exact getD_mem L m (by omega)
theorem new_ok (s : List Int) (hl : s.length ≤ maxLen) : ∃ b : Int, Ev (fun k => spec_l01New.f k s) (s, 0, b) := by
  unfold maxLen at hl
  have key : ∀ (d i : Nat) (x : Int), i + d = s.length → ∃ b : Int, Ev (fun k => spec_l01New.l0 k s x (i : Int)) (s, 0, b) := by
    intro d
    induction d with
    | zero =>
      intro i x hi
      refine ⟨x, Ev.step (fun k => by rw [spec_l01New.l0]) ?_⟩
      exact Ev_neg (by omega) (Ev.now _)
    | succ d ih =>
      intro i x hi
      by_cases h : (i : Int) < 4000
      · obtain ⟨b, hb⟩ := ih (i + 1) (Go.bits .and .i64 (wrap64 ((wrap64 ((wrap64 (x * 1103)) + (wrap64 (rd s (i : Int))))) + 7)) 1073741823) (by omega)
        refine ⟨b, Ev.step (fun k => ?_) hb⟩
        simp only [spec_l01New.l0]
        rw [if_pos (by omega), if_pos h, if_pos (by omega), wsucc i (by omega)]
      · refine ⟨x, Ev.step (fun k => by rw [spec_l01New.l0]) ?_⟩
        exact Ev_pos (by omega) (Ev_neg h (Ev.now _))
  exact key s.length 0 _ (by omega)
theorem mem_set_bd {L : List Int} {p : Nat} {v lo hi : Int} (hL : ∀ x ∈ L, lo ≤ x ∧ x ≤ hi) (h0 : lo ≤ v) (h1 : v ≤ hi) : ∀ x ∈ L.set p v, lo ≤ x ∧ x ≤ hi := by
  intro x hx
  rcases List.mem_or_eq_of_mem_set hx with h | h
  · exact hL x h
  · subst h
    exact ⟨h0, h1⟩
theorem drawn_ok (s : List Int) (hl : s.length ≤ maxLen) (mode w h : Int) (hm : 0 ≤ mode) (hw : 1 ≤ w) (hw2 : w ≤ 64) (n : Nat) (hn : n ≤ 1048576) : ∀ (d i : Nat) (L : List Int) (a b : Int), i + d = n → L.length = n → (∀ x ∈ L, 0 ≤ x ∧ x ≤ 255) → 0 ≤ a →
    ∃ (L2 : List Int) (a2 b2 : Int), L2.length = n ∧ (∀ x ∈ L2, 0 ≤ x ∧ x ≤ 255) ∧ 0 ≤ a2 ∧ Ev (fun k => spec_l1Draw.l0 k mode (n : Int) (i : Int) s a b w h L) (w, h, L2, a2, b2) := by
  intro d
  induction d with
  | zero =>
    intro i L a b hi hL hx ha
    refine ⟨L, a, b, hL, hx, ha, Ev.step (fun k => by rw [spec_l1Draw.l0]) ?_⟩
    exact Ev_neg (by omega) (Ev.now _)
  | succ d ih =>
    intro i L a b hi hL hx ha
    have go : ∀ v a2 b2 : Int, 0 ≤ v → v ≤ 255 → 0 ≤ a2 → ∃ (L2 : List Int) (a3 b3 : Int), L2.length = n ∧ (∀ x ∈ L2, 0 ≤ x ∧ x ≤ 255) ∧ 0 ≤ a3 ∧ Ev (fun k => if 0 ≤ (i : Int) then (if (i : Int) < (L.length : Int) then (spec_l1Draw.l0 k mode (n : Int) (wrap64 ((i : Int) + 1)) s a2 b2 w h (L.set (i : Int).toNat v)) else none) else none) (w, h, L2, a3, b3) := by
      intro v a2 b2 v0 v1 ha2
      obtain ⟨L2, a3, b3, q1, q2, q3, q4⟩ := ih (i + 1) (L.set i v) a2 b2 (by omega) (by rw [List.length_set]; exact hL) (mem_set_bd hx v0 v1) ha2
      refine ⟨L2, a3, b3, q1, q2, q3, Ev_pos (by omega) (Ev_pos (by omega) ?_)⟩
      rw [wsucc i (by omega), Int.toNat_natCast]
      exact q4
    by_cases m0 : mode = 0
    · obtain ⟨v, a2, b2, e, v0, v1, ha2⟩ := below_ok s a b 256 ha hl (by omega) (by omega)
      obtain ⟨L2, a3, b3, q1, q2, q3, q4⟩ := go v a2 b2 v0 (by omega) ha2
      refine ⟨L2, a3, b3, q1, q2, q3, Ev.step (fun k => by rw [spec_l1Draw.l0]) (Ev_pos (by omega) (Ev_pos m0 ?_))⟩
      rw [e]
      exact q4
    by_cases m1 : mode = 1
    · obtain ⟨v, a2, b2, e, v0, ha2⟩ := draw_ok s a b [0, 255, 128, 127, 1, 254] ha hl (by simp) (by simp)
      have vb : 0 ≤ v ∧ v ≤ 255 := by
        simp only [List.mem_cons, List.not_mem_nil, or_false] at v0
        omega
      obtain ⟨L2, a3, b3, q1, q2, q3, q4⟩ := go v a2 b2 vb.1 vb.2 ha2
      refine ⟨L2, a3, b3, q1, q2, q3, Ev.step (fun k => by rw [spec_l1Draw.l0]) (Ev_pos (by omega) (Ev_neg m0 (Ev_pos m1 ?_)))⟩
      rw [e]
      exact q4
    by_cases m2 : mode = 2
    · obtain ⟨v, a2, b2, e, v0, v1, ha2⟩ := below_ok s a b 2 ha hl (by omega) (by omega)
      obtain ⟨L2, a3, b3, q1, q2, q3, q4⟩ := go v a2 b2 v0 (by omega) ha2
      refine ⟨L2, a3, b3, q1, q2, q3, Ev.step (fun k => by rw [spec_l1Draw.l0]) (Ev_pos (by omega) (Ev_neg m0 (Ev_neg m1 (Ev_pos m2 ?_))))⟩
      rw [e]
      exact q4
    · have hx1 : mx 1 (wrap64 (w - 1)) = if w = 1 then 1 else w - 1 := by
        rw [wid (w - 1) (by omega) (by omega)]
        unfold mx
        by_cases c : w = 1
        · subst c
          rfl
        · rw [if_neg c]
          by_cases c2 : 1 < w - 1
          · rw [if_pos c2]
          · rw [if_neg c2]
            omega
      have b0 := Int.emod_nonneg (i : Int) (b := w) (by omega)
      have b1 := Int.emod_lt_of_pos (i : Int) (b := w) (by omega)
      have hv : 0 ≤ wrap64 (Int.tdiv (wrap64 ((Int.tmod (i : Int) w) * 255)) (mx 1 (wrap64 (w - 1)))) ∧ wrap64 (Int.tdiv (wrap64 ((Int.tmod (i : Int) w) * 255)) (mx 1 (wrap64 (w - 1)))) ≤ 255 := by
        rw [hx1, tmod_nat, wid ((i : Int) % w * 255) (by omega) (by omega), Int.tdiv_eq_ediv_of_nonneg (by omega)]
        by_cases c : w = 1
        · subst c
          rw [if_pos rfl, show (i : Int) % 1 * 255 = 0 by omega, Int.zero_ediv]
          exact ⟨by unfold wrap64; omega, by unfold wrap64; omega⟩
        · rw [if_neg c]
          have d0 : 0 ≤ (i : Int) % w * 255 / (w - 1) := Int.ediv_nonneg (by omega) (by omega)
          have d1 : (i : Int) % w * 255 / (w - 1) ≤ 255 := by
            have : (i : Int) % w * 255 ≤ 255 * (w - 1) := by omega
            exact Int.ediv_le_of_le_mul (by omega) this
          rw [wid _ (by omega) (by omega)]
          exact ⟨d0, d1⟩
      obtain ⟨L2, a3, b3, q1, q2, q3, q4⟩ := go _ a b hv.1 hv.2 ha
      refine ⟨L2, a3, b3, q1, q2, q3, Ev.step (fun k => by rw [spec_l1Draw.l0]) (Ev_pos (by omega) (Ev_neg m0 (Ev_neg m1 (Ev_neg m2 (Ev_neg (by omega) (Ev_neg ?_ q4))))))⟩
      rw [hx1]
      split <;> omega
theorem rep_bd (n : Nat) (hi : Int) (h : 0 ≤ hi) : ∀ x ∈ List.replicate n (0 : Int), 0 ≤ x ∧ x ≤ hi := by
  intro x hx
  rw [(List.mem_replicate.1 hx).2]
  omega
theorem pic_mk {w h : Int} {l : List Int} {m : Int} (hs : sizedB w h = true) (hl : l.length = h.toNat * w.toNat) (hx : ∀ x ∈ l, 0 ≤ x ∧ x ≤ m) : picB w h l m = true := by
  obtain ⟨h0, h1, h2, h3, h4⟩ := sized_spec hs
  unfold picB withinB
  rw [Bool.and_eq_true, Bool.and_eq_true, List.all_eq_true]
  have := area_eq (w := w) (h := h) (by omega) (by omega)
  exact ⟨hs, decide_eq_true (by omega), fun x hxl => decide_eq_true (hx x hxl)⟩
theorem sized_small {w h : Int} (h0 : 1 ≤ w) (h1 : w ≤ 16) (h2 : 1 ≤ h) (h3 : h ≤ 16) : sizedB w h = true := by
  have e : w * h ≤ 16 * 16 := Int.le_trans (Int.mul_le_mul_of_nonneg_right h1 (by omega)) (Int.mul_le_mul_of_nonneg_left h3 (by omega))
  exact decide_eq_true ⟨h0, by omega, h2, by omega, by omega⟩
theorem l1Draw_ok (s : List Int) (a b m : Int) (ha : 0 ≤ a) (hl : s.length ≤ maxLen) (h1 : 1 ≤ m) (h2 : m ≤ 16) : ∃ (w h : Int) (l : List Int) (a2 b2 : Int), picB w h l 255 = true ∧ w ≤ m ∧ h ≤ m ∧ 0 ≤ a2 ∧ Ev (fun k => spec_l1Draw.f k s a b m) (w, h, l, a2, b2) := by
  obtain ⟨w, a2, b2, e1, w0, w1, ha2⟩ := below_ok s a b m ha hl h1 (by omega)
  obtain ⟨h, a3, b3, e2, v0, v1, ha3⟩ := below_ok s a2 b2 m ha2 hl h1 (by omega)
  obtain ⟨q, a4, b4, e3, q0, q1, ha4⟩ := below_ok s a3 b3 4 ha3 hl (by omega) (by omega)
  have hs : sizedB (1 + w) (1 + h) = true := sized_small (by omega) (by omega) (by omega) (by omega)
  obtain ⟨g0, g1, g2, g3, g4⟩ := sized_spec hs
  have hn := area_eq (w := 1 + w) (h := 1 + h) (by omega) (by omega)
  obtain ⟨L2, a5, b5, p1, p2, p3, p4⟩ := drawn_ok s hl q (1 + w) (1 + h) q0 (by omega) (by omega) ((1 + h).toNat * (1 + w).toNat) (by omega) ((1 + h).toNat * (1 + w).toNat) 0 (List.replicate ((1 + h).toNat * (1 + w).toNat) 0) a4 b4 (by omega) (by simp) (rep_bd _ _ (by omega)) ha4
  refine ⟨1 + w, 1 + h, L2, a5, b5, pic_mk hs p1 p2, by omega, by omega, p3, ?_⟩
  unfold spec_l1Draw.f
  simp only [e1, e2, Option.bind_some]
  rw [wid (1 + w) (by omega) (by omega), wid (1 + h) (by omega) (by omega), l1Empty_eq _ _ hs]
  simp only [e3, Option.bind_some, List.length_replicate]
  exact p4
theorem MakePicture_ok (s : List Int) (m : Int) (hl : s.length ≤ maxLen) (h1 : 1 ≤ m) (h2 : m ≤ 16) : ∃ (w h : Int) (l : List Int), picB w h l 255 = true ∧ w ≤ m ∧ h ≤ m ∧ Ev (fun k => spec_MakePicture.f k s m) (w, h, l) := by
  obtain ⟨b, hb⟩ := new_ok s hl
  have hm : mx 1 (mn m 16) = m := by
    unfold mx mn
    rw [show (if 16 < m then (16 : Int) else m) = m from if_neg (by omega)]
    by_cases c : 1 < m
    · rw [if_pos c]
    · rw [if_neg c]
      omega
  obtain ⟨w, h, l, a2, b2, p1, p2, p3, p4, p5⟩ := l1Draw_ok s 0 b m (by omega) hl h1 h2
  refine ⟨w, h, l, p1, p2, p3, ?_⟩
  unfold spec_MakePicture.f
  rw [hm]
  exact Ev.bind hb (Ev.bind p5 (Ev.now _))
theorem MakeLike_ok (s : List Int) (w h : Int) (l : List Int) (hl : s.length ≤ maxLen) (hs : sizedB w h = true) : ∃ L : List Int, plateB w h L = true ∧ Ev (fun k => spec_MakeLike.f k s w h l) (w, h, L) := by
  obtain ⟨b, hb⟩ := new_ok s hl
  obtain ⟨g0, g1, g2, g3, g4⟩ := sized_spec hs
  have hn := area_eq (w := w) (h := h) (by omega) (by omega)
  have key : ∀ n : Nat, n ≤ 1048576 → ∀ (d i : Nat) (L : List Int) (a b : Int), i + d = n → L.length = n → (∀ x ∈ L, 0 ≤ x ∧ x ≤ 1) → 0 ≤ a →
      ∃ L2 : List Int, L2.length = n ∧ (∀ x ∈ L2, 0 ≤ x ∧ x ≤ 1) ∧ Ev (fun k => spec_MakeLike.l0 k (n : Int) (i : Int) s a b w h L) (w, h, L2) := by
    intro n hn d
    induction d with
    | zero =>
      intro i L a b hi hL hx ha
      refine ⟨L, hL, hx, Ev.step (fun k => by rw [spec_MakeLike.l0]) ?_⟩
      exact Ev_neg (by omega) (Ev.now _)
    | succ d ih =>
      intro i L a b hi hL hx ha
      obtain ⟨v, a3, b3, e, v0, v1, ha3⟩ := below_ok s a b 2 ha hl (by omega) (by omega)
      obtain ⟨L2, q1, q2, q3⟩ := ih (i + 1) (L.set i v) a3 b3 (by omega) (by rw [List.length_set]; exact hL) (mem_set_bd hx v0 (by omega)) ha3
      refine ⟨L2, q1, q2, Ev.step (fun k => by rw [spec_MakeLike.l0]) (Ev_pos (by omega) ?_)⟩
      rw [e]
      simp only [Option.bind_some]
      refine Ev_pos (by omega) (Ev_pos (by omega) ?_)
      rw [wsucc i (by omega), Int.toNat_natCast]
      exact q3
  obtain ⟨L2, p1, p2, p4⟩ := key (h.toNat * w.toNat) (by omega) (h.toNat * w.toNat) 0 (List.replicate (h.toNat * w.toNat) 0) 0 b (by omega) (by simp) (rep_bd _ _ (by omega)) (by omega)
  refine ⟨L2, by rw [plateB_eq]; exact pic_mk hs p1 p2, ?_⟩
  unfold spec_MakeLike.f
  refine Ev.bind hb ?_
  rw [l1Empty_eq _ _ hs]
  simp only [Option.bind_some, List.length_replicate]
  exact p4
theorem fresh_ok (s : List Int) (x : Int) (hl : s.length ≤ 1048576) : ∃ L : List Int, L.length ≤ maxLen ∧ Ev (fun k => laws_fresh.f k s x) L := by
  have key : ∀ (d i : Nat) (L : List Int), i + d = s.length → L.length = i + 1 → ∃ L2 : List Int, L2.length ≤ maxLen ∧ Ev (fun k => laws_fresh.l0 k s x L (i : Int)) L2 := by
    intro d
    induction d with
    | zero =>
      intro i L hi hL
      refine ⟨L, by unfold maxLen; omega, Ev.step (fun k => by rw [laws_fresh.l0]) ?_⟩
      exact Ev_neg (by omega) (Ev.now _)
    | succ d ih =>
      intro i L hi hL
      by_cases h : (i : Int) < 600
      · obtain ⟨L2, q1, q2⟩ := ih (i + 1) (L ++ [(wrap64 ((wrap64 ((wrap64 (rd s (i : Int))) * 3)) + (wrap64 (x * (wrap64 ((Int.tmod (i : Int) 7) + 1)))))) % 256]) (by omega) (by rw [List.length_append, hL]; rfl)
        refine ⟨L2, q1, Ev.step (fun k => ?_) q2⟩
        simp only [laws_fresh.l0]
        rw [if_pos (by omega), if_pos h, if_pos (by omega), if_pos (by omega), wsucc i (by omega)]
      · refine ⟨L, by unfold maxLen; omega, Ev.step (fun k => by rw [laws_fresh.l0]) ?_⟩
        exact Ev_pos (by omega) (Ev_neg h (Ev.now _))
  exact key s.length 0 _ (by omega) rfl
theorem at_ok (s : List Int) (n : Int) (hl : s.length ≤ 1048576) (h0 : 0 ≤ n) (h1 : n ≤ 100) (hx : ∀ x ∈ s, 0 ≤ x ∧ x ≤ 255) : ∃ v : Int, laws_at.f s n = some v ∧ 0 ≤ v ∧ v ≤ 255 := by
  unfold laws_at.f
  by_cases h : n < (s.length : Int)
  · rw [if_pos h, if_pos h0]
    obtain ⟨m, rfl⟩ : ∃ m : Nat, n = (m : Int) := ⟨n.toNat, by omega⟩
    rw [rd_nat]
    have := hx _ (getD_mem s m (by omega))
    rw [wid _ (by omega) (by omega)]
    exact ⟨_, rfl, this.1, this.2⟩
  · rw [if_neg h, wid (n * 37) (by omega) (by omega), wid ((s.length : Int) * 11) (by omega) (by omega), wid _ (by omega) (by omega)]
    refine ⟨_, rfl, Int.tmod_nonneg _ (by omega), ?_⟩
    have := Int.tmod_lt_of_pos (n * 37 + (s.length : Int) * 11) (b := 256) (by omega)
    omega
/-! Equal pictures, sums over pictures. -/
theorem laws_ints_ev (a b : List Int) (ha : a.length ≤ maxLen) : Ev (fun k => laws_ints.f k a b) (decide (a = b)) := by
  unfold maxLen at ha
  by_cases hl : a.length = b.length
  · have key : ∀ d i : Nat, i + d = a.length → (∀ j, j < i → a.getD j 0 = b.getD j 0) → Ev (fun k => laws_ints.l0 k a b (a.length : Int) (i : Int)) (decide (a = b)) := by
      intro d
      induction d with
      | zero =>
        intro i hi hj
        have : a = b := ext_getD hl (fun j h => hj j (by omega))
        rw [decide_eq_true this]
        refine Ev.step (f := fun _ => some true) (fun k => ?_) (Ev.now _)
        simp only [laws_ints.l0]
        rw [if_neg (by omega)]
      | succ d ih =>
        intro i hi hj
        by_cases e : a.getD i 0 = b.getD i 0
        · refine Ev.step (fun k => ?_) (ih (i + 1) (by omega) (fun j h => if hji : j = i then hji ▸ e else hj j (by omega)))
          simp only [laws_ints.l0]
          rw [if_pos (by omega), if_pos (by omega), if_pos (by omega), if_pos (by omega), rd_nat, rd_nat, if_pos e, wsucc i (by omega)]
        · rw [decide_eq_false (fun h => e (by rw [h]))]
          refine Ev.step (f := fun _ => some false) (fun k => ?_) (Ev.now _)
          simp only [laws_ints.l0]
          rw [if_pos (by omega), if_pos (by omega), if_pos (by omega), if_pos (by omega), rd_nat, rd_nat, if_neg e]
    unfold laws_ints.f
    exact Ev_pos (by omega) (key a.length 0 (by omega) (fun j h => absurd h (by omega)))
  · rw [decide_eq_false (fun h => hl (by rw [h]))]
    unfold laws_ints.f
    exact Ev_neg (by omega) (Ev.now _)
theorem same_ev (w h : Int) (l : List Int) (w2 h2 : Int) (l2 : List Int) (hl : l.length ≤ 1048576) : Ev (fun k => laws_same.f k w h l w2 h2 l2) (decide (w = w2 ∧ h = h2 ∧ l = l2)) := by
  unfold laws_same.f
  by_cases e1 : w = w2
  · refine Ev_pos e1 ?_
    by_cases e2 : h = h2
    · refine Ev_pos e2 ?_
      refine Ev.bind (laws_ints_ev l l2 (by unfold maxLen; omega)) ?_
      rw [show decide (w = w2 ∧ h = h2 ∧ l = l2) = decide (l = l2) by rw [decide_eq_decide]; simp [e1, e2]]
      exact Ev.now _
    · refine Ev_neg e2 ?_
      rw [decide_eq_false (by simp [e2])]
      exact Ev.now _
  · refine Ev_neg e1 ?_
    rw [decide_eq_false (by simp [e1])]
    exact Ev.now _
theorem same_self (w h : Int) (l : List Int) (w2 h2 : Int) (l2 : List Int) (hl : l.length ≤ 1048576) (e : w = w2 ∧ h = h2 ∧ l = l2) : Ev (fun k => laws_same.f k w h l w2 h2 l2) true := by
  have := same_ev w h l w2 h2 l2 hl
  rwa [decide_eq_true e] at this
theorem pic_small {w h : Int} {l : List Int} {m : Int} (hp : picB w h l m = true) : l.length ≤ 1024 := by
  obtain ⟨h0, h1, h2, h3, h4, h5, h6⟩ := pic_spec hp
  omega
theorem plate_pic {w h : Int} {l : List Int} (hp : plateB w h l = true) : picB w h l 255 = true := by
  unfold plateB at hp
  rw [Bool.and_eq_true] at hp
  exact hp.1
theorem u8_bd {l : List Int} (h : ∀ x ∈ l, (Lit.int .u8 x).wf = true) : ∀ x ∈ l, 0 ≤ x ∧ x ≤ 255 := by
  intro x hx
  have := h x hx
  simp [Lit.wf] at this
  have e1 : IntKind.u8.min = 0 := rfl
  have e2 : IntKind.u8.max = 255 := rfl
  omega
theorem rd_grid {w h : Int} (f : Int → Int → Int) (x y : Int) (h0 : 0 < w) (h1 : 0 < h) (hx0 : 0 ≤ x) (hx : x < w) (hy0 : 0 ≤ y) (hy : y < h) : rd (gridL w f (h.toNat * w.toNat)) (y * w + x) = f x y := by
  have hn := area_eq (w := w) (h := h) (by omega) (by omega)
  have e0 : 0 ≤ y * w := Int.mul_nonneg hy0 (by omega)
  have e1 : y * w ≤ (h - 1) * w := Int.mul_le_mul_of_nonneg_right (by omega) (by omega)
  have e2 : (h - 1) * w = w * h - w := by rw [Int.sub_mul, Int.one_mul, Int.mul_comm]
  obtain ⟨m, hm⟩ : ∃ m : Nat, y * w + x = (m : Int) := ⟨(y * w + x).toNat, by omega⟩
  obtain ⟨c0, c1⟩ := cell_of x y h0 hx0 hx
  rw [hm, rd_nat, gridL_tab, getD_tab _ _ _ (by omega)]
  unfold cellAt
  rw [← hm, c0, c1]
theorem grid_mem {w h : Int} {f : Int → Int → Int} {lo hi : Int} (h0 : 0 < w) (h1 : 0 < h) (hf : ∀ x y : Int, 0 ≤ x → x < w → 0 ≤ y → y < h → lo ≤ f x y ∧ f x y ≤ hi) : ∀ v ∈ gridL w f (h.toNat * w.toNat), lo ≤ v ∧ v ≤ hi := by
  intro v hv
  rw [gridL_tab] at hv
  obtain ⟨i, hi, rfl⟩ := List.mem_map.1 hv
  have hn := area_eq (w := w) (h := h) (by omega) (by omega)
  obtain ⟨b0, b1, b2, b3, b4⟩ := cell_bd (w := w) (h := h) i h0 h1 (by have := List.mem_range.1 hi; omega)
  exact hf _ _ b0 b1 b2 b3
theorem alike_mk {w h : Int} {l m : List Int} (hp : picB w h l 255 = true) (hq : picB w h m 255 = true) : alikeB w h l w h m = true := by
  unfold alikeB
  rw [hp, hq, decide_eq_true ⟨rfl, rfl⟩]
  rfl
theorem covers_ev {w h : Int} {l m : List Int} (hp : picB w h l 255 = true) (hq : picB w h m 255 = true) : Ev (fun k => impl_CoversPicture.f k w h l w h m) (coversL m l) := by
  have s1 := pic_small hp
  have s2 := pic_small hq
  have e1 := pic_len hp
  have e2 := pic_len hq
  unfold impl_CoversPicture.f
  rw [impl_alike.eq]
  simp only [Option.bind_some]
  exact Ev_pos (alike_mk hp hq) (implCov_ev m w h l (by omega) (by omega))
theorem coversL_iff (a b : List Int) : coversL a b = true ↔ ∀ i, i < a.length → a.getD i 0 ≤ b.getD i 0 := by
  unfold coversL
  rw [List.all_eq_true]
  constructor
  · intro h i hi
    have := of_decide_eq_true (h i (List.mem_range.2 hi))
    omega
  · intro h i hi
    have := h i (List.mem_range.1 hi)
    exact decide_eq_true (by omega)
/-! Matrices. -/
theorem l2Shape_eq (a b : Int) : spec_l2Shape.f a b = some (celledB a b) := by
  unfold spec_l2Shape.f celledB
  rw [l1In_eq, Option.bind_some]
  by_cases h0 : 1 ≤ a ∧ a ≤ 256
  · rw [decide_eq_true h0, if_pos rfl, l1In_eq, Option.bind_some]
    by_cases h1 : 1 ≤ b ∧ b ≤ 256
    · rw [decide_eq_true h1, if_pos rfl]
      have e0 : 0 ≤ a * b := Int.mul_nonneg (by omega) (by omega)
      have e1 : a * b ≤ 256 * 256 := Int.le_trans (Int.mul_le_mul_of_nonneg_right h0.2 (by omega)) (Int.mul_le_mul_of_nonneg_left h1.2 (by omega))
      rw [wid (a * b) (by omega) (by omega)]
      congr 1
      rw [decide_eq_decide]
      exact ⟨fun h => ⟨h0.1, h0.2, h1.1, h1.2, h⟩, fun h => h.2.2.2.2⟩
    · rw [decide_eq_false h1, if_neg (by simp), decide_eq_false (fun h => h1 ⟨h.2.2.1, h.2.2.2.1⟩)]
  · rw [decide_eq_false h0, if_neg (by simp), decide_eq_false (fun h => h0 ⟨h.1, h.2.1⟩)]
theorem rows_tab {w : Int} (n : Nat) (h0 : 0 < w) : gridL w (fun x y => y * w + x) n = (List.range n).map (fun i : Nat => (i : Int)) := by
  rw [gridL_tab]
  refine tab_congr _ _ _ (fun i _ => ?_)
  show (i : Int) / w * w + (i : Int) % w = i
  have := Int.mul_ediv_add_emod (i : Int) w
  rw [Int.mul_comm] at this
  exact this
theorem specRow_ev (w h : Int) : Ev (fun k => spec_RowMatrix.f k w h) (if celledB w h = true then (w, h, gridL w (fun x y => y * w + x) (Int.toNat h * Int.toNat w), true) else (0, 0, [], false)) := by
  unfold spec_RowMatrix.f
  rw [l2Shape_eq]
  simp only [Option.bind_some]
  by_cases hc : celledB w h = true
  · obtain ⟨h0, h1, h2, h3, h4⟩ := celled_spec hc
    have hn := area_eq (w := w) (h := h) (by omega) (by omega)
    have hp : 0 ≤ w * h := Int.mul_nonneg (by omega) (by omega)
    rw [if_pos hc, rows_tab _ (by omega)]
    refine Ev_pos hc ?_
    have key : ∀ d i : Nat, i + d = h.toNat * w.toNat → Ev (fun k => spec_RowMatrix.l0 k w h (i : Int) w h ((List.range i).map (fun i : Nat => (i : Int)))) (w, h, (List.range (h.toNat * w.toNat)).map (fun i : Nat => (i : Int)), true) := by
      intro d
      induction d with
      | zero =>
        intro i hi
        obtain rfl : i = h.toNat * w.toNat := by omega
        refine Ev.step (fun k => by rw [spec_RowMatrix.l0]) ?_
        exact Ev_neg (by rw [wid (w * h) (by omega) (by omega)]; omega) (Ev.now _)
      | succ d ih =>
        intro i hi
        have := ih (i + 1) (by omega)
        rw [List.range_succ, List.map_append, ← wsucc i (by omega)] at this
        refine Ev.step (fun k => by rw [spec_RowMatrix.l0]) ?_
        exact Ev_pos (by rw [wid (w * h) (by omega) (by omega)]; omega) (Ev_pos (by rw [List.length_map, List.length_range]; omega) this)
    exact key (h.toNat * w.toNat) 0 (by omega)
  · rw [if_neg hc]
    exact Ev_neg hc (Ev.now _)
/-! Ranks. -/
theorem specMod_ev (x w : Int) (hw : 0 < w) (hw2 : w ≤ 1000000000000) : spec_l2Mod.f x w = some (x % w) := by
  have b0 := Int.emod_nonneg x (b := w) (by omega)
  have b1 := Int.emod_lt_of_pos x hw
  unfold spec_l2Mod.f
  rw [if_neg (by omega)]
  by_cases hx : 0 ≤ x
  · rw [Int.tmod_eq_emod_of_nonneg hx, if_neg (by omega)]
  · have e : Int.tmod x w = -((-x) % w) := by
      rw [← Int.tmod_eq_emod_of_nonneg (by omega : 0 ≤ -x), Int.neg_tmod, Int.neg_neg]
    have c0 := Int.emod_nonneg (-x) (b := w) (by omega)
    have c1 := Int.emod_lt_of_pos (-x) hw
    rw [e]
    have d1 := Int.mul_ediv_add_emod x w
    have d2 := Int.mul_ediv_add_emod (-x) w
    by_cases hz : (-x) % w = 0
    · rw [hz, if_neg (by omega)]
      have : x % w = 0 := Int.emod_eq_zero_of_dvd ((Int.dvd_neg.1 (Int.dvd_of_emod_eq_zero hz)))
      rw [this]
      rfl
    · rw [if_pos (by omega), wid _ (by omega) (by omega)]
      congr 1
      have e3 : w * (x / w) + w * (-x / w) = w * (x / w + -x / w) := (Int.mul_add _ _ _).symm
      have k1 : x / w + -x / w < 0 := by
        by_cases k : 0 ≤ x / w + -x / w
        · have := Int.mul_nonneg (by omega : 0 ≤ w) k
          omega
        · omega
      have k2 : -2 < x / w + -x / w := by
        by_cases k : x / w + -x / w ≤ -2
        · have := Int.mul_le_mul_of_nonneg_left k (by omega : 0 ≤ w)
          omega
        · omega
      rw [show x / w + -x / w = -1 by omega] at e3
      omega
theorem rank_eq {w h : Int} {l : List Int} (hm : matB w h l = true) (x y : Int) : spec_l2Rank.f w h l x y = some (rd l (y % h * w + x % w)) ∧ impl_rank.f w h l x y = some (rd l (y % h * w + x % w)) := by
  obtain ⟨h0, h1, h2, h3, h4, h5, _⟩ := mat_spec hm
  have bx := Int.emod_nonneg x (b := w) (by omega)
  have bx' := Int.emod_lt_of_pos x (b := w) (by omega)
  have by_ := Int.emod_nonneg y (b := h) (by omega)
  have by' := Int.emod_lt_of_pos y (b := h) (by omega)
  have hb := idx_lt (w := w) (h := h) (x := x % w) (y := y % h) bx bx' by_ by'
  have hm0 : 0 ≤ y % h * w := Int.mul_nonneg (by omega) (by omega)
  unfold spec_l2Rank.f impl_rank.f
  rw [specMod_ev y h (by omega) (by omega), specMod_ev x w (by omega) (by omega), impl_mod.eq y h (by omega) (by omega), impl_mod.eq x w (by omega) (by omega)]
  simp only [Option.bind_some]
  rw [wid (y % h * w) (by omega) (by omega), wid (y % h * w + x % w) (by omega) (by omega), if_pos hb.1, if_pos (by omega)]
  exact ⟨rfl, rfl⟩
/-! Matrices reversed. -/
theorem mat_len {w h : Int} {l : List Int} (hm : matB w h l = true) : h.toNat * w.toNat = l.length := by
  obtain ⟨h0, h1, h2, h3, h4, h5, _⟩ := mat_spec hm
  have := area_eq (w := w) (h := h) (by omega) (by omega)
  omega
/-! What a matrix is. -/
theorem seenB_iff (n : Int) : ∀ (l : List Int) (s : List Bool), n ≤ (s.length : Int) → (seenB l n s = true ↔ (∀ x ∈ l, 0 ≤ x ∧ x < n ∧ s.getD x.toNat false = false) ∧ l.Nodup) := by
  intro l
  induction l with
  | nil => intro s _; simp [seenB]
  | cons x xs ih =>
    intro s hs
    unfold seenB
    by_cases c0 : x < 0
    · rw [if_pos c0]
      refine ⟨fun h => by simp at h, fun h => ?_⟩
      have := (h.1 x (List.mem_cons_self ..)).1
      omega
    rw [if_neg c0]
    by_cases c1 : x ≥ n
    · rw [if_pos c1]
      refine ⟨fun h => by simp at h, fun h => ?_⟩
      have := (h.1 x (List.mem_cons_self ..)).2.1
      omega
    rw [if_neg c1]
    by_cases c2 : s.getD x.toNat false = true
    · rw [if_pos c2]
      refine ⟨fun h => by simp at h, fun h => ?_⟩
      have := (h.1 x (List.mem_cons_self ..)).2.2
      rw [c2] at this
      cases this
    rw [if_neg c2, ih _ (by rw [List.length_set]; exact hs), List.nodup_cons]
    have key : ∀ y : Int, 0 ≤ y → ((s.set x.toNat true).getD y.toNat false = false ↔ y ≠ x ∧ s.getD y.toNat false = false) := by
      intro y hy
      simp only [List.getD_eq_getElem?_getD, List.getElem?_set]
      by_cases e : y = x
      · subst e
        rw [if_pos rfl, if_pos (by omega)]
        simp
      · rw [if_neg (by omega)]
        simp [e]
    constructor
    · rintro ⟨h1, h2⟩
      refine ⟨fun y hy => ?_, fun hx => ?_, h2⟩
      · rcases List.mem_cons.1 hy with rfl | hy
        · exact ⟨by omega, by omega, by simpa using c2⟩
        · have := h1 y hy
          exact ⟨this.1, this.2.1, ((key y this.1).1 this.2.2).2⟩
      · have := h1 x hx
        exact ((key x this.1).1 this.2.2).1 rfl
    · rintro ⟨h1, h2, h3⟩
      refine ⟨fun y hy => ?_, h3⟩
      have := h1 y (List.mem_cons_of_mem _ hy)
      exact ⟨this.1, this.2.1, (key y this.1).2 ⟨fun e => h2 (e ▸ hy), this.2.2⟩⟩
theorem rep_false (n i : Nat) : (List.replicate n false).getD i false = false := by
  rw [List.getD_eq_getElem?_getD, List.getElem?_replicate]
  split <;> rfl
theorem mat_iff (w h : Int) (l : List Int) : matB w h l = true ↔ celledB w h = true ∧ (l.length : Int) = w * h ∧ (∀ x ∈ l, 0 ≤ x ∧ x < (l.length : Int)) ∧ l.Nodup := by
  unfold matB
  rw [Bool.and_eq_true, Bool.and_eq_true, decide_eq_true_eq]
  constructor
  · rintro ⟨h1, h2, h3⟩
    have := celled_spec h1
    rw [seenB_iff _ _ _ (by rw [List.length_replicate]; omega)] at h3
    exact ⟨h1, h2, fun x hx => ⟨(h3.1 x hx).1, (h3.1 x hx).2.1⟩, h3.2⟩
  · rintro ⟨h1, h2, h3, h4⟩
    have := celled_spec h1
    refine ⟨h1, h2, ?_⟩
    rw [seenB_iff _ _ _ (by rw [List.length_replicate]; omega)]
    exact ⟨fun x hx => ⟨(h3 x hx).1, (h3 x hx).2, rep_false _ _⟩, h4⟩
theorem nodup_iff (l : List Int) : l.Nodup ↔ ∀ i j : Nat, i < l.length → j < l.length → l.getD i 0 = l.getD j 0 → i = j := by
  constructor
  · intro h i j hi hj e
    rw [getD_of_lt l 0 i hi, getD_of_lt l 0 j hj] at e
    exact (List.getElem_inj h).1 e
  · intro h
    rw [List.nodup_iff_pairwise_ne, List.pairwise_iff_getElem]
    intro i j hi hj hij e
    have := h i j hi hj (by rw [getD_of_lt l 0 i hi, getD_of_lt l 0 j hj]; exact e)
    omega
theorem tab_nodup (n : Nat) (f : Nat → Int) (h : ∀ i j : Nat, i < n → j < n → f i = f j → i = j) : ((List.range n).map f).Nodup := by
  rw [nodup_iff, len_tab]
  intro i j hi hj e
  rw [getD_tab _ _ _ hi, getD_tab _ _ _ hj] at e
  exact h i j hi hj e
theorem mat_tab {w h : Int} (n : Nat) (f : Nat → Int) (hc : celledB w h = true) (hn : (n : Int) = w * h) (hb : ∀ i, i < n → 0 ≤ f i ∧ f i < (n : Int)) (hi : ∀ i j : Nat, i < n → j < n → f i = f j → i = j) : matB w h ((List.range n).map f) = true := by
  rw [mat_iff, len_tab]
  refine ⟨hc, hn, fun x hx => ?_, tab_nodup n f hi⟩
  obtain ⟨i, hi, rfl⟩ := List.mem_map.1 hx
  exact hb i (List.mem_range.1 hi)
theorem mat_get {w h : Int} {l : List Int} (hm : matB w h l = true) : celledB w h = true ∧ (l.length : Int) = w * h ∧ (∀ i, i < l.length → 0 ≤ l.getD i 0 ∧ l.getD i 0 < (l.length : Int)) ∧ ∀ i j : Nat, i < l.length → j < l.length → l.getD i 0 = l.getD j 0 → i = j := by
  rw [mat_iff] at hm
  exact ⟨hm.1, hm.2.1, fun i hi => hm.2.2.1 _ (getD_mem l i hi), (nodup_iff l).1 hm.2.2.2⟩
theorem mat_moved {w h : Int} {l : List Int} (hm : matB w h l = true) (s : Nat → Nat) (hs : ∀ i, i < l.length → s i < l.length) (hi : ∀ i j : Nat, i < l.length → j < l.length → s i = s j → i = j) : matB w h ((List.range l.length).map (fun i => l.getD (s i) 0)) = true := by
  obtain ⟨a, b, c, d⟩ := mat_get hm
  exact mat_tab _ _ a b (fun i h => c _ (hs i h)) (fun i j h1 h2 e => hi i j h1 h2 (d _ _ (hs i h1) (hs j h2) e))
theorem mat_swap {w h : Int} {l : List Int} (hm : matB w h l = true) (i k : Nat) (hi : i < l.length) (hk : k < l.length) : matB w h ((l.set i (l.getD k 0)).set k (l.getD i 0)) = true := by
  have e : (l.set i (l.getD k 0)).set k (l.getD i 0) = (List.range l.length).map (fun j => l.getD (if j = k then i else if j = i then k else j) 0) := by
    apply ext_getD (by rw [List.length_set, List.length_set, len_tab])
    intro j hj
    rw [List.length_set, List.length_set] at hj
    rw [getD_tab _ _ _ hj, getD_set _ _ _ _ (by rw [List.length_set]; exact hk), getD_set _ _ _ _ hi]
    by_cases c : j = k
    · rw [if_pos c, if_pos c]
    · rw [if_neg c, if_neg c]
      by_cases c2 : j = i
      · rw [if_pos c2, if_pos c2]
      · rw [if_neg c2, if_neg c2]
  rw [e]
  refine mat_moved hm _ (fun j hj => ?_) (fun a b _ _ q => ?_)
  · split
    · exact hi
    · split
      · exact hk
      · exact hj
  · split at q <;> split at q <;> (try split at q) <;> (try split at q) <;> omega
/-! Doubling. -/
def dblG (w h : Int) (l : List Int) (x y : Int) : Int := wrap64 (wrap64 (4 * rd l (y % h * w + x % w)) + impl_DoubleMatrix.quarter w h x y)
theorem specDbl_ev {w h : Int} {l : List Int} (hm : matB w h l = true) : Ev (fun k => spec_l2Double.f k w h l) (2 * w, 2 * h, gridL (2 * w) (dblG w h l) (4 * l.length)) := by
  obtain ⟨a0, a1, a2, a3, a4, a5, _⟩ := mat_spec hm
  unfold spec_l2Double.f
  rw [wid (2 * w) (by omega) (by omega), wid (2 * h) (by omega) (by omega)]
  have key : ∀ d i : Nat, i + d = 4 * l.length → Ev (fun k => spec_l2Double.l0 k (i : Int) w h l (2 * w) (2 * h) (gridL (2 * w) (dblG w h l) i)) (2 * w, 2 * h, gridL (2 * w) (dblG w h l) (4 * l.length)) := by
    intro d
    induction d with
    | zero =>
      intro i hi
      obtain rfl : i = 4 * l.length := by omega
      exact Ev.step (fun k => by rw [spec_l2Double.l0]) (Ev_neg (by rw [wid _ (by omega) (by omega)]; omega) (Ev.now _))
    | succ d ih =>
      intro i hi
      have nx := ih (i + 1) (by omega)
      have harea : (i : Int) < 2 * w * (2 * h) := by
        have : 2 * w * (2 * h) = 4 * (w * h) := by rw [Int.mul_assoc, Int.mul_left_comm w 2 h]; omega
        omega
      obtain ⟨b0, b1, b2, b3, b4⟩ := cell_bd (w := 2 * w) (h := 2 * h) i (by omega) (by omega) harea
      rw [gridL_succ] at nx
      have ec : cellAt (2 * w) (dblG w h l) i = dblG w h l ((i : Int) % (2 * w)) ((i : Int) / (2 * w)) := rfl
      rw [ec, ← wsucc i (by omega)] at nx
      have hlen := gridL_len (2 * w) (dblG w h l) i
      refine Ev.step (fun k => by rw [spec_l2Double.l0]) (Ev_pos (by rw [wid _ (by omega) (by omega)]; omega) (Ev_neg (by omega) ?_))
      rw [tmod_nat, tdiv_nat i (2 * w) (by omega), wid ((i : Int) / (2 * w)) (by omega) (by omega)]
      generalize (i : Int) % (2 * w) = x at b0 b1 nx ⊢
      generalize (i : Int) / (2 * w) = y at b2 b3 nx ⊢
      have er := (rank_eq hm x y).1
      unfold dblG impl_DoubleMatrix.quarter at nx
      by_cases cx : x < w
      · refine Ev_neg (by omega) (Ev.step (fun k => by rw [spec_l2Double.j1]) (Ev_neg (by simp) (Ev_pos cx (Ev.step (fun k => by rw [spec_l2Double.j2]) ?_))))
        by_cases cy : y < h
        · rw [if_pos cy, if_pos cx] at nx
          refine Ev_neg (by rw [decide_eq_false (by omega)]; simp) (Ev_neg (by omega) ?_)
          rw [er]
          exact Ev_pos (by omega) nx
        · rw [if_neg cy, if_pos cx] at nx
          refine Ev_pos (decide_eq_true (by omega)) ?_
          rw [er]
          exact Ev_pos (by omega) nx
      · refine Ev_pos (by omega) (Ev.step (fun k => by rw [spec_l2Double.j1]) ?_)
        by_cases cy : y < h
        · rw [if_pos cy, if_neg cx] at nx
          refine Ev_pos (decide_eq_true cy) ?_
          rw [er]
          exact Ev_pos (by omega) nx
        · rw [if_neg cy, if_neg cx] at nx
          refine Ev_neg (by rw [decide_eq_false cy]; simp) (Ev_neg cx (Ev.step (fun k => by rw [spec_l2Double.j2]) (Ev_neg (by simp) (Ev_pos (by omega) (Ev_pos (by omega) ?_)))))
          rw [er]
          exact Ev_pos (by omega) nx
  exact key (4 * l.length) 0 (by omega)
theorem celled_dbl {w h : Int} {l : List Int} (hm : matB w h l = true) : celledB (2 * w) (2 * h) = true ↔ ¬ 4 * (l.length : Int) > 256 := by
  obtain ⟨a0, a1, a2, a3, a4, a5, _⟩ := mat_spec hm
  have e : 2 * w * (2 * h) = 4 * (w * h) := by rw [Int.mul_assoc, Int.mul_left_comm w 2 h]; omega
  constructor
  · intro hc
    have := celled_spec hc
    omega
  · intro hc
    have b0 : w * 1 ≤ w * h := Int.mul_le_mul_of_nonneg_left a2 (by omega)
    have b1 : 1 * h ≤ w * h := Int.mul_le_mul_of_nonneg_right a0 (by omega)
    exact decide_eq_true (by omega)
/-- The doubled ranks, in plain numbers. -/
def dblF (w h : Int) (l : List Int) (i : Nat) : Int := 4 * rd l ((i : Int) / (2 * w) % h * w + (i : Int) % (2 * w) % w) + impl_DoubleMatrix.quarter w h ((i : Int) % (2 * w)) ((i : Int) / (2 * w))
theorem quarter_bd (w h x y : Int) : 0 ≤ impl_DoubleMatrix.quarter w h x y ∧ impl_DoubleMatrix.quarter w h x y ≤ 3 := by
  unfold impl_DoubleMatrix.quarter
  split <;> split <;> omega
theorem quarter_inj {w h x y u v : Int} (e : impl_DoubleMatrix.quarter w h x y = impl_DoubleMatrix.quarter w h u v) : (x < w ↔ u < w) ∧ (y < h ↔ v < h) := by
  unfold impl_DoubleMatrix.quarter at e
  by_cases a : x < w <;> by_cases b : y < h <;> by_cases c : u < w <;> by_cases d : v < h <;> simp [a, b, c, d] at e ⊢
theorem rd_mod {w h : Int} {l : List Int} (hm : matB w h l = true) (x y : Int) : 0 ≤ y % h * w + x % w ∧ y % h * w + x % w < (l.length : Int) ∧ 0 ≤ rd l (y % h * w + x % w) ∧ rd l (y % h * w + x % w) < (l.length : Int) := by
  obtain ⟨a0, a1, a2, a3, a4, a5, _⟩ := mat_spec hm
  have b := idx_lt (w := w) (h := h) (x := x % w) (y := y % h) (Int.emod_nonneg _ (by omega)) (Int.emod_lt_of_pos _ (by omega)) (Int.emod_nonneg _ (by omega)) (Int.emod_lt_of_pos _ (by omega))
  have c := ((mat_iff w h l).1 hm).2.2.1 _ (rd_mem l _ b.1 (by omega))
  omega
theorem dbl_tab {w h : Int} {l : List Int} (hm : matB w h l = true) (n : Nat) : gridL (2 * w) (dblG w h l) n = (List.range n).map (dblF w h l) := by
  obtain ⟨a0, a1, a2, a3, a4, a5, _⟩ := mat_spec hm
  rw [gridL_tab]
  refine tab_congr _ _ _ (fun i _ => ?_)
  have r := rd_mod hm ((i : Int) % (2 * w)) ((i : Int) / (2 * w))
  have q := quarter_bd w h ((i : Int) % (2 * w)) ((i : Int) / (2 * w))
  show wrap64 (wrap64 (4 * rd l _) + _) = _
  rw [wid (4 * rd l _) (by omega) (by omega), wid _ (by omega) (by omega)]
  rfl
theorem half_mod (x w : Int) (h0 : 0 ≤ x) (h1 : x < 2 * w) (hw : 0 < w) : x % w = if x < w then x else x - w := by
  by_cases c : x < w
  · rw [if_pos c, Int.emod_eq_of_lt h0 c]
  · rw [if_neg c]
    have : x = (x - w) + w * 1 := by omega
    rw [this, Int.add_mul_emod_self_left, Int.emod_eq_of_lt (by omega) (by omega)]
    omega
theorem mat_dbl {w h : Int} {l : List Int} (hm : matB w h l = true) (hc : ¬ 4 * (l.length : Int) > 256) : matB (2 * w) (2 * h) ((List.range (4 * l.length)).map (dblF w h l)) = true := by
  obtain ⟨a0, a1, a2, a3, a4, a5, _⟩ := mat_spec hm
  obtain ⟨g0, g1, g2, g3⟩ := mat_get hm
  have e : 2 * w * (2 * h) = 4 * (w * h) := by rw [Int.mul_assoc, Int.mul_left_comm w 2 h]; omega
  refine mat_tab _ _ ((celled_dbl hm).2 hc) (by push_cast; omega) (fun i hi => ?_) (fun i j hi hj q => ?_)
  · have r := rd_mod hm ((i : Int) % (2 * w)) ((i : Int) / (2 * w))
    have q := quarter_bd w h ((i : Int) % (2 * w)) ((i : Int) / (2 * w))
    unfold dblF
    push_cast
    omega
  · unfold dblF at q
    obtain ⟨b0, b1, b2, b3, b4⟩ := cell_bd (w := 2 * w) (h := 2 * h) i (by omega) (by omega) (by omega)
    obtain ⟨c0, c1, c2, c3, c4⟩ := cell_bd (w := 2 * w) (h := 2 * h) j (by omega) (by omega) (by omega)
    have ri := rd_mod hm ((i : Int) % (2 * w)) ((i : Int) / (2 * w))
    have rj := rd_mod hm ((j : Int) % (2 * w)) ((j : Int) / (2 * w))
    have mx := half_mod ((i : Int) % (2 * w)) w b0 b1 (by omega)
    have my := half_mod ((i : Int) / (2 * w)) h b2 b3 (by omega)
    have nx := half_mod ((j : Int) % (2 * w)) w c0 c1 (by omega)
    have ny := half_mod ((j : Int) / (2 * w)) h c2 c3 (by omega)
    have x0 := Int.emod_nonneg ((i : Int) % (2 * w)) (b := w) (by omega)
    have x1 := Int.emod_lt_of_pos ((i : Int) % (2 * w)) (b := w) (by omega)
    have y0 := Int.emod_nonneg ((j : Int) % (2 * w)) (b := w) (by omega)
    have y1 := Int.emod_lt_of_pos ((j : Int) % (2 * w)) (b := w) (by omega)
    have inj := g3 ((i : Int) / (2 * w) % h * w + (i : Int) % (2 * w) % w).toNat ((j : Int) / (2 * w) % h * w + (j : Int) % (2 * w) % w).toNat (by omega) (by omega)
    have qi := quarter_bd w h ((i : Int) % (2 * w)) ((i : Int) / (2 * w))
    have qj := quarter_bd w h ((j : Int) % (2 * w)) ((j : Int) / (2 * w))
    have er : rd l ((i : Int) / (2 * w) % h * w + (i : Int) % (2 * w) % w) = rd l ((j : Int) / (2 * w) % h * w + (j : Int) % (2 * w) % w) := by omega
    have eq : impl_DoubleMatrix.quarter w h ((i : Int) % (2 * w)) ((i : Int) / (2 * w)) = impl_DoubleMatrix.quarter w h ((j : Int) % (2 * w)) ((j : Int) / (2 * w)) := by omega
    have ei := inj er
    have e2 : (i : Int) / (2 * w) % h * w + (i : Int) % (2 * w) % w = (j : Int) / (2 * w) % h * w + (j : Int) % (2 * w) % w := by omega
    have d1 := cell_of (w := w) ((i : Int) % (2 * w) % w) ((i : Int) / (2 * w) % h) (by omega) x0 x1
    have d2 := cell_of (w := w) ((j : Int) % (2 * w) % w) ((j : Int) / (2 * w) % h) (by omega) y0 y1
    rw [e2] at d1
    have f1 : (i : Int) % (2 * w) % w = (j : Int) % (2 * w) % w := d1.1.symm.trans d2.1
    have f2 : (i : Int) / (2 * w) % h = (j : Int) / (2 * w) % h := d1.2.symm.trans d2.2
    obtain ⟨p1, p2⟩ := quarter_inj eq
    have k1 : (i : Int) % (2 * w) = (j : Int) % (2 * w) := by
      rw [mx, nx] at f1
      by_cases c : (i : Int) % (2 * w) < w
      · rw [if_pos c, if_pos (p1.1 c)] at f1
        exact f1
      · rw [if_neg c, if_neg (fun q => c (p1.2 q))] at f1
        omega
    have k2 : (i : Int) / (2 * w) = (j : Int) / (2 * w) := by
      rw [my, ny] at f2
      by_cases c : (i : Int) / (2 * w) < h
      · rw [if_pos c, if_pos (p2.1 c)] at f2
        exact f2
      · rw [if_neg c, if_neg (fun q => c (p2.2 q))] at f2
        omega
    rw [k1, k2, c4] at b4
    omega
/-! Bayer's matrices. -/
def bayM : Nat → List Int
  | 0 => [0]
  | k + 1 => (List.range (4 * (bayM k).length)).map (dblF (2 ^ k) (2 ^ k) (bayM k))
theorem bayM_len (k : Nat) : (bayM k).length = 4 ^ k := by
  induction k with
  | zero => rfl
  | succ k ih =>
    show ((List.range (4 * (bayM k).length)).map _).length = _
    rw [List.length_map, List.length_range, ih, Nat.pow_succ, Nat.mul_comm]
theorem four_le (k : Nat) (hk : k < 4) : (4 : Nat) ^ k ≤ 64 := by
  match k, hk with
  | 0, _ => decide
  | 1, _ => decide
  | 2, _ => decide
  | 3, _ => decide
theorem bayM_mat (k : Nat) (hk : k ≤ 4) : matB (2 ^ k) (2 ^ k) (bayM k) = true := by
  induction k with
  | zero => decide
  | succ k ih =>
    have h4 := four_le k (by omega)
    have := mat_dbl (ih (by omega)) (by rw [bayM_len]; omega)
    rw [Int.pow_succ, Int.mul_comm]
    exact this
theorem specBayM_ev (n : Nat) (hn : n ≤ 4) : Ev (fun k => spec_BayerMatrix.f k (n : Int)) (2 ^ n, 2 ^ n, bayM n, true) := by
  unfold spec_BayerMatrix.f
  rw [l1In_eq]
  simp only [Option.bind_some]
  refine Ev_pos (decide_eq_true (by omega)) ?_
  have key : ∀ d i : Nat, i + d = n → Ev (fun k => spec_BayerMatrix.l0 k (d : Int) (2 ^ i) (2 ^ i) (bayM i)) (2 ^ n, 2 ^ n, bayM n, true) := by
    intro d
    induction d with
    | zero =>
      intro i hi
      obtain rfl : i = n := by omega
      exact Ev.step (fun k => by rw [spec_BayerMatrix.l0]) (Ev_neg (by omega) (Ev.now _))
    | succ d ih =>
      intro i hi
      have nx := ih (i + 1) (by omega)
      refine Ev.step (fun k => by rw [spec_BayerMatrix.l0]) (Ev_pos (by omega) ?_)
      have hd := specDbl_ev (bayM_mat i (by omega))
      rw [dbl_tab (bayM_mat i (by omega))] at hd
      refine Ev.bind hd ?_
      rw [wid _ (by omega) (by omega), show ((d + 1 : Nat) : Int) - 1 = (d : Int) by omega]
      have e : (2 : Int) * 2 ^ i = 2 ^ (i + 1) := by rw [Int.pow_succ, Int.mul_comm]
      dsimp only
      rw [e]
      exact nx
  exact key n 0 (by omega)
/-! Sums round about. -/
theorem Ev_eq {α : Type} {x : Option α} {a : α} (h : x = some a) : Ev (fun _ => x) a := ⟨0, fun _ _ => h⟩
def lessI (v u : Int) : Int := if u < v then 1 else 0
theorem lessI_bd (v u : Int) : 0 ≤ lessI v u ∧ lessI v u ≤ 1 := by
  unfold lessI
  split <;> omega
/-! Levels. -/
theorem lvl_spec {n v : Int} (h0 : 0 ≤ n) (h1 : n ≤ 256) (v0 : 0 ≤ v) (v1 : v ≤ 255) : 0 ≤ v * n ∧ v * n ≤ 255 * n ∧ 510 * lvlW n v ≤ v * n * 2 + 255 ∧ v * n * 2 + 255 < 510 * lvlW n v + 510 := by
  have p := Int.mul_nonneg v0 h0
  have q := Int.mul_le_mul_of_nonneg_right v1 h0
  unfold lvlW
  rw [wid (v * n) (by omega) (by omega), wid (v * n * 2) (by omega) (by omega), wid (v * n * 2 + 255) (by omega) (by omega), Int.tdiv_eq_ediv_of_nonneg (by omega), wid _ (by omega) (by omega)]
  omega
theorem lvl_mono {n v u : Int} (h0 : 0 ≤ n) (h1 : n ≤ 256) (v0 : 0 ≤ v) (vu : v ≤ u) (u1 : u ≤ 255) : lvlW n v ≤ lvlW n u := by
  have a := lvl_spec h0 h1 v0 (by omega)
  have b := lvl_spec h0 h1 (by omega) u1
  have c := Int.mul_le_mul_of_nonneg_right vu h0
  omega
def rdyM (f : Nat) (a0 : Int) : Bool := match spec_SpiralMatrix.f f a0 with
  | some (a, b, l, c) => a == a0 && (b == a0 && (c && matB a b l))
  | none => false
theorem rdyM_1 : rdyM 5 1 = true := by decide +kernel
theorem rdyM_2 : rdyM 11 2 = true := by decide +kernel
theorem rdyM_3 : rdyM 21 3 = true := by decide +kernel
theorem rdyM_4 : rdyM 35 4 = true := by decide +kernel
theorem rdyM_5 : rdyM 53 5 = true := by decide +kernel
theorem rdyM_all (a : Int) (h0 : 1 ≤ a) (h1 : a ≤ 5) : ∃ f, rdyM f a = true := by
  obtain rfl | rfl | rfl | rfl | rfl : a = 1 ∨ a = 2 ∨ a = 3 ∨ a = 4 ∨ a = 5 := by omega
  · exact ⟨_, rdyM_1⟩
  · exact ⟨_, rdyM_2⟩
  · exact ⟨_, rdyM_3⟩
  · exact ⟨_, rdyM_4⟩
  · exact ⟨_, rdyM_5⟩
theorem spiral_ev (n : Int) (h0 : 1 ≤ n) (h1 : n ≤ 5) : ∃ l : List Int, matB n n l = true ∧ Ev (fun k => spec_SpiralMatrix.f k n) (n, n, l, true) := by
  obtain ⟨f, h⟩ := rdyM_all n h0 h1
  unfold rdyM at h
  split at h
  · rename_i a b l c e
    simp only [Bool.and_eq_true, beq_iff_eq] at h
    obtain ⟨rfl, rfl, rfl, h5⟩ := h
    exact ⟨l, h5, Ev.of (fun k => spec_SpiralMatrix.mono _ k) e⟩
  · exact absurd h (by simp)
theorem rows_mat {w h : Int} (hc : celledB w h = true) : matB w h (gridL w (fun x y => y * w + x) (h.toNat * w.toNat)) = true := by
  obtain ⟨h0, h1, h2, h3, h4⟩ := celled_spec hc
  have hn := area_eq (w := w) (h := h) (by omega) (by omega)
  rw [rows_tab _ (by omega)]
  exact mat_tab _ _ hc hn (fun i hi => by omega) (fun i j _ _ e => by omega)
theorem shuffle_ok (s : List Int) (hl : s.length ≤ maxLen) (w h : Int) : ∀ (i : Nat) (l : List Int) (a b : Int), matB w h l = true → 0 ≤ a → i < l.length → i ≤ 255 → ∃ (L : List Int) (a2 b2 : Int), matB w h L = true ∧ Ev (fun k => spec_l2Draw.l0 k (i : Int) s a b w h l) (w, h, L, a2, b2) := by
  intro i
  induction i with
  | zero =>
    intro l a b hm ha hi h2
    exact ⟨l, a, b, hm, Ev.step (fun k => by rw [spec_l2Draw.l0]) (Ev_neg (by simp) (Ev.now _))⟩
  | succ i ih =>
    intro l a b hm ha hi h2
    obtain ⟨v, a2, b2, e, v0, v1, ha2⟩ := below_ok s a b ((i : Int) + 1 + 1) ha hl (by omega) (by omega)
    obtain ⟨m, rfl⟩ : ∃ m : Nat, v = (m : Int) := ⟨v.toNat, by omega⟩
    obtain ⟨L, a3, b3, h3, h4⟩ := ih _ a2 b2 (mat_swap hm (i + 1) m hi (by omega)) ha2 (by rw [List.length_set, List.length_set]; omega) (by omega)
    refine ⟨L, a3, b3, h3, Ev.step (fun k => by rw [spec_l2Draw.l0]) (Ev_pos (by omega) ?_)⟩
    rw [wid (((i + 1 : Nat) : Int) + 1) (by omega) (by omega), wid (((i + 1 : Nat) : Int) - 1) (by omega) (by omega), Int.natCast_add i 1, show ((1 : Nat) : Int) = 1 from rfl, e]
    simp only [Option.bind_some]
    refine Ev_pos (by omega) (Ev_pos (by omega) (Ev_pos (by omega) (Ev_pos (by omega) ?_)))
    rw [show (i : Int) + 1 - 1 = (i : Int) by omega, show (i : Int) + 1 = ((i + 1 : Nat) : Int) by omega, rd_nat, rd_nat, Int.toNat_natCast, Int.toNat_natCast]
    exact h4
theorem pow_le8 (n : Nat) (hn : n ≤ 3) : (2 : Int) ^ n ≤ 8 := by
  match n, hn with
  | 0, _ => decide
  | 1, _ => decide
  | 2, _ => decide
  | 3, _ => decide
theorem l2Draw_ok (s : List Int) (a b : Int) (ha : 0 ≤ a) (hl : s.length ≤ maxLen) : ∃ (w h : Int) (l : List Int) (a2 b2 : Int), matB w h l = true ∧ w ≤ 8 ∧ h ≤ 8 ∧ Ev (fun k => spec_l2Draw.f k s a b) (w, h, l, a2, b2) := by
  obtain ⟨q, a2, b2, e1, q0, q1, ha2⟩ := below_ok s a b 4 ha hl (by omega) (by omega)
  unfold spec_l2Draw.f
  simp only [e1, Option.bind_some]
  by_cases c0 : q = 0
  · obtain ⟨t, a3, b3, e2, t0, t1, ha3⟩ := below_ok s a2 b2 4 ha2 hl (by omega) (by omega)
    obtain ⟨n, rfl⟩ : ∃ n : Nat, t = (n : Int) := ⟨t.toNat, by omega⟩
    refine ⟨2 ^ n, 2 ^ n, bayM n, a3, b3, bayM_mat n (by omega), pow_le8 n (by omega), pow_le8 n (by omega), Ev_pos c0 ?_⟩
    simp only [e2, Option.bind_some]
    exact Ev.bind (specBayM_ev n (by omega)) (Ev.now _)
  · by_cases c1 : q = 1
    · obtain ⟨t, a3, b3, e2, t0, t1, ha3⟩ := below_ok s a2 b2 5 ha2 hl (by omega) (by omega)
      obtain ⟨l, hm, hs⟩ := spiral_ev (1 + t) (by omega) (by omega)
      refine ⟨1 + t, 1 + t, l, a3, b3, hm, by omega, by omega, Ev_neg c0 (Ev_pos c1 ?_)⟩
      simp only [e2, Option.bind_some]
      rw [wid (1 + t) (by omega) (by omega)]
      exact Ev.bind hs (Ev.now _)
    · obtain ⟨t, a3, b3, e2, t0, t1, ha3⟩ := below_ok s a2 b2 5 ha2 hl (by omega) (by omega)
      obtain ⟨u, a4, b4, e3, u0, u1, ha4⟩ := below_ok s a3 b3 5 ha3 hl (by omega) (by omega)
      have ar : (1 + t) * (1 + u) ≤ 5 * 5 := Int.le_trans (Int.mul_le_mul_of_nonneg_right (show 1 + t ≤ 5 by omega) (by omega)) (Int.mul_le_mul_of_nonneg_left (by omega) (by omega))
      have ar2 : 0 < (1 + t) * (1 + u) := Int.mul_pos (by omega) (by omega)
      have hc : celledB (1 + t) (1 + u) = true := decide_eq_true ⟨by omega, by omega, by omega, by omega, by omega⟩
      have hr := specRow_ev (1 + t) (1 + u)
      rw [if_pos hc] at hr
      have hm := rows_mat hc
      have hlen := mat_len hm
      have hn := area_eq (w := 1 + t) (h := 1 + u) (by omega) (by omega)
      obtain ⟨L, a5, b5, h3, h4⟩ := shuffle_ok s hl (1 + t) (1 + u) ((gridL (1 + t) (fun x y => y * (1 + t) + x) ((1 + u).toNat * (1 + t).toNat)).length - 1) _ a4 b4 hm ha4 (by omega) (by omega)
      refine ⟨1 + t, 1 + u, L, a5, b5, h3, by omega, by omega, Ev_neg c0 (Ev_neg c1 ?_)⟩
      simp only [e2, e3, Option.bind_some]
      rw [wid (1 + t) (by omega) (by omega), wid (1 + u) (by omega) (by omega)]
      refine Ev.bind hr ?_
      dsimp only
      rw [wid _ (by omega) (by omega), show ((gridL (1 + t) (fun x y => y * (1 + t) + x) ((1 + u).toNat * (1 + t).toNat)).length : Int) - 1 = (((gridL (1 + t) (fun x y => y * (1 + t) + x) ((1 + u).toNat * (1 + t).toNat)).length - 1 : Nat) : Int) by omega]
      exact h4
theorem MakeMatrix_ok (s : List Int) (hl : s.length ≤ maxLen) : ∃ (w h : Int) (l : List Int), matB w h l = true ∧ w ≤ 8 ∧ h ≤ 8 ∧ sizedB w h = true ∧ Ev (fun k => spec_MakeMatrix.f k s) (w, h, l) := by
  obtain ⟨b, hb⟩ := new_ok s hl
  obtain ⟨w, h, l, a2, b2, h1, h2, h3, h4⟩ := l2Draw_ok s 0 b (by omega) hl
  obtain ⟨a0, a1, a2, a3, _⟩ := mat_spec h1
  refine ⟨w, h, l, h1, h2, h3, sized_small a0 (by omega) a2 (by omega), ?_⟩
  unfold spec_MakeMatrix.f
  exact Ev.bind hb (Ev.bind h4 (Ev.now _))
theorem levelOf_eq {w h : Int} {l : List Int} (hm : matB w h l = true) (v : Int) (v0 : 0 ≤ v) (v1 : v ≤ 255) : impl_LevelOf.f w h l v = some (lvlW (l.length : Int) v) := by
  unfold impl_LevelOf.f impl_level.f
  rw [impl_IsMatrix.eq]
  simp only [Option.bind_some]
  rw [if_pos hm, if_neg (by omega), if_neg (by omega)]
  rfl
def sumQ (l m : List Int) (i : Nat) : Int := mn 255 (m.getD i 0 + l.getD i 0)
def sumQL (l m : List Int) : List Int := (List.range l.length).map (sumQ l m)
theorem sumQ_bd {w h : Int} {l m : List Int} (hp : picB w h l 255 = true) (hq : picB w h m 255 = true) (i : Nat) (hi : i < l.length) : l.getD i 0 ≤ sumQ l m i ∧ 0 ≤ sumQ l m i ∧ sumQ l m i ≤ 255 ∧ 0 ≤ m.getD i 0 + l.getD i 0 ∧ m.getD i 0 + l.getD i 0 ≤ 510 := by
  obtain ⟨_, _, _, _, _, h5, h6⟩ := pic_spec hp
  obtain ⟨_, _, _, _, _, g5, g6⟩ := pic_spec hq
  have a := h6 _ (getD_mem l i hi)
  have b := g6 _ (getD_mem m i (by omega))
  unfold sumQ mn
  split <;> omega
theorem sumQ_pic {w h : Int} {l m : List Int} (hp : picB w h l 255 = true) (hq : picB w h m 255 = true) : picB w h (sumQL l m) 255 = true := by
  obtain ⟨h0, h1, h2, h3, h4, h5, h6⟩ := pic_spec hp
  refine pic_mk (decide_eq_true ⟨h0, h1, h2, h3, h4⟩) (by unfold sumQL; rw [len_tab]; exact (pic_len hp).symm) (fun x hx => ?_)
  obtain ⟨i, hi, rfl⟩ := List.mem_map.1 hx
  have := sumQ_bd hp hq i (List.mem_range.1 hi)
  omega
theorem alikeQ {w h : Int} {l m : List Int} (hp : picB w h l 255 = true) (hq : picB w h m 255 = true) : alikeB w h l w h m = true := by
  unfold alikeB
  rw [hp, hq, decide_eq_true ⟨rfl, rfl⟩]
  rfl
theorem specAddQ_ev {w h : Int} {l m : List Int} (hp : picB w h l 255 = true) (hq : picB w h m 255 = true) : Ev (fun k => spec_AddPictures.f k w h l w h m) (w, h, sumQL l m, true) := by
  have sl := pic_small hp
  have sm := pic_small hq
  obtain ⟨h0, h1, h2, h3, h4, h5, h6⟩ := pic_spec hp
  obtain ⟨_, _, _, _, _, g5, g6⟩ := pic_spec hq
  have hs : sizedB w h = true := decide_eq_true ⟨h0, h1, h2, h3, h4⟩
  unfold spec_AddPictures.f
  refine Ev.bind (l1Pair_ev w h l w h m (by omega) (by omega)) (Ev_pos (alikeQ hp hq) ?_)
  rw [l1Empty_eq w h hs, pic_len hp]
  simp only [Option.bind_some]
  unfold sumQL
  have key : ∀ d i : Nat, i + d = l.length → Ev (fun k => spec_AddPictures.l0 k m (m.length : Int) (i : Int) w h l w h (fill l.length id (sumQ l m) i)) (w, h, (List.range l.length).map (sumQ l m), true) := by
    intro d
    induction d with
    | zero =>
      intro i hi
      obtain rfl : i = l.length := by omega
      refine Ev.step (fun k => by rw [spec_AddPictures.l0]) ?_
      rw [fill_all_id]
      exact Ev_neg (by omega) (Ev.now _)
    | succ d ih =>
      intro i hi
      have hb := sumQ_bd hp hq i (by omega)
      have nx := ih (i + 1) (by omega)
      rw [← fill_set_id _ (sumQ l m) i (by omega), ← wsucc i (by omega)] at nx
      refine Ev.step (fun k => by rw [spec_AddPictures.l0]) (Ev_pos (by omega) (Ev_pos (by omega) (Ev_pos (by omega) (Ev_pos (by omega) (Ev_pos (by rw [fill_len]; omega) ?_)))))
      rw [rd_nat, rd_nat, wid (m.getD i 0 + l.getD i 0) (by omega) (by omega), Int.toNat_natCast]
      exact nx
  have := key l.length 0 (by omega)
  rw [fill_zero] at this
  exact this
/-! For the laws on matrices. -/
theorem levelOf_ex {w h : Int} {l : List Int} (hm : matB w h l = true) (v : Int) (v0 : 0 ≤ v) (v1 : v ≤ 255) : ∃ V : Int, lvlW (l.length : Int) v = V ∧ impl_LevelOf.f w h l v = some V ∧ 510 * V ≤ v * (l.length : Int) * 2 + 255 ∧ v * (l.length : Int) * 2 + 255 < 510 * V + 510 := by
  have hsz := (mat_spec hm).2.2.2.2
  have s := lvl_spec (n := (l.length : Int)) (v := v) (by omega) (by omega) v0 v1
  exact ⟨_, rfl, levelOf_eq hm v v0 v1, s.2.2.1, s.2.2.2⟩
def scrL (w h : Int) (l : List Int) (v a b : Int) : List Int := gridL a (fun x y => lessI v (rd l (y % h * w + x % w))) (b.toNat * a.toNat)
theorem scr_eq {w h : Int} {l : List Int} (hm : matB w h l = true) (v a b : Int) (v0 : 0 ≤ v) (v1 : v ≤ (l.length : Int)) (hs : sizedB a b = true) : impl_ScreenLevel.f w h l v a b = some (a, b, scrL w h l v a b, true) := if_pos ⟨hm, v0, v1, hs⟩
/-! What covers keeps its dots. -/
def scpL (w h : Int) (l : List Int) (u v : Int) (p : List Int) : List Int := gridL u (fun x y => lessI (lvlW (l.length : Int) (rd p (y * u + x))) (rd l (y % h * w + x % w))) (v.toNat * u.toNat)
theorem scp_eq {w h : Int} {l : List Int} (hm : matB w h l = true) {u v : Int} {p : List Int} (hp : picB u v p 255 = true) : impl_ScreenPicture.f w h l u v p = some (u, v, scpL w h l u v p) := if_pos ⟨hm, hp⟩
theorem scp_plate (w h : Int) (l : List Int) {u v : Int} {p : List Int} (hp : picB u v p 255 = true) : plateB u v (scpL w h l u v p) = true := by
  obtain ⟨h0, h1, h2, h3, h4, h5, h6⟩ := pic_spec hp
  rw [plateB_eq]
  exact pic_mk (decide_eq_true ⟨h0, h1, h2, h3, h4⟩) (gridL_len _ _ _) (grid_mem (by omega) (by omega) (fun x y _ _ _ _ => lessI_bd _ _))
theorem less_le {a b u : Int} (h : a ≤ b) : lessI a u ≤ lessI b u := by
  unfold lessI
  split <;> split <;> omega
theorem scp_covers {w h : Int} {l : List Int} (hm : matB w h l = true) {u v : Int} {p q : List Int} (hp : picB u v p 255 = true) (hq : picB u v q 255 = true) (hpq : ∀ i, i < p.length → p.getD i 0 ≤ q.getD i 0) : coversL (scpL w h l u v p) (scpL w h l u v q) = true := by
  obtain ⟨h0, h1, h2, h3, h4, h5, h6⟩ := pic_spec hp
  obtain ⟨_, _, _, _, _, g5, g6⟩ := pic_spec hq
  have hz := (mat_spec hm).2.2.2.2
  have hn := area_eq (w := u) (h := v) (by omega) (by omega)
  rw [coversL_iff]
  intro i hi
  unfold scpL at hi ⊢
  rw [gridL_len] at hi
  obtain ⟨b0, b1, b2, b3, b4⟩ := cell_bd (w := u) (h := v) i (by omega) (by omega) (by omega)
  rw [gridL_tab, gridL_tab, getD_tab _ _ _ hi, getD_tab _ _ _ hi]
  show lessI (lvlW (l.length : Int) (rd p ((i : Int) / u * u + (i : Int) % u))) _ ≤ lessI (lvlW (l.length : Int) (rd q ((i : Int) / u * u + (i : Int) % u))) _
  rw [b4, rd_nat, rd_nat]
  have a1 := h6 _ (getD_mem p i (by omega))
  have a2 := g6 _ (getD_mem q i (by omega))
  exact less_le (lvl_mono (by omega) (by omega) a1.1 (hpq i (by omega)) a2.2)
/-- The law FnStacked: a picture that covers another one keeps its dots when both are screened, and screening a flat picture screens its level; for the inputs that the law draws. -/
theorem FnStacked (l0 : List Int) (h0_ : l0.length ≤ maxLen) (h1_ : l0.length * 1 ≤ 140737488351232) (h2_ : (∀ x ∈ l0, (Lit.int .u8 x).wf = true)) :
    ∃ k, P.laws_FnStacked.f k l0 = some true := by
  refine Ev.rounds ?_
  unfold laws_FnStacked.f
  by_cases hl : (l0.length : Int) > 1048576
  · exact Ev_pos hl (Ev.now _)
  refine Ev_neg hl ?_
  obtain ⟨w, h, l, hm, hw, hh, hs, HM⟩ := MakeMatrix_ok l0 h0_
  obtain ⟨L, hL, HF⟩ := fresh_ok l0 3 (by omega)
  obtain ⟨u, v, p, hp, hu, hv, HP⟩ := MakePicture_ok L 9 hL (by omega) (by omega)
  obtain ⟨L2, hL2, HF2⟩ := fresh_ok l0 5 (by omega)
  obtain ⟨g0, g1, g2, g3, g4, g5, g6⟩ := pic_spec hp
  have hsz : sizedB u v = true := decide_eq_true ⟨g0, g1, g2, g3, g4⟩
  obtain ⟨m, hq, HK⟩ := MakeLike_ok L2 u v p hL2 hsz
  obtain ⟨a, ea, a0, a1⟩ := at_ok l0 1 (by omega) (by omega) (by omega) (u8_bd h2_)
  obtain ⟨z0, z1, z2, z3, z4, z5, _⟩ := mat_spec hm
  have hqp := plate_pic hq
  have hsum := sumQ_pic hp hqp
  have pl1 := scp_plate w h l hp
  have pl2 := scp_plate w h l hsum
  refine Ev.bind HM (Ev.bind HF (Ev.bind HP (Ev.bind HF2 (Ev.bind HK (Ev.bind (specAddQ_ev hp hqp) (Ev.bind (Ev_eq (scp_eq hm hp)) (Ev.bind (Ev_eq (scp_eq hm hsum)) (Ev.bind (Ev_eq (impl_IsPlate.eq _ _ _)) (Ev_pos pl1 (Ev.bind (Ev_eq (impl_IsPlate.eq _ _ _)) (Ev_pos pl2 (Ev.bind (covers_ev (plate_pic pl2) (plate_pic pl1)) ?_))))))))))))
  have hcov : coversL (scpL w h l u v p) (scpL w h l u v (sumQL p m)) = true := scp_covers hm hp hsum (fun i hi => by
    unfold sumQL
    rw [getD_tab _ _ _ hi]
    exact (sumQ_bd hp hqp i hi).1)
  rw [hcov]
  obtain ⟨V, eV, eL, s0, s1⟩ := levelOf_ex hm a a0 a1
  have m0 : 0 ≤ a * (l.length : Int) := Int.mul_nonneg a0 (by omega)
  have m1 : a * (l.length : Int) ≤ 255 * (l.length : Int) := Int.mul_le_mul_of_nonneg_right a1 (by omega)
  have hfl : impl_FlatPicture.f u v a = some (u, v, gridL u (fun _ _ => a) (v.toNat * u.toNat), true) := if_pos ⟨hsz, a0, a1⟩
  have hF : picB u v (gridL u (fun _ _ => a) (v.toNat * u.toNat)) 255 = true := pic_mk hsz (gridL_len _ _ _) (grid_mem (by omega) (by omega) (fun x y _ _ _ _ => ⟨a0, a1⟩))
  refine Ev.step (fun k => by rw [laws_FnStacked.j0]) (Ev_neg (by simp) (Ev.bind (Ev_eq ea) (Ev.bind (Ev_eq hfl) (Ev.bind (Ev_eq eL) (Ev.bind (Ev_eq (scr_eq hm V u v (by omega) (by omega) hsz)) (Ev_pos rfl (Ev_pos rfl (Ev.bind (Ev_eq (scp_eq hm hF)) (Ev.bind (same_self u v (scpL w h l u v (gridL u (fun _ _ => a) (v.toNat * u.toNat))) u v (scrL w h l V u v) (by
    have := pic_small (plate_pic (scp_plate w h l hF))
    omega) ⟨rfl, rfl, ?_⟩) (Ev.now _))))))))))
  unfold scpL scrL
  rw [gridL_tab u (fun x y => lessI (lvlW (l.length : Int) (rd (gridL u (fun _ _ => a) (v.toNat * u.toNat)) (y * u + x))) (rd l (y % h * w + x % w))), gridL_tab u (fun x y => lessI V (rd l (y % h * w + x % w)))]
  refine tab_congr _ _ _ (fun i hi => ?_)
  have hn := area_eq (w := u) (h := v) (by omega) (by omega)
  obtain ⟨b0, b1, b2, b3, b4⟩ := cell_bd (w := u) (h := v) i (by omega) (by omega) (by omega)
  show lessI (lvlW (l.length : Int) (rd (gridL u (fun _ _ => a) (v.toNat * u.toNat)) ((i : Int) / u * u + (i : Int) % u))) (rd l ((i : Int) / u % h * w + (i : Int) % u % w)) = lessI V (rd l ((i : Int) / u % h * w + (i : Int) % u % w))
  rw [rd_grid _ _ _ (by omega) (by omega) b0 b1 b2 b3, eV]
end Go.Proofs.Ytdlehfnlibddcaa.Q

namespace Go.Proofs.Ytdlehfnlibddcaa.fnStacked
open Go.ChangeShapes Go.WideShapes Go.ChangeAt Go.RowKit
open Go.ChangeMaps (open_string shut_string)
set_option linter.unusedVariables false
set_option maxRecDepth 100000 in
theorem lifted (os : Os) (started : os.Started) (H : Type) (enc : TypeId × Value → H) :
    ReturnsInHanded {} Try.checked os 22 .any (Rows.fnStackedSpec.pre6 enc Try.prog Try.f22 Rows.fnStackedRow.domain false) (Rows.fnStackedSpec.post enc Try.prog Try.f22 false true false false) := by
  refine returnsInHanded_of_change_sized (C := Try.checked) R.own started (by kernel_rfl) Try.func22
    (ChangeSpec.witness6 (enc := enc) (C := Try.checked) false ⟨#[], #[.slice none 0 0], []⟩ 8 (by kernel_rfl) (by kernel_rfl) (by kernel_rfl) (by kernel_rfl)) ?_
  intro W base args ds gs before hval0 hW hcnd hsz0 _
  have hsz : (DataW.weightsEach Try.prog (Try.f22.params.toList ++ Rows.fnStackedSpec.plain.varTypes Try.prog) (ds ++ gs)).all (· ≤ reachBytes) = true := hsz0
  have hval : ∀ (j : Nat) t v, Try.f22.params[j]? = some t → args[j]? = some v → Value.okWide Try.prog W .any base t v := hval0
  have hW' := hW
  obtain ⟨p, q, hA0, hV, rfl, hfz, hnd⟩ := hW
  have hA : DataW.TrodAll enc Try.prog W 0 (fun _ => true) true Try.f22.params.toList args.toList ds p := hA0
  rw [Try.params22] at hA hval hsz
  obtain ⟨v0, vs0, d0, ds0, p0, q0, hargs, rfl, rfl, h0, r0⟩ := trodAll_cons hA
  obtain ⟨rfl, rfl, rfl⟩ := trodAll_nil r0
  obtain rfl : args = #[v0] := by cases args; simp_all
  obtain ⟨rfl, rfl⟩ := trodVars_none hV
  have k0 := h0
  have lt0 : ∀ x ∈ p0, x.block < W.heap.size := by obtain ⟨m, hm⟩ := k0; exact DataW.trod_lt m _ _ _ hm
  obtain ⟨A0, l0, c0, rfl, hr0, hc0, hm0, hw0⟩ := R.slice_reads Try.underlying22 Try.underlying5 (by kernel_rfl) (hval 0 22 v0 rfl rfl) h0
  have y0 : l0.length * 1 ≤ 140737488351232 := Go.Proofs.YtdlehfnlibddcaaW.PrintWords.sized_ints hsz (j := 0) (t := 22) rfl rfl Try.underlying22 Try.underlying5 (by kernel_rfl) (by kernel_rfl) k0
  clear hA0 hval0 hsz0 hsz
  obtain ⟨k, hk⟩ := Q.FnStacked l0 hm0 y0 hw0
  refine (P.laws_FnStacked.calls (r := true) (w := W) (hT := ⟨rfl⟩) (hr0 := hr0) (hc0 := hc0) (h := hk)).mono fun e W' ⟨he, bel⟩ => ?_
  subst he
  exact ⟨_, rfl, _, _, _, [], _, [], hW', trodAll_mk1 (shut_bool Try.underlying4 _), (trodAll_cons_mk (Below.trod R.laidOut (by kernel_rfl) (of_decide_eq_true (by kernel_rfl)) k0 bel lt0) trodAll_mk0), rfl, bel.frame _, fun h => by cases h⟩
set_option maxRecDepth 100000 in
theorem facts : joinedFacts Try.prog 22 Try.f22 Rows.fnStackedSpec Rows.fnStackedRow = true := by
  unfold joinedFacts
  repeat' with_reducible apply K.and_true'
  all_goals first | with_reducible exact K.mayEnter_ok | (rw [K.make_ok]; as_aux_lemma => kernel_rfl) | (rw [K.liftsFinal_ok]; as_aux_lemma => kernel_rfl) | (rw [K.inPlace_ok]; as_aux_lemma => kernel_rfl) | (rw [K.unfollowed_ok]; as_aux_lemma => kernel_rfl) | (rw [K.recurses_ok]; as_aux_lemma => kernel_rfl) | (rw [K.varsNamed_ok]; as_aux_lemma => kernel_rfl) | (as_aux_lemma => kernel_rfl)
theorem over : Rows.fnStackedRow.holds Try.pinned (OpenSpec.ofChange Rows.fnStackedSpec) :=
  OpenClaim.holds_of_wide 22 Try.f22 rfl rfl rfl rfl rfl rfl rfl ⟨rfl, rfl, rfl, rfl, rfl⟩ rfl rfl rfl rfl rfl (by kernel_rfl) Try.func22 facts
    (of_decide_eq_true (by kernel_rfl)) (by unfold Func.isWrapper; first | (rw [if_pos (by decide +kernel)]; kernel_rfl) | (rw [if_neg (by decide +kernel)]; exact ⟨rfl, rfl⟩))
    (fun os started H enc _ => lifted os started H enc)
theorem proved : Rows.FnStackedSaid := over
end Go.Proofs.Ytdlehfnlibddcaa.fnStacked
namespace Go.Proofs.Ytdlehfnlibddcaa
theorem fnStacked_holds : Rows.FnStackedSaid := fnStacked.proved
#print axioms fnStacked_holds
end Go.Proofs.Ytdlehfnlibddcaa
