/- The law FnNegative: a negative's negative is the picture, and the two together are white; for the inputs that the law draws. -/
import Derived.Laws.BitsLemmas
import Derived.Test.YtbgbbfdmgpcgmaaFimplIsPicture
import Derived.Test.YtbgbbfdmgpcgmaaFimplIsPlate
import Derived.Test.YtbgbbfdmgpcgmaaFimplNegativePicture
import Derived.Test.YtbgbbfdmgpcgmaaFimplSumInk
import Derived.Test.YtbgbbfdmgpcgmaaFlawsFnNegative
import Derived.Test.YtbgbbfdmgpcgmaaFlawsfresh
import Derived.Test.YtbgbbfdmgpcgmaaFlawsints
import Derived.Test.YtbgbbfdmgpcgmaaFlawssame
import Derived.Test.YtbgbbfdmgpcgmaaFlawstotal
import Derived.Test.YtbgbbfdmgpcgmaaFpre
import Derived.Test.YtbgbbfdmgpcgmaaFspecIsPlate
import Derived.Test.YtbgbbfdmgpcgmaaFspecMakePicture
import Derived.Test.YtbgbbfdmgpcgmaaFspecMakePlate
import Derived.Test.YtbgbbfdmgpcgmaaFspecl01Below
import Derived.Test.YtbgbbfdmgpcgmaaFspecl01Byte
import Derived.Test.YtbgbbfdmgpcgmaaFspecl01Int
import Derived.Test.YtbgbbfdmgpcgmaaFspecl01New
import Derived.Test.YtbgbbfdmgpcgmaaFspecl01Once
import Derived.Test.YtbgbbfdmgpcgmaaFspecl1Draw
import Derived.Test.YtbgbbfdmgpcgmaaFspecl1Empty
import Derived.Test.YtbgbbfdmgpcgmaaFspecl1In
import Derived.Test.YtbgbbfdmgpcgmaaFspecl1Size
import Derived.Test.YtbgbbfdmgpcgmaaFspecl1Up
import Derived.Test.YtbgbbfdmgpcgmaaP0
namespace Go.Proofs.Ytbgbbfdmgpcgmaa.Q
open Go.RowKit Go.Proofs.Ytbgbbfdmgpcgmaa.P Go.Proofs.YtbgbbfdmgpcgmaaW.PrintWords
set_option linter.unusedVariables false
set_option linter.unusedSimpArgs false
theorem wsucc (i : Nat) (h : i < 9223372036854775807) : wrap64 ((i : Int) + 1) = ((i + 1 : Nat) : Int) := by unfold wrap64; omega
theorem wid (x : Int) (h0 : -9223372036854775808 ≤ x) (h1 : x ≤ 9223372036854775807) : wrap64 x = x := by unfold wrap64; omega
theorem rd_nat (l : List Int) (i : Nat) : rd l (i : Int) = l.getD i 0 := by unfold rd; rw [Int.toNat_natCast]
theorem getD_of_lt {α : Type} (l : List α) (d : α) (i : Nat) (h : i < l.length) : l.getD i d = l[i] := by simp [List.getD_eq_getElem?_getD, List.getElem?_eq_getElem h]
theorem getD_mem (l : List Int) (i : Nat) (h : i < l.length) : l.getD i 0 ∈ l := by rw [getD_of_lt l 0 i h]; exact List.getElem_mem h
theorem ext_getD {a b : List Int} (hl : a.length = b.length) (h : ∀ i, i < a.length → a.getD i 0 = b.getD i 0) : a = b := by
  apply List.ext_getElem hl
  intro i h1 h2
  have := h i h1
  rwa [getD_of_lt a 0 i h1, getD_of_lt b 0 i h2] at this
theorem getD_tab (n : Nat) (f : Nat → Int) (j : Nat) (h : j < n) : ((List.range n).map f).getD j 0 = f j := by
  simp [List.getD_eq_getElem?_getD, List.getElem?_map, List.getElem?_range h]
theorem len_tab (n : Nat) (f : Nat → Int) : ((List.range n).map f).length = n := by simp
theorem tab_self (l : List Int) : (List.range l.length).map (fun i => l.getD i 0) = l := by
  apply ext_getD (by simp)
  intro i hi
  rw [len_tab] at hi
  rw [getD_tab _ _ _ hi]
/-! Sums. -/
def sumTo (l : List Int) (i : Nat) : Int := (l.take i).foldl (· + ·) 0
theorem foldl_add (l : List Int) (a : Int) : l.foldl (· + ·) a = a + l.foldl (· + ·) 0 := by
  induction l generalizing a with
  | nil => simp
  | cons x r ih => simp only [List.foldl_cons]; rw [ih (a + x), ih (0 + x)]; omega
def sumL (l : List Int) : Int := l.foldl (· + ·) 0
theorem sumL_append (a b : List Int) : sumL (a ++ b) = sumL a + sumL b := by unfold sumL; rw [List.foldl_append, foldl_add]
theorem sumL_one (x : Int) : sumL [x] = x := by simp [sumL]
theorem sumL_cons (x : Int) (l : List Int) : sumL (x :: l) = x + sumL l := by rw [show x :: l = [x] ++ l from rfl, sumL_append, sumL_one]
theorem sumTo_succ (l : List Int) (i : Nat) (h : i < l.length) : sumTo l (i + 1) = sumTo l i + l.getD i 0 := by
  unfold sumTo
  rw [List.take_succ_eq_append_getElem h, List.foldl_append, getD_of_lt l 0 i h]
  simp
theorem sumTo_zero (l : List Int) : sumTo l 0 = 0 := by simp [sumTo]
theorem sumTo_all (l : List Int) : sumTo l l.length = sumL l := by simp [sumTo, sumL]
theorem sumTo_bd (l : List Int) (lo hi : Int) (h0 : lo ≤ 0) (h1 : 0 ≤ hi) (h : ∀ x ∈ l, lo ≤ x ∧ x ≤ hi) (i : Nat) (hi' : i ≤ l.length) : lo * i ≤ sumTo l i ∧ sumTo l i ≤ hi * i := by
  induction i with
  | zero => simp [sumTo_zero]
  | succ i ih =>
    have ih := ih (by omega)
    have hm := h _ (getD_mem l i (by omega))
    rw [sumTo_succ l i (by omega)]
    push_cast
    rw [Int.mul_add, Int.mul_add]
    omega
theorem Ev_pos {α : Type} {c : Prop} [Decidable c] {f g : Nat → Option α} {r : α} (hc : c) (h : Ev f r) : Ev (fun k => if c then f k else g k) r := Ev.congr (fun k => if_pos hc) h
theorem Ev_neg {α : Type} {c : Prop} [Decidable c] {f g : Nat → Option α} {r : α} (hc : ¬ c) (h : Ev g r) : Ev (fun k => if c then f k else g k) r := Ev.congr (fun k => if_neg hc) h
/-! The reference's pictures. -/
theorem l1In_eq (x a b : Int) : spec_l1In.f x a b = some (decide (a ≤ x ∧ x ≤ b)) := by
  unfold spec_l1In.f
  by_cases h : x ≥ a
  · rw [if_pos h]
    congr 1
    rw [decide_eq_decide]
    omega
  · rw [if_neg h, decide_eq_false (by omega)]
theorem l1Size_eq (a0 a1 : Int) : spec_l1Size.f a0 a1 = some (sizedB a0 a1) := by
  unfold spec_l1Size.f sizedB
  rw [l1In_eq, Option.bind_some]
  by_cases h0 : 1 ≤ a0 ∧ a0 ≤ 64
  · rw [decide_eq_true h0, if_pos rfl, l1In_eq, Option.bind_some]
    by_cases h1 : 1 ≤ a1 ∧ a1 ≤ 64
    · rw [decide_eq_true h1, if_pos rfl]
      have e0 : 0 ≤ a0 * a1 := Int.mul_nonneg (by omega) (by omega)
      have e1 : a0 * a1 ≤ 64 * 64 := Int.le_trans (Int.mul_le_mul_of_nonneg_right h0.2 (by omega)) (Int.mul_le_mul_of_nonneg_left h1.2 (by omega))
      rw [wid (a0 * a1) (by omega) (by omega)]
      congr 1
      rw [decide_eq_decide]
      exact ⟨fun h => ⟨h0.1, h0.2, h1.1, h1.2, h⟩, fun h => h.2.2.2.2⟩
    · rw [decide_eq_false h1, if_neg (by simp), decide_eq_false (fun h => h1 ⟨h.2.2.1, h.2.2.2.1⟩)]
  · rw [decide_eq_false h0, if_neg (by simp), decide_eq_false (fun h => h0 ⟨h.1, h.2.1⟩)]
theorem l1Up_ev (w h : Int) (l : List Int) (m : Int) (hl : l.length ≤ 1048576) : Ev (fun k => spec_l1Up.f k w h l m) (picB w h l m) := by
  have key : ∀ d i : Nat, i + d = l.length → Ev (fun k => spec_l1Up.l0 k m l (l.length : Int) (i : Int)) ((l.drop i).all fun n => decide (0 ≤ n ∧ n ≤ m)) := by
    intro d
    induction d with
    | zero =>
      intro i hi
      rw [List.drop_eq_nil_of_le (by omega)]
      refine Ev.step (f := fun _ => some true) (fun k => ?_) (Ev.now _)
      simp only [spec_l1Up.l0]
      rw [if_neg (by omega)]
    | succ d ih =>
      intro i hi
      rw [List.drop_eq_getElem_cons (by omega), List.all_cons]
      have hr : rd l (i : Int) = l[i] := by rw [rd_nat, getD_of_lt]
      by_cases e : 0 ≤ l[i] ∧ l[i] ≤ m
      · rw [decide_eq_true e, Bool.true_and]
        refine Ev.step (fun k => ?_) (ih (i + 1) (by omega))
        simp only [spec_l1Up.l0]
        rw [if_pos (by omega), if_pos (by omega), if_pos (by omega), l1In_eq, Option.bind_some, hr, decide_eq_true e, if_pos rfl, wsucc i (by omega)]
      · rw [decide_eq_false e, Bool.false_and]
        refine Ev.step (f := fun _ => some false) (fun k => ?_) (Ev.now _)
        simp only [spec_l1Up.l0]
        rw [if_pos (by omega), if_pos (by omega), if_pos (by omega), l1In_eq, Option.bind_some, hr, decide_eq_false e, if_neg (by simp)]
  unfold spec_l1Up.f picB
  rw [l1Size_eq]
  simp only [Option.bind_some]
  cases hs : sizedB w h with
  | false =>
    simp only [Bool.false_and]
    refine Ev.step (f := fun _ => some false) (fun k => ?_) (Ev.now _)
    rw [if_neg (by simp)]
    simp only [spec_l1Up.j0]
    rw [if_pos trivial]
  | true =>
    obtain ⟨h0, h1, h2, h3, h4⟩ := sized_spec hs
    have e0 : 0 ≤ w * h := Int.mul_nonneg (by omega) (by omega)
    rw [wid (w * h) (by omega) (by omega)]
    simp only [Bool.true_and, if_true]
    by_cases e : (l.length : Int) = w * h
    · rw [decide_eq_true e, Bool.true_and]
      refine Ev.step (fun k => ?_) (key l.length 0 (by omega))
      simp only [spec_l1Up.j0]
      rw [if_neg (by simp [e])]
      rfl
    · rw [decide_eq_false e, Bool.false_and]
      refine Ev.step (f := fun _ => some false) (fun k => ?_) (Ev.now _)
      simp only [spec_l1Up.j0]
      rw [if_pos (by simp [e])]
theorem within_le (l : List Int) (a b : Int) (h : a ≤ b) (hw : withinB l a = true) : withinB l b = true := by
  unfold withinB at hw ⊢
  rw [List.all_eq_true] at hw ⊢
  intro x hx
  have := of_decide_eq_true (hw x hx)
  exact decide_eq_true (by omega)
theorem plateB_eq (w h : Int) (l : List Int) : plateB w h l = picB w h l 1 := by
  unfold plateB picB
  cases sizedB w h <;> simp only [Bool.false_and, Bool.true_and]
  cases decide ((l.length : Int) = w * h) <;> simp only [Bool.false_and, Bool.true_and]
  cases hb : withinB l 1 with
  | false => rw [Bool.and_false]
  | true => rw [within_le l 1 255 (by omega) hb, Bool.and_true]
theorem specIsPlate_ev (w h : Int) (l : List Int) (hl : l.length ≤ 1048576) : Ev (fun k => spec_IsPlate.f k w h l) (plateB w h l) := by
  rw [plateB_eq]
  unfold spec_IsPlate.f
  exact Ev.bind (l1Up_ev w h l 1 hl) (Ev.now _)
theorem l1Empty_eq (w h : Int) (hs : sizedB w h = true) : spec_l1Empty.f w h = some (w, h, List.replicate (h.toNat * w.toNat) 0) := by
  obtain ⟨h0, h1, h2, h3, h4⟩ := sized_spec hs
  have e0 : 0 ≤ w * h := Int.mul_nonneg (by omega) (by omega)
  unfold spec_l1Empty.f
  rw [wid (w * h) (by omega) (by omega), if_pos e0, if_pos (by omega)]
  have : (w * h).toNat = h.toNat * w.toNat := by rw [Int.toNat_mul (by omega) (by omega), Nat.mul_comm]
  rw [this]
theorem gridL_tab (w : Int) (f : Int → Int → Int) (n : Nat) : gridL w f n = (List.range n).map fun i => cellAt w f i := rfl
theorem area_eq {w h : Int} (h0 : 0 ≤ w) (h1 : 0 ≤ h) : ((h.toNat * w.toNat : Nat) : Int) = w * h := by
  rw [Int.natCast_mul, Int.toNat_of_nonneg h0, Int.toNat_of_nonneg h1, Int.mul_comm]
theorem tmod_nat (i : Nat) (w : Int) : Int.tmod (i : Int) w = (i : Int) % w := Int.tmod_eq_emod_of_nonneg (by omega)
theorem implSum_ev (w h : Int) (l : List Int) (hl : l.length ≤ 1048576) : Ev (fun k => impl_SumInk.f k w h l) (if picB w h l 255 = true then sumL l else 0) := by
  unfold impl_SumInk.f
  rw [impl_IsPicture.eq]
  simp only [Option.bind_some]
  by_cases hp : picB w h l 255 = true
  · obtain ⟨h0, h1, h2, h3, h4, h5, h6⟩ := pic_spec hp
    simp only [if_pos hp]
    have key : ∀ d i : Nat, i + d = l.length → Ev (fun k => impl_SumInk.l0 k (sumTo l i) l (l.length : Int) (i : Int)) (sumL l) := by
      intro d
      induction d with
      | zero =>
        intro i hi
        obtain rfl : i = l.length := by omega
        refine Ev.step (f := fun _ => some (sumL l)) (fun k => ?_) (Ev.now _)
        simp only [impl_SumInk.l0]
        rw [if_neg (by omega), sumTo_all]
      | succ d ih =>
        intro i hi
        have hb := sumTo_bd l 0 255 (by omega) (by omega) h6 (i + 1) (by omega)
        have hs := sumTo_succ l i (by omega)
        refine Ev.step (fun k => ?_) (ih (i + 1) (by omega))
        simp only [impl_SumInk.l0]
        rw [if_pos (by omega), if_pos (by omega), if_pos (by omega), rd_nat, ← hs, wid (sumTo l (i + 1)) (by omega) (by omega), wsucc i (by omega)]
    have := key l.length 0 (by omega)
    rw [sumTo_zero] at this
    exact this
  · simp only [if_neg hp]
    exact Ev.now _
theorem sumL_bd (l : List Int) (lo hi : Int) (h0 : lo ≤ 0) (h1 : 0 ≤ hi) (h : ∀ x ∈ l, lo ≤ x ∧ x ≤ hi) : lo * l.length ≤ sumL l ∧ sumL l ≤ hi * l.length := by
  rw [← sumTo_all]
  exact sumTo_bd l lo hi h0 h1 h l.length (Nat.le_refl _)
/-! Pictures made from a picture. -/
theorem pic_len {w h : Int} {l : List Int} {m : Int} (hp : picB w h l m = true) : h.toNat * w.toNat = l.length := by
  obtain ⟨h0, h1, h2, h3, h4, h5, h6⟩ := pic_spec hp
  have := area_eq (w := w) (h := h) (by omega) (by omega)
  omega
/-! The drawing of inputs. -/
theorem and255 (n : Int) : Go.bits .and .i64 n 255 = n % 256 := by
  have h127 : (BitVec.ofInt 64 255).toNat = 2 ^ 8 - 1 := by decide
  have key : (BitVec.ofInt 64 n &&& BitVec.ofInt 64 255).toNat = (n % ((2 ^ 64 : Nat) : Int)).toNat % 2 ^ 8 := by
    rw [BitVec.toNat_and, BitVec.toNat_ofInt, h127, Nat.and_two_pow_sub_one_eq_mod]
  show IntKind.i64.wrap ((BitVec.ofInt 64 n &&& BitVec.ofInt 64 255).toNat : Nat) = n % 256
  rw [key, IntKind.wrap_i64]
  omega
theorem byte_ok (s : List Int) (a b : Int) (ha : 0 ≤ a) (hl : s.length ≤ maxLen) : ∃ v a2 b2 : Int, spec_l01Byte.f s a b = some (v, a2, b2) ∧ 0 ≤ v ∧ v ≤ 255 ∧ 0 ≤ a2 := by
  unfold maxLen at hl
  unfold spec_l01Byte.f
  simp only [and255]
  by_cases h : a < (s.length : Int)
  · rw [if_pos h, if_pos ha, wid (a + 1) (by omega) (by omega)]
    exact ⟨_, _, _, rfl, by omega, by omega, by omega⟩
  · rw [if_neg h]
    exact ⟨_, _, _, rfl, by omega, by omega, by omega⟩
theorem below_ok (s : List Int) (a b n : Int) (ha : 0 ≤ a) (hl : s.length ≤ maxLen) (h1 : 1 ≤ n) (h2 : n ≤ 256) : ∃ v a2 b2 : Int, spec_l01Below.f s a b n = some (v, a2, b2) ∧ 0 ≤ v ∧ v < n ∧ 0 ≤ a2 := by
  obtain ⟨v, a2, b2, e, h3, h4, h5⟩ := byte_ok s a b ha hl
  unfold spec_l01Below.f
  rw [if_neg (by omega), if_pos h2, e, Option.bind_some, if_neg (by omega)]
  exact ⟨_, _, _, rfl, Int.tmod_nonneg _ h3, Int.tmod_lt_of_pos _ (by omega), h5⟩
theorem once_ok (s : List Int) (a b n : Int) (ha : 0 ≤ a) (hl : s.length ≤ maxLen) (h1 : 1 ≤ n) (h2 : n ≤ 256) : ∃ (v : Bool) (a2 b2 : Int), spec_l01Once.f s a b n = some (v, a2, b2) ∧ 0 ≤ a2 := by
  obtain ⟨v, a2, b2, e, h3, h4, h5⟩ := below_ok s a b n ha hl h1 h2
  unfold spec_l01Once.f
  rw [e, Option.bind_some]
  exact ⟨_, _, _, rfl, h5⟩
theorem draw_ok (s : List Int) (a b : Int) (L : List Int) (ha : 0 ≤ a) (hl : s.length ≤ maxLen) (h1 : 1 ≤ L.length) (h2 : L.length ≤ 256) : ∃ v a2 b2 : Int, spec_l01Int.f s a b L = some (v, a2, b2) ∧ v ∈ L ∧ 0 ≤ a2 := by
  obtain ⟨v, a2, b2, e, h3, h4, h5⟩ := below_ok s a b (L.length : Int) ha hl (by omega) (by omega)
  unfold spec_l01Int.f
  rw [e, Option.bind_some, if_pos h3, if_pos h4]
  refine ⟨_, _, _, rfl, ?_, h5⟩
  obtain ⟨m, rfl⟩ : ∃ m : Nat, v = (m : Int) := ⟨v.toNat, by omega⟩
  rw [rd_nat]
  exact getD_mem L m (by omega)
theorem new_ok (s : List Int) (hl : s.length ≤ maxLen) : ∃ b : Int, Ev (fun k => spec_l01New.f k s) (s, 0, b) := by
  unfold maxLen at hl
  have key : ∀ (d i : Nat) (x : Int), i + d = s.length → ∃ b : Int, Ev (fun k => spec_l01New.l0 k s x (i : Int)) (s, 0, b) := by
    intro d
    induction d with
    | zero =>
      intro i x hi
      refine ⟨x, Ev.step (fun k => by rw [spec_l01New.l0]) ?_⟩
      exact Ev_neg (by omega) (Ev.now _)
    | succ d ih =>
      intro i x hi
      by_cases h : (i : Int) < 4000
      · obtain ⟨b, hb⟩ := ih (i + 1) (Go.bits .and .i64 (wrap64 ((wrap64 ((wrap64 (x * 1103)) + (wrap64 (rd s (i : Int))))) + 7)) 1073741823) (by omega)
        refine ⟨b, Ev.step (fun k => ?_) hb⟩
        simp only [spec_l01New.l0]
        rw [if_pos (by omega), if_pos h, if_pos (by omega), wsucc i (by omega)]
      · refine ⟨x, Ev.step (fun k => by rw [spec_l01New.l0]) ?_⟩
        exact Ev_pos (by omega) (Ev_neg h (Ev.now _))
  exact key s.length 0 _ (by omega)
theorem mem_set_bd {L : List Int} {p : Nat} {v lo hi : Int} (hL : ∀ x ∈ L, lo ≤ x ∧ x ≤ hi) (h0 : lo ≤ v) (h1 : v ≤ hi) : ∀ x ∈ L.set p v, lo ≤ x ∧ x ≤ hi := by
  intro x hx
  rcases List.mem_or_eq_of_mem_set hx with h | h
  · exact hL x h
  · subst h
    exact ⟨h0, h1⟩
theorem drawn_ok (s : List Int) (hl : s.length ≤ maxLen) (mode w h : Int) (hm : 0 ≤ mode) (hw : 1 ≤ w) (hw2 : w ≤ 64) (n : Nat) (hn : n ≤ 1048576) : ∀ (d i : Nat) (L : List Int) (a b : Int), i + d = n → L.length = n → (∀ x ∈ L, 0 ≤ x ∧ x ≤ 255) → 0 ≤ a →
    ∃ (L2 : List Int) (a2 b2 : Int), L2.length = n ∧ (∀ x ∈ L2, 0 ≤ x ∧ x ≤ 255) ∧ 0 ≤ a2 ∧ Ev (fun k => spec_l1Draw.l0 k mode (n : Int) (i : Int) s a b w h L) (w, h, L2, a2, b2) := by
  intro d
  induction d with
  | zero =>
    intro i L a b hi hL hx ha
    refine ⟨L, a, b, hL, hx, ha, Ev.step (fun k => by rw [spec_l1Draw.l0]) ?_⟩
    exact Ev_neg (by omega) (Ev.now _)
  | succ d ih =>
    intro i L a b hi hL hx ha
    have go : ∀ v a2 b2 : Int, 0 ≤ v → v ≤ 255 → 0 ≤ a2 → ∃ (L2 : List Int) (a3 b3 : Int), L2.length = n ∧ (∀ x ∈ L2, 0 ≤ x ∧ x ≤ 255) ∧ 0 ≤ a3 ∧ Ev (fun k => if 0 ≤ (i : Int) then (if (i : Int) < (L.length : Int) then (spec_l1Draw.l0 k mode (n : Int) (wrap64 ((i : Int) + 1)) s a2 b2 w h (L.set (i : Int).toNat v)) else none) else none) (w, h, L2, a3, b3) := by
      intro v a2 b2 v0 v1 ha2
      obtain ⟨L2, a3, b3, q1, q2, q3, q4⟩ := ih (i + 1) (L.set i v) a2 b2 (by omega) (by rw [List.length_set]; exact hL) (mem_set_bd hx v0 v1) ha2
      refine ⟨L2, a3, b3, q1, q2, q3, Ev_pos (by omega) (Ev_pos (by omega) ?_)⟩
      rw [wsucc i (by omega), Int.toNat_natCast]
      exact q4
    by_cases m0 : mode = 0
    · obtain ⟨v, a2, b2, e, v0, v1, ha2⟩ := below_ok s a b 256 ha hl (by omega) (by omega)
      obtain ⟨L2, a3, b3, q1, q2, q3, q4⟩ := go v a2 b2 v0 (by omega) ha2
      refine ⟨L2, a3, b3, q1, q2, q3, Ev.step (fun k => by rw [spec_l1Draw.l0]) (Ev_pos (by omega) (Ev_pos m0 ?_))⟩
      rw [e]
      exact q4
    by_cases m1 : mode = 1
    · obtain ⟨v, a2, b2, e, v0, ha2⟩ := draw_ok s a b [0, 255, 128, 127, 1, 254] ha hl (by simp) (by simp)
      have vb : 0 ≤ v ∧ v ≤ 255 := by
        simp only [List.mem_cons, List.not_mem_nil, or_false] at v0
        omega
      obtain ⟨L2, a3, b3, q1, q2, q3, q4⟩ := go v a2 b2 vb.1 vb.2 ha2
      refine ⟨L2, a3, b3, q1, q2, q3, Ev.step (fun k => by rw [spec_l1Draw.l0]) (Ev_pos (by omega) (Ev_neg m0 (Ev_pos m1 ?_)))⟩
      rw [e]
      exact q4
    by_cases m2 : mode = 2
    · obtain ⟨v, a2, b2, e, v0, v1, ha2⟩ := below_ok s a b 2 ha hl (by omega) (by omega)
      obtain ⟨L2, a3, b3, q1, q2, q3, q4⟩ := go v a2 b2 v0 (by omega) ha2
      refine ⟨L2, a3, b3, q1, q2, q3, Ev.step (fun k => by rw [spec_l1Draw.l0]) (Ev_pos (by omega) (Ev_neg m0 (Ev_neg m1 (Ev_pos m2 ?_))))⟩
      rw [e]
      exact q4
    · have hx1 : mx 1 (wrap64 (w - 1)) = if w = 1 then 1 else w - 1 := by
        rw [wid (w - 1) (by omega) (by omega)]
        unfold mx
        by_cases c : w = 1
        · subst c
          rfl
        · rw [if_neg c]
          by_cases c2 : 1 < w - 1
          · rw [if_pos c2]
          · rw [if_neg c2]
            omega
      have b0 := Int.emod_nonneg (i : Int) (b := w) (by omega)
      have b1 := Int.emod_lt_of_pos (i : Int) (b := w) (by omega)
      have hv : 0 ≤ wrap64 (Int.tdiv (wrap64 ((Int.tmod (i : Int) w) * 255)) (mx 1 (wrap64 (w - 1)))) ∧ wrap64 (Int.tdiv (wrap64 ((Int.tmod (i : Int) w) * 255)) (mx 1 (wrap64 (w - 1)))) ≤ 255 := by
        rw [hx1, tmod_nat, wid ((i : Int) % w * 255) (by omega) (by omega), Int.tdiv_eq_ediv_of_nonneg (by omega)]
        by_cases c : w = 1
        · subst c
          rw [if_pos rfl, show (i : Int) % 1 * 255 = 0 by omega, Int.zero_ediv]
          exact ⟨by unfold wrap64; omega, by unfold wrap64; omega⟩
        · rw [if_neg c]
          have d0 : 0 ≤ (i : Int) % w * 255 / (w - 1) := Int.ediv_nonneg (by omega) (by omega)
          have d1 : (i : Int) % w * 255 / (w - 1) ≤ 255 := by
            have : (i : Int) % w * 255 ≤ 255 * (w - 1) := by omega
            exact Int.ediv_le_of_le_mul (by omega) this
          rw [wid _ (by omega) (by omega)]
          exact ⟨d0, d1⟩
      obtain ⟨L2, a3, b3, q1, q2, q3, q4⟩ := go _ a b hv.1 hv.2 ha
      refine ⟨L2, a3, b3, q1, q2, q3, Ev.step (fun k => by rw [spec_l1Draw.l0]) (Ev_pos (by omega) (Ev_neg m0 (Ev_neg m1 (Ev_neg m2 (Ev_neg (by omega) (Ev_neg ?_ q4))))))⟩
      rw [hx1]
      split <;> omega
theorem rep_bd (n : Nat) (hi : Int) (h : 0 ≤ hi) : ∀ x ∈ List.replicate n (0 : Int), 0 ≤ x ∧ x ≤ hi := by
  intro x hx
  rw [(List.mem_replicate.1 hx).2]
  omega
theorem pic_mk {w h : Int} {l : List Int} {m : Int} (hs : sizedB w h = true) (hl : l.length = h.toNat * w.toNat) (hx : ∀ x ∈ l, 0 ≤ x ∧ x ≤ m) : picB w h l m = true := by
  obtain ⟨h0, h1, h2, h3, h4⟩ := sized_spec hs
  unfold picB withinB
  rw [Bool.and_eq_true, Bool.and_eq_true, List.all_eq_true]
  have := area_eq (w := w) (h := h) (by omega) (by omega)
  exact ⟨hs, decide_eq_true (by omega), fun x hxl => decide_eq_true (hx x hxl)⟩
theorem sized_small {w h : Int} (h0 : 1 ≤ w) (h1 : w ≤ 16) (h2 : 1 ≤ h) (h3 : h ≤ 16) : sizedB w h = true := by
  have e : w * h ≤ 16 * 16 := Int.le_trans (Int.mul_le_mul_of_nonneg_right h1 (by omega)) (Int.mul_le_mul_of_nonneg_left h3 (by omega))
  exact decide_eq_true ⟨h0, by omega, h2, by omega, by omega⟩
theorem l1Draw_ok (s : List Int) (a b m : Int) (ha : 0 ≤ a) (hl : s.length ≤ maxLen) (h1 : 1 ≤ m) (h2 : m ≤ 16) : ∃ (w h : Int) (l : List Int) (a2 b2 : Int), picB w h l 255 = true ∧ w ≤ m ∧ h ≤ m ∧ 0 ≤ a2 ∧ Ev (fun k => spec_l1Draw.f k s a b m) (w, h, l, a2, b2) := by
  obtain ⟨w, a2, b2, e1, w0, w1, ha2⟩ := below_ok s a b m ha hl h1 (by omega)
  obtain ⟨h, a3, b3, e2, v0, v1, ha3⟩ := below_ok s a2 b2 m ha2 hl h1 (by omega)
  obtain ⟨q, a4, b4, e3, q0, q1, ha4⟩ := below_ok s a3 b3 4 ha3 hl (by omega) (by omega)
  have hs : sizedB (1 + w) (1 + h) = true := sized_small (by omega) (by omega) (by omega) (by omega)
  obtain ⟨g0, g1, g2, g3, g4⟩ := sized_spec hs
  have hn := area_eq (w := 1 + w) (h := 1 + h) (by omega) (by omega)
  obtain ⟨L2, a5, b5, p1, p2, p3, p4⟩ := drawn_ok s hl q (1 + w) (1 + h) q0 (by omega) (by omega) ((1 + h).toNat * (1 + w).toNat) (by omega) ((1 + h).toNat * (1 + w).toNat) 0 (List.replicate ((1 + h).toNat * (1 + w).toNat) 0) a4 b4 (by omega) (by simp) (rep_bd _ _ (by omega)) ha4
  refine ⟨1 + w, 1 + h, L2, a5, b5, pic_mk hs p1 p2, by omega, by omega, p3, ?_⟩
  unfold spec_l1Draw.f
  simp only [e1, e2, Option.bind_some]
  rw [wid (1 + w) (by omega) (by omega), wid (1 + h) (by omega) (by omega), l1Empty_eq _ _ hs]
  simp only [e3, Option.bind_some, List.length_replicate]
  exact p4
theorem MakePicture_ok (s : List Int) (m : Int) (hl : s.length ≤ maxLen) (h1 : 1 ≤ m) (h2 : m ≤ 16) : ∃ (w h : Int) (l : List Int), picB w h l 255 = true ∧ w ≤ m ∧ h ≤ m ∧ Ev (fun k => spec_MakePicture.f k s m) (w, h, l) := by
  obtain ⟨b, hb⟩ := new_ok s hl
  have hm : mx 1 (mn m 16) = m := by
    unfold mx mn
    rw [show (if 16 < m then (16 : Int) else m) = m from if_neg (by omega)]
    by_cases c : 1 < m
    · rw [if_pos c]
    · rw [if_neg c]
      omega
  obtain ⟨w, h, l, a2, b2, p1, p2, p3, p4, p5⟩ := l1Draw_ok s 0 b m (by omega) hl h1 h2
  refine ⟨w, h, l, p1, p2, p3, ?_⟩
  unfold spec_MakePicture.f
  rw [hm]
  exact Ev.bind hb (Ev.bind p5 (Ev.now _))
theorem MakePlate_ok (s : List Int) (m : Int) (hl : s.length ≤ maxLen) (h1 : 1 ≤ m) (h2 : m ≤ 12) : ∃ (w h : Int) (l : List Int), plateB w h l = true ∧ w ≤ m ∧ h ≤ m ∧ Ev (fun k => spec_MakePlate.f k s m) (w, h, l) := by
  obtain ⟨b, hb⟩ := new_ok s hl
  have hm : mx 1 (mn m 12) = m := by
    unfold mx mn
    rw [show (if 12 < m then (12 : Int) else m) = m from if_neg (by omega)]
    by_cases c : 1 < m
    · rw [if_pos c]
    · rw [if_neg c]
      omega
  obtain ⟨w, a2, b2, e1, w0, w1, ha2⟩ := below_ok s 0 b m (by omega) hl h1 (by omega)
  obtain ⟨h, a3, b3, e2, v0, v1, ha3⟩ := below_ok s a2 b2 m ha2 hl h1 (by omega)
  obtain ⟨q, a4, b4, e3, q0, q1, ha4⟩ := below_ok s a3 b3 4 ha3 hl (by omega) (by omega)
  have hs : sizedB (1 + w) (1 + h) = true := sized_small (by omega) (by omega) (by omega) (by omega)
  obtain ⟨g0, g1, g2, g3, g4⟩ := sized_spec hs
  have hn := area_eq (w := 1 + w) (h := 1 + h) (by omega) (by omega)
  have key : ∀ n : Nat, n ≤ 1048576 → ∀ (d i : Nat) (L : List Int) (a b : Int), i + d = n → L.length = n → (∀ x ∈ L, 0 ≤ x ∧ x ≤ 1) → 0 ≤ a →
      ∃ L2 : List Int, L2.length = n ∧ (∀ x ∈ L2, 0 ≤ x ∧ x ≤ 1) ∧ Ev (fun k => spec_MakePlate.l0 k q (n : Int) (i : Int) s a b (1 + w) (1 + h) L) (1 + w, 1 + h, L2) := by
    intro n hn d
    induction d with
    | zero =>
      intro i L a b hi hL hx ha
      refine ⟨L, hL, hx, Ev.step (fun k => by rw [spec_MakePlate.l0]) ?_⟩
      exact Ev_neg (by omega) (Ev.now _)
    | succ d ih =>
      intro i L a b hi hL hx ha
      have put : ∀ a2 b2 : Int, 0 ≤ a2 → ∃ L2 : List Int, L2.length = n ∧ (∀ x ∈ L2, 0 ≤ x ∧ x ≤ 1) ∧ Ev (fun k => (spec_l01Below.f s a2 b2 2).bind fun bt => (if 0 ≤ (i : Int) then (if (i : Int) < (L.length : Int) then (spec_MakePlate.l0 k q (n : Int) (wrap64 ((i : Int) + 1)) s bt.2.1 bt.2.2 (1 + w) (1 + h) (L.set (i : Int).toNat bt.1)) else none) else none)) (1 + w, 1 + h, L2) := by
        intro a2 b2 ha2
        obtain ⟨v, a3, b3, e, v0, v1, ha3⟩ := below_ok s a2 b2 2 ha2 hl (by omega) (by omega)
        obtain ⟨L2, q1, q2, q3⟩ := ih (i + 1) (L.set i v) a3 b3 (by omega) (by rw [List.length_set]; exact hL) (mem_set_bd hx v0 (by omega)) ha3
        refine ⟨L2, q1, q2, ?_⟩
        rw [e]
        simp only [Option.bind_some]
        refine Ev_pos (by omega) (Ev_pos (by omega) ?_)
        rw [wsucc i (by omega), Int.toNat_natCast]
        exact q3
      have keep : ∀ a2 b2 : Int, 0 ≤ a2 → ∃ L2 : List Int, L2.length = n ∧ (∀ x ∈ L2, 0 ≤ x ∧ x ≤ 1) ∧ Ev (fun k => spec_MakePlate.l0 k q (n : Int) (wrap64 ((i : Int) + 1)) s a2 b2 (1 + w) (1 + h) L) (1 + w, 1 + h, L2) := by
        intro a2 b2 ha2
        rw [wsucc i (by omega)]
        exact ih (i + 1) L a2 b2 (by omega) hL hx ha2
      by_cases m0 : q = 0
      · obtain ⟨v, a2, b2, e, ha2⟩ := once_ok s a b 4 ha hl (by omega) (by omega)
        cases v with
        | true =>
          obtain ⟨L2, q1, q2, q3⟩ := put a2 b2 ha2
          refine ⟨L2, q1, q2, Ev.step (fun k => by rw [spec_MakePlate.l0]) (Ev_pos (by omega) (Ev_pos m0 ?_))⟩
          rw [e]
          simp only [Option.bind_some]
          exact Ev_pos (by trivial) q3
        | false =>
          obtain ⟨L2, q1, q2, q3⟩ := keep a2 b2 ha2
          refine ⟨L2, q1, q2, Ev.step (fun k => by rw [spec_MakePlate.l0]) (Ev_pos (by omega) (Ev_pos m0 ?_))⟩
          rw [e]
          simp only [Option.bind_some]
          exact Ev_neg (by simp) (Ev_neg (by omega) (Ev_neg (by omega) q3))
      by_cases m1 : q = 1
      · obtain ⟨v, a2, b2, e, ha2⟩ := once_ok s a b 4 ha hl (by omega) (by omega)
        cases v with
        | true =>
          obtain ⟨L2, q1, q2, q3⟩ := keep a2 b2 ha2
          refine ⟨L2, q1, q2, Ev.step (fun k => by rw [spec_MakePlate.l0]) (Ev_pos (by omega) (Ev_neg m0 (Ev_pos m1 ?_)))⟩
          rw [e]
          simp only [Option.bind_some]
          exact Ev_pos (by trivial) (Ev_neg (by omega) q3)
        | false =>
          obtain ⟨L2, q1, q2, q3⟩ := put a2 b2 ha2
          refine ⟨L2, q1, q2, Ev.step (fun k => by rw [spec_MakePlate.l0]) (Ev_pos (by omega) (Ev_neg m0 (Ev_pos m1 ?_)))⟩
          rw [e]
          simp only [Option.bind_some]
          exact Ev_neg (by simp) q3
      · obtain ⟨L2, q1, q2, q3⟩ := put a b ha
        exact ⟨L2, q1, q2, Ev.step (fun k => by rw [spec_MakePlate.l0]) (Ev_pos (by omega) (Ev_neg m0 (Ev_neg m1 (Ev_pos (by omega) q3))))⟩
  obtain ⟨L2, p1, p2, p4⟩ := key ((1 + h).toNat * (1 + w).toNat) (by omega) ((1 + h).toNat * (1 + w).toNat) 0 (List.replicate ((1 + h).toNat * (1 + w).toNat) 0) a4 b4 (by omega) (by simp) (rep_bd _ _ (by omega)) ha4
  refine ⟨1 + w, 1 + h, L2, by rw [plateB_eq]; exact pic_mk hs p1 p2, by omega, by omega, ?_⟩
  unfold spec_MakePlate.f
  refine Ev.bind hb ?_
  rw [hm]
  simp only [e1, e2, Option.bind_some]
  rw [wid (1 + w) (by omega) (by omega), wid (1 + h) (by omega) (by omega), l1Empty_eq _ _ hs]
  simp only [e3, Option.bind_some, List.length_replicate]
  exact p4
/-! The laws' own reckoning. -/
theorem total_ev (l : List Int) (hl : l.length ≤ 1048576) (hx : ∀ x ∈ l, -1000000 ≤ x ∧ x ≤ 1000000) : Ev (fun k => laws_total.f k l) (sumL l) := by
  have key : ∀ d i : Nat, i + d = l.length → Ev (fun k => laws_total.l0 k (sumTo l i) l (l.length : Int) (i : Int)) (sumL l) := by
    intro d
    induction d with
    | zero =>
      intro i hi
      obtain rfl : i = l.length := by omega
      refine Ev.step (f := fun _ => some (sumL l)) (fun k => ?_) (Ev.now _)
      simp only [laws_total.l0]
      rw [if_neg (by omega), sumTo_all]
    | succ d ih =>
      intro i hi
      have hb := sumTo_bd l (-1000000) 1000000 (by omega) (by omega) hx (i + 1) (by omega)
      have hs := sumTo_succ l i (by omega)
      refine Ev.step (fun k => ?_) (ih (i + 1) (by omega))
      simp only [laws_total.l0]
      rw [if_pos (by omega), if_pos (by omega), if_pos (by omega), rd_nat, ← hs, wid (sumTo l (i + 1)) (by omega) (by omega), wsucc i (by omega)]
  have := key l.length 0 (by omega)
  rw [sumTo_zero] at this
  exact this
theorem fresh_ok (s : List Int) (x : Int) (hl : s.length ≤ 1048576) : ∃ L : List Int, L.length ≤ maxLen ∧ Ev (fun k => laws_fresh.f k s x) L := by
  have key : ∀ (d i : Nat) (L : List Int), i + d = s.length → L.length = i + 1 → ∃ L2 : List Int, L2.length ≤ maxLen ∧ Ev (fun k => laws_fresh.l0 k s x L (i : Int)) L2 := by
    intro d
    induction d with
    | zero =>
      intro i L hi hL
      refine ⟨L, by unfold maxLen; omega, Ev.step (fun k => by rw [laws_fresh.l0]) ?_⟩
      exact Ev_neg (by omega) (Ev.now _)
    | succ d ih =>
      intro i L hi hL
      by_cases h : (i : Int) < 600
      · obtain ⟨L2, q1, q2⟩ := ih (i + 1) (L ++ [(wrap64 ((wrap64 ((wrap64 (rd s (i : Int))) * 3)) + (wrap64 (x * (wrap64 ((Int.tmod (i : Int) 7) + 1)))))) % 256]) (by omega) (by rw [List.length_append, hL]; rfl)
        refine ⟨L2, q1, Ev.step (fun k => ?_) q2⟩
        simp only [laws_fresh.l0]
        rw [if_pos (by omega), if_pos h, if_pos (by omega), if_pos (by omega), wsucc i (by omega)]
      · refine ⟨L, by unfold maxLen; omega, Ev.step (fun k => by rw [laws_fresh.l0]) ?_⟩
        exact Ev_pos (by omega) (Ev_neg h (Ev.now _))
  exact key s.length 0 _ (by omega) rfl
/-! Equal pictures, sums over pictures. -/
theorem laws_ints_ev (a b : List Int) (ha : a.length ≤ maxLen) : Ev (fun k => laws_ints.f k a b) (decide (a = b)) := by
  unfold maxLen at ha
  by_cases hl : a.length = b.length
  · have key : ∀ d i : Nat, i + d = a.length → (∀ j, j < i → a.getD j 0 = b.getD j 0) → Ev (fun k => laws_ints.l0 k a b (a.length : Int) (i : Int)) (decide (a = b)) := by
      intro d
      induction d with
      | zero =>
        intro i hi hj
        have : a = b := ext_getD hl (fun j h => hj j (by omega))
        rw [decide_eq_true this]
        refine Ev.step (f := fun _ => some true) (fun k => ?_) (Ev.now _)
        simp only [laws_ints.l0]
        rw [if_neg (by omega)]
      | succ d ih =>
        intro i hi hj
        by_cases e : a.getD i 0 = b.getD i 0
        · refine Ev.step (fun k => ?_) (ih (i + 1) (by omega) (fun j h => if hji : j = i then hji ▸ e else hj j (by omega)))
          simp only [laws_ints.l0]
          rw [if_pos (by omega), if_pos (by omega), if_pos (by omega), if_pos (by omega), rd_nat, rd_nat, if_pos e, wsucc i (by omega)]
        · rw [decide_eq_false (fun h => e (by rw [h]))]
          refine Ev.step (f := fun _ => some false) (fun k => ?_) (Ev.now _)
          simp only [laws_ints.l0]
          rw [if_pos (by omega), if_pos (by omega), if_pos (by omega), if_pos (by omega), rd_nat, rd_nat, if_neg e]
    unfold laws_ints.f
    exact Ev_pos (by omega) (key a.length 0 (by omega) (fun j h => absurd h (by omega)))
  · rw [decide_eq_false (fun h => hl (by rw [h]))]
    unfold laws_ints.f
    exact Ev_neg (by omega) (Ev.now _)
theorem same_ev (w h : Int) (l : List Int) (w2 h2 : Int) (l2 : List Int) (hl : l.length ≤ 1048576) : Ev (fun k => laws_same.f k w h l w2 h2 l2) (decide (w = w2 ∧ h = h2 ∧ l = l2)) := by
  unfold laws_same.f
  by_cases e1 : w = w2
  · refine Ev_pos e1 ?_
    by_cases e2 : h = h2
    · refine Ev_pos e2 ?_
      refine Ev.bind (laws_ints_ev l l2 (by unfold maxLen; omega)) ?_
      rw [show decide (w = w2 ∧ h = h2 ∧ l = l2) = decide (l = l2) by rw [decide_eq_decide]; simp [e1, e2]]
      exact Ev.now _
    · refine Ev_neg e2 ?_
      rw [decide_eq_false (by simp [e2])]
      exact Ev.now _
  · refine Ev_neg e1 ?_
    rw [decide_eq_false (by simp [e1])]
    exact Ev.now _
theorem same_self (w h : Int) (l : List Int) (w2 h2 : Int) (l2 : List Int) (hl : l.length ≤ 1048576) (e : w = w2 ∧ h = h2 ∧ l = l2) : Ev (fun k => laws_same.f k w h l w2 h2 l2) true := by
  have := same_ev w h l w2 h2 l2 hl
  rwa [decide_eq_true e] at this
theorem pic_small {w h : Int} {l : List Int} {m : Int} (hp : picB w h l m = true) : l.length ≤ 1024 := by
  obtain ⟨h0, h1, h2, h3, h4, h5, h6⟩ := pic_spec hp
  omega
theorem pic_total {w h : Int} {l : List Int} {m : Int} (hp : picB w h l m = true) (hm : m ≤ 255) : Ev (fun k => laws_total.f k l) (sumL l) := by
  have := pic_small hp
  obtain ⟨h0, h1, h2, h3, h4, h5, h6⟩ := pic_spec hp
  exact total_ev l (by omega) (fun x hx => by have := h6 x hx; omega)
theorem pic_sum {w h : Int} {l : List Int} (hp : picB w h l 255 = true) : Ev (fun k => impl_SumInk.f k w h l) (sumL l) := by
  have := implSum_ev w h l (by have := pic_small hp; omega)
  rwa [if_pos hp] at this
theorem pic_sum_bd {w h : Int} {l : List Int} (hp : picB w h l 255 = true) : 0 ≤ sumL l ∧ sumL l ≤ 262144 := by
  have := pic_small hp
  obtain ⟨h0, h1, h2, h3, h4, h5, h6⟩ := pic_spec hp
  have := sumL_bd l 0 255 (by omega) (by omega) h6
  omega
theorem plate_pic {w h : Int} {l : List Int} (hp : plateB w h l = true) : picB w h l 255 = true := by
  unfold plateB at hp
  rw [Bool.and_eq_true] at hp
  exact hp.1
theorem grid_map (w : Int) (g : Int → Int) (l : List Int) (n : Nat) (hn : l.length = n) (h0 : 0 < w) : gridL w (fun x y => g (rd l (y * w + x))) n = l.map g := by
  subst hn
  rw [gridL_tab]
  have : l.map g = ((List.range l.length).map (fun i => l.getD i 0)).map g := by rw [tab_self]
  rw [this, List.map_map]
  refine List.map_congr_left (fun i hi => ?_)
  show g (rd l ((i : Int) / w * w + (i : Int) % w)) = g (l.getD i 0)
  have := Int.mul_ediv_add_emod (i : Int) w
  rw [Int.mul_comm] at this
  rw [this, rd_nat]
theorem neg_eq {w h : Int} {l : List Int} (hp : picB w h l 255 = true) : impl_NegativePicture.f w h l = some (w, h, l.map (fun v => impl_NegativePicture.most w h l - v)) := by
  obtain ⟨h0, h1, h2, h3, h4, h5, h6⟩ := pic_spec hp
  unfold impl_NegativePicture.f
  rw [if_pos hp, grid_map w (fun v => impl_NegativePicture.most w h l - v) l _ (pic_len hp).symm (by omega)]
theorem sum_neg (l : List Int) (m : Int) : sumL (l.map (fun v => m - v)) = m * l.length - sumL l := by
  induction l with
  | nil => simp [sumL]
  | cons a r ih =>
    rw [List.map_cons, sumL_cons, sumL_cons, ih, List.length_cons]
    push_cast
    rw [Int.mul_add, Int.mul_one]
    omega
theorem neg_neg (l : List Int) (m : Int) : (l.map (fun v => m - v)).map (fun v => m - v) = l := by
  rw [List.map_map]
  conv => rhs; rw [← List.map_id l]
  exact List.map_congr_left (fun v _ => by show m - (m - v) = v; omega)
theorem neg_pic {w h : Int} {l : List Int} {m : Int} (hp : picB w h l m = true) : picB w h (l.map (fun v => m - v)) m = true := by
  obtain ⟨h0, h1, h2, h3, h4, h5, h6⟩ := pic_spec hp
  refine pic_mk (decide_eq_true ⟨h0, h1, h2, h3, h4⟩) (by rw [List.length_map]; exact (pic_len hp).symm) (fun x hx => ?_)
  obtain ⟨v, hv, rfl⟩ := List.mem_map.1 hx
  have := h6 v hv
  omega
/-- The law FnNegative: a negative's negative is the picture, and the two together are white; for the inputs that the law draws. -/
theorem FnNegative (l0 : List Int) (h0_ : l0.length ≤ maxLen) (h1_ : l0.length * 1 ≤ 140737488351232) (h2_ : (∀ x ∈ l0, (Lit.int .u8 x).wf = true)) :
    ∃ k, P.laws_FnNegative.f k l0 = some true := by
  refine Ev.rounds ?_
  unfold laws_FnNegative.f
  by_cases hl : (l0.length : Int) > 1048576
  · exact Ev_pos hl (Ev.now _)
  refine Ev_neg hl ?_
  obtain ⟨w, h, l, hq, hw, hh, HM⟩ := MakePlate_ok l0 9 h0_ (by omega) (by omega)
  have hp := plate_pic hq
  have hm : impl_NegativePicture.most w h l = 1 := by unfold impl_NegativePicture.most; rw [if_pos hq]
  have hn := neg_eq hp
  rw [hm] at hn
  have hq2 : plateB w h (l.map (fun v => 1 - v)) = true := by rw [plateB_eq]; exact neg_pic (by rw [← plateB_eq]; exact hq)
  have hp2 := plate_pic hq2
  have hm2 : impl_NegativePicture.most w h (l.map (fun v => 1 - v)) = 1 := by unfold impl_NegativePicture.most; rw [if_pos hq2]
  have hn2 := neg_eq hp2
  rw [hm2, neg_neg] at hn2
  have hs := pic_small hp
  have b1 := pic_sum_bd hp
  have s1 := sum_neg l 1
  refine Ev.bind HM ?_
  simp only [hn, hn2, Option.bind_some]
  refine Ev.bind (same_self w h l w h l (by omega) ⟨rfl, rfl, rfl⟩) ?_
  refine Ev_pos rfl (Ev.bind (pic_sum hp2) (Ev.bind (pic_total hp (by omega)) ?_))
  rw [s1, show (1 : Int) * (l.length : Int) - sumL l + sumL l = (l.length : Int) by omega, wid (l.length : Int) (by omega) (by omega)]
  refine Ev.step (fun k => by rw [laws_FnNegative.j0]) (Ev_neg (by simp) ?_)
  obtain ⟨L, hL, HF⟩ := fresh_ok l0 3 (by omega)
  obtain ⟨w3, h3, l3, hp3, _, _, HM3⟩ := MakePicture_ok L 9 hL (by omega) (by omega)
  have hs3 := pic_small hp3
  refine Ev.bind HF (Ev.bind HM3 (Ev.bind (specIsPlate_ev w3 h3 l3 (by omega)) ?_))
  by_cases c1 : plateB w3 h3 l3 = true
  · exact Ev_pos c1 (Ev.now _)
  refine Ev_neg c1 ?_
  have hm3 : impl_NegativePicture.most w3 h3 l3 = 255 := by unfold impl_NegativePicture.most; rw [if_neg c1]
  have hn3 := neg_eq hp3
  rw [hm3] at hn3
  have hp4 : picB w3 h3 (l3.map (fun v => 255 - v)) 255 = true := neg_pic hp3
  have s3 := sum_neg l3 255
  simp only [hn3, Option.bind_some]
  refine Ev.bind (pic_sum hp4) (Ev.bind (pic_total hp3 (by omega)) (Ev_pos (by rw [s3]; congr 1; omega) ?_))
  rw [impl_IsPlate.eq]
  simp only [Option.bind_some]
  by_cases c2 : plateB w3 h3 (l3.map (fun v => 255 - v)) = true
  · exact Ev_pos c2 (Ev.now _)
  refine Ev_neg c2 ?_
  have hm4 : impl_NegativePicture.most w3 h3 (l3.map (fun v => 255 - v)) = 255 := by unfold impl_NegativePicture.most; rw [if_neg c2]
  have hn4 := neg_eq hp4
  rw [hm4, neg_neg] at hn4
  simp only [hn4, Option.bind_some]
  exact Ev.bind (same_self w3 h3 l3 w3 h3 l3 (by omega) ⟨rfl, rfl, rfl⟩) (Ev.now _)
end Go.Proofs.Ytbgbbfdmgpcgmaa.Q
