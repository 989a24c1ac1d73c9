/- The law FnConserved: diffusion loses nothing: the dots and what is lost are the ink, and the errors belong to the same run; for the inputs that the law draws. -/
import Derived.Laws.BitsLemmas
import Derived.Test.YtndnklicfibkeaaFimplCountInk
import Derived.Test.YtndnklicfibkeaaFimplDiffusePicture
import Derived.Test.YtndnklicfibkeaaFimplErrorsOf
import Derived.Test.YtndnklicfibkeaaFimplIsKernel
import Derived.Test.YtndnklicfibkeaaFimplIsPicture
import Derived.Test.YtndnklicfibkeaaFimplIsPlate
import Derived.Test.YtndnklicfibkeaaFimplcopied
import Derived.Test.YtndnklicfibkeaaFimpldiffused
import Derived.Test.YtndnklicfibkeaaFimpldown
import Derived.Test.YtndnklicfibkeaaFimplmod
import Derived.Test.YtndnklicfibkeaaFimplone
import Derived.Test.YtndnklicfibkeaaFimplshares
import Derived.Test.YtndnklicfibkeaaFimplweight
import Derived.Test.YtndnklicfibkeaaFlawsFnConserved
import Derived.Test.YtndnklicfibkeaaFlawsat
import Derived.Test.YtndnklicfibkeaaFlawsfresh
import Derived.Test.YtndnklicfibkeaaFlawstotal
import Derived.Test.YtndnklicfibkeaaFpre
import Derived.Test.YtndnklicfibkeaaFspecIsKernel
import Derived.Test.YtndnklicfibkeaaFspecMakeKernel
import Derived.Test.YtndnklicfibkeaaFspecMakePicture
import Derived.Test.YtndnklicfibkeaaFspecl01Below
import Derived.Test.YtndnklicfibkeaaFspecl01Byte
import Derived.Test.YtndnklicfibkeaaFspecl01Int
import Derived.Test.YtndnklicfibkeaaFspecl01New
import Derived.Test.YtndnklicfibkeaaFspecl1Draw
import Derived.Test.YtndnklicfibkeaaFspecl1Empty
import Derived.Test.YtndnklicfibkeaaFspecl1In
import Derived.Test.YtndnklicfibkeaaFspecl4Draw
import Derived.Test.YtndnklicfibkeaaP0
namespace Go.Proofs.Ytndnklicfibkeaa.Q
open Go.RowKit Go.Proofs.Ytndnklicfibkeaa.P Go.Proofs.YtndnklicfibkeaaW.PrintWords
set_option linter.unusedVariables false
set_option linter.unusedSimpArgs false
theorem wsucc (i : Nat) (h : i < 9223372036854775807) : wrap64 ((i : Int) + 1) = ((i + 1 : Nat) : Int) := by unfold wrap64; omega
theorem wid (x : Int) (h0 : -9223372036854775808 ≤ x) (h1 : x ≤ 9223372036854775807) : wrap64 x = x := by unfold wrap64; omega
theorem rd_nat (l : List Int) (i : Nat) : rd l (i : Int) = l.getD i 0 := by unfold rd; rw [Int.toNat_natCast]
theorem getD_of_lt {α : Type} (l : List α) (d : α) (i : Nat) (h : i < l.length) : l.getD i d = l[i] := by simp [List.getD_eq_getElem?_getD, List.getElem?_eq_getElem h]
theorem getD_mem (l : List Int) (i : Nat) (h : i < l.length) : l.getD i 0 ∈ l := by rw [getD_of_lt l 0 i h]; exact List.getElem_mem h
theorem ext_getD {a b : List Int} (hl : a.length = b.length) (h : ∀ i, i < a.length → a.getD i 0 = b.getD i 0) : a = b := by
  apply List.ext_getElem hl
  intro i h1 h2
  have := h i h1
  rwa [getD_of_lt a 0 i h1, getD_of_lt b 0 i h2] at this
theorem getD_set (l : List Int) (i j : Nat) (x : Int) (hi : i < l.length) : (l.set i x).getD j 0 = if j = i then x else l.getD j 0 := by
  simp only [List.getD_eq_getElem?_getD, List.getElem?_set]
  by_cases h : i = j
  · subst h; simp [hi]
  · rw [if_neg h, if_neg (fun e => h e.symm)]
theorem getD_tab (n : Nat) (f : Nat → Int) (j : Nat) (h : j < n) : ((List.range n).map f).getD j 0 = f j := by
  simp [List.getD_eq_getElem?_getD, List.getElem?_map, List.getElem?_range h]
theorem len_tab (n : Nat) (f : Nat → Int) : ((List.range n).map f).length = n := by simp
theorem tab_congr (n : Nat) (f g : Nat → Int) (h : ∀ i, i < n → f i = g i) : (List.range n).map f = (List.range n).map g :=
  List.map_congr_left (fun i hi => h i (List.mem_range.1 hi))
theorem tab_self (l : List Int) : (List.range l.length).map (fun i => l.getD i 0) = l := by
  apply ext_getD (by simp)
  intro i hi
  rw [len_tab] at hi
  rw [getD_tab _ _ _ hi]
/-! Sums. -/
def sumTo (l : List Int) (i : Nat) : Int := (l.take i).foldl (· + ·) 0
theorem foldl_add (l : List Int) (a : Int) : l.foldl (· + ·) a = a + l.foldl (· + ·) 0 := by
  induction l generalizing a with
  | nil => simp
  | cons x r ih => simp only [List.foldl_cons]; rw [ih (a + x), ih (0 + x)]; omega
def sumL (l : List Int) : Int := l.foldl (· + ·) 0
theorem sumL_append (a b : List Int) : sumL (a ++ b) = sumL a + sumL b := by unfold sumL; rw [List.foldl_append, foldl_add]
theorem sumL_one (x : Int) : sumL [x] = x := by simp [sumL]
theorem sumL_cons (x : Int) (l : List Int) : sumL (x :: l) = x + sumL l := by rw [show x :: l = [x] ++ l from rfl, sumL_append, sumL_one]
theorem sumTo_succ (l : List Int) (i : Nat) (h : i < l.length) : sumTo l (i + 1) = sumTo l i + l.getD i 0 := by
  unfold sumTo
  rw [List.take_succ_eq_append_getElem h, List.foldl_append, getD_of_lt l 0 i h]
  simp
theorem sumTo_zero (l : List Int) : sumTo l 0 = 0 := by simp [sumTo]
theorem sumTo_all (l : List Int) : sumTo l l.length = sumL l := by simp [sumTo, sumL]
theorem sumTo_bd (l : List Int) (lo hi : Int) (h0 : lo ≤ 0) (h1 : 0 ≤ hi) (h : ∀ x ∈ l, lo ≤ x ∧ x ≤ hi) (i : Nat) (hi' : i ≤ l.length) : lo * i ≤ sumTo l i ∧ sumTo l i ≤ hi * i := by
  induction i with
  | zero => simp [sumTo_zero]
  | succ i ih =>
    have ih := ih (by omega)
    have hm := h _ (getD_mem l i (by omega))
    rw [sumTo_succ l i (by omega)]
    push_cast
    rw [Int.mul_add, Int.mul_add]
    omega
theorem Ev_pos {α : Type} {c : Prop} [Decidable c] {f g : Nat → Option α} {r : α} (hc : c) (h : Ev f r) : Ev (fun k => if c then f k else g k) r := Ev.congr (fun k => if_pos hc) h
theorem Ev_neg {α : Type} {c : Prop} [Decidable c] {f g : Nat → Option α} {r : α} (hc : ¬ c) (h : Ev g r) : Ev (fun k => if c then f k else g k) r := Ev.congr (fun k => if_neg hc) h
/-! The reference's pictures. -/
theorem l1In_eq (x a b : Int) : spec_l1In.f x a b = some (decide (a ≤ x ∧ x ≤ b)) := by
  unfold spec_l1In.f
  by_cases h : x ≥ a
  · rw [if_pos h]
    congr 1
    rw [decide_eq_decide]
    omega
  · rw [if_neg h, decide_eq_false (by omega)]
theorem within_le (l : List Int) (a b : Int) (h : a ≤ b) (hw : withinB l a = true) : withinB l b = true := by
  unfold withinB at hw ⊢
  rw [List.all_eq_true] at hw ⊢
  intro x hx
  have := of_decide_eq_true (hw x hx)
  exact decide_eq_true (by omega)
theorem plateB_eq (w h : Int) (l : List Int) : plateB w h l = picB w h l 1 := by
  unfold plateB picB
  cases sizedB w h <;> simp only [Bool.false_and, Bool.true_and]
  cases decide ((l.length : Int) = w * h) <;> simp only [Bool.false_and, Bool.true_and]
  cases hb : withinB l 1 with
  | false => rw [Bool.and_false]
  | true => rw [within_le l 1 255 (by omega) hb, Bool.and_true]
theorem l1Empty_eq (w h : Int) (hs : sizedB w h = true) : spec_l1Empty.f w h = some (w, h, List.replicate (h.toNat * w.toNat) 0) := by
  obtain ⟨h0, h1, h2, h3, h4⟩ := sized_spec hs
  have e0 : 0 ≤ w * h := Int.mul_nonneg (by omega) (by omega)
  unfold spec_l1Empty.f
  rw [wid (w * h) (by omega) (by omega), if_pos e0, if_pos (by omega)]
  have : (w * h).toNat = h.toNat * w.toNat := by rw [Int.toNat_mul (by omega) (by omega), Nat.mul_comm]
  rw [this]
theorem gridL_tab (w : Int) (f : Int → Int → Int) (n : Nat) : gridL w f n = (List.range n).map fun i => cellAt w f i := rfl
theorem area_eq {w h : Int} (h0 : 0 ≤ w) (h1 : 0 ≤ h) : ((h.toNat * w.toNat : Nat) : Int) = w * h := by
  rw [Int.natCast_mul, Int.toNat_of_nonneg h0, Int.toNat_of_nonneg h1, Int.mul_comm]
theorem tmod_nat (i : Nat) (w : Int) : Int.tmod (i : Int) w = (i : Int) % w := Int.tmod_eq_emod_of_nonneg (by omega)
def cntTo (l : List Int) (v : Int) (i : Nat) : Int := ((l.take i).filter (fun x => x == v)).length
theorem cntTo_succ (l : List Int) (v : Int) (i : Nat) (h : i < l.length) : cntTo l v (i + 1) = if l.getD i 0 = v then cntTo l v i + 1 else cntTo l v i := by
  unfold cntTo
  rw [List.take_succ_eq_append_getElem h, List.filter_append, List.length_append, getD_of_lt l 0 i h]
  by_cases e : l[i] = v
  · rw [if_pos e]
    simp [e]
  · rw [if_neg e]
    simp [e]
theorem cntTo_le (l : List Int) (v : Int) (i : Nat) : 0 ≤ cntTo l v i ∧ cntTo l v i ≤ (l.length : Int) := by
  unfold cntTo
  have h1 := List.length_filter_le (fun x => x == v) (l.take i)
  have h2 := List.length_take_le i l
  have h3 : (l.take i).length ≤ l.length := by rw [List.length_take]; omega
  omega
theorem sumL_bd (l : List Int) (lo hi : Int) (h0 : lo ≤ 0) (h1 : 0 ≤ hi) (h : ∀ x ∈ l, lo ≤ x ∧ x ≤ hi) : lo * l.length ≤ sumL l ∧ sumL l ≤ hi * l.length := by
  rw [← sumTo_all]
  exact sumTo_bd l lo hi h0 h1 h l.length (Nat.le_refl _)
/-! Pictures made from a picture. -/
theorem pic_len {w h : Int} {l : List Int} {m : Int} (hp : picB w h l m = true) : h.toNat * w.toNat = l.length := by
  obtain ⟨h0, h1, h2, h3, h4, h5, h6⟩ := pic_spec hp
  have := area_eq (w := w) (h := h) (by omega) (by omega)
  omega
theorem rdP_nat (l : List S68) (i : Nat) (h : i < l.length) : rd_T68 l (i : Int) = l[i] := by
  unfold rd_T68
  rw [Int.toNat_natCast, getD_of_lt l _ i h]
/-! Is it a kernel? -/
def okPart (p : S68) : Bool := decide (-4 ≤ p.f0 ∧ p.f0 ≤ 4 ∧ 0 ≤ p.f1 ∧ p.f1 ≤ 4 ∧ ¬ (p.f1 = 0 ∧ p.f0 < 1) ∧ 1 ≤ p.f2 ∧ p.f2 ≤ 100)
def clashFrom (y : List S68) (a b : Int) (j d : Nat) : Bool := (List.range' j d).any fun m => decide (a = (rd_T68 y (m : Int)).f0 ∧ b = (rd_T68 y (m : Int)).f1)
def kernAt (l : List S68) (i : Nat) : Bool := okPart (rd_T68 l (i : Int)) && !clashFrom (l.take i) (rd_T68 l (i : Int)).f0 (rd_T68 l (i : Int)).f1 0 (l.take i).length
def kernFrom (l : List S68) (i d : Nat) : Bool := (List.range' i d).all (kernAt l)
def kernB (l : List S68) : Bool := decide (1 ≤ l.length ∧ l.length ≤ 12) && kernFrom l 0 l.length
theorem spec_inner (x0 x11 : List S68) (x12 x13 a b c : Int) (y : List S68) (hy : y.length < 1000) (r : Bool) (d : Nat) : ∀ j : Nat, j + d = y.length →
    (clashFrom y a b j d = true → r = false) → (clashFrom y a b j d = false → Ev (fun k => spec_IsKernel.l0 k x0 x11 x12 (wrap64 (x13 + 1))) r) →
    Ev (fun k => spec_IsKernel.l1 k x0 x11 x12 x13 y (y.length : Int) (j : Int) a b c) r := by
  induction d with
  | zero =>
    intro j hj _ h2
    exact Ev.step (fun k => by simp only [spec_IsKernel.l1]; rw [if_neg (by omega)]) (h2 rfl)
  | succ d ih =>
    intro j hj h1 h2
    unfold clashFrom at h1 h2
    rw [List.range'_succ, List.any_cons] at h1 h2
    by_cases ha : a = (rd_T68 y (j : Int)).f0
    · by_cases hb : b = (rd_T68 y (j : Int)).f1
      · rw [h1 (by rw [decide_eq_true ⟨ha, hb⟩]; rfl)]
        exact Ev.step (f := fun _ => some false) (fun k => by simp only [spec_IsKernel.l1]; rw [if_pos (by omega), if_pos (by omega), if_pos (by omega), if_pos ha, if_pos hb]) (Ev.now _)
      · rw [decide_eq_false (fun h => hb h.2), Bool.false_or] at h1 h2
        refine Ev.step (fun k => by simp only [spec_IsKernel.l1]; rw [if_pos (by omega), if_pos (by omega), if_pos (by omega), if_pos ha, if_neg hb, wsucc j (by omega)]) (ih (j + 1) (by omega) h1 h2)
    · rw [decide_eq_false (fun h => ha h.1), Bool.false_or] at h1 h2
      refine Ev.step (fun k => by simp only [spec_IsKernel.l1]; rw [if_pos (by omega), if_pos (by omega), if_pos (by omega), if_neg ha, wsucc j (by omega)]) (ih (j + 1) (by omega) h1 h2)
theorem spec_outer (l : List S68) (hl : l.length < 1000) (d : Nat) : ∀ i : Nat, i + d = l.length → Ev (fun k => spec_IsKernel.l0 k l l (l.length : Int) (i : Int)) (kernFrom l i d) := by
  induction d with
  | zero =>
    intro i hi
    exact Ev.step (f := fun _ => some true) (fun k => by simp only [spec_IsKernel.l0]; rw [if_neg (by omega)]) (Ev.now _)
  | succ d ih =>
    intro i hi
    have hk : kernFrom l i (d + 1) = (kernAt l i && kernFrom l (i + 1) d) := by unfold kernFrom; rw [List.range'_succ, List.all_cons]
    have hj : ∀ a b c : Int, a = (rd_T68 l (i : Int)).f0 → b = (rd_T68 l (i : Int)).f1 → okPart (rd_T68 l (i : Int)) = true → Ev (fun k => spec_IsKernel.j1 k l (i : Int) l (l.length : Int) (i : Int) false a b c) (kernFrom l i (d + 1)) := by
      intro a b c ha hb ho
      subst ha
      subst hb
      have ht : (l.take i).length = i := by rw [List.length_take]; omega
      refine Ev.step (fun k => by simp only [spec_IsKernel.j1]; rw [if_neg (by simp), if_pos (by omega), if_pos (by omega), Option.bind_some, Int.toNat_natCast]) ?_
      refine spec_inner l l _ _ _ _ c (l.take i) (by omega) _ (l.take i).length 0 (by omega) (fun h => ?_) (fun h => ?_)
      · rw [hk]; unfold kernAt; rw [h, ho]; rfl
      · rw [hk, wsucc i (by omega)]; unfold kernAt; rw [h, ho]; simp only [Bool.not_false, Bool.and_true, Bool.true_and]
        exact ih (i + 1) (by omega)
    have hbad : ∀ a b c : Int, okPart (rd_T68 l (i : Int)) = false → Ev (fun k => spec_IsKernel.j1 k l (i : Int) l (l.length : Int) (i : Int) true a b c) (kernFrom l i (d + 1)) := by
      intro a b c ho
      have : kernFrom l i (d + 1) = false := by rw [hk]; unfold kernAt; rw [ho]; rfl
      rw [this]
      exact Ev.step (f := fun _ => some false) (fun k => by simp only [spec_IsKernel.j1]; rw [if_pos trivial]) (Ev.now _)
    have hj := hj _ _ (rd_T68 l (i : Int)).f2 rfl rfl
    have hbad := hbad (rd_T68 l (i : Int)).f0 (rd_T68 l (i : Int)).f1 (rd_T68 l (i : Int)).f2
    refine Ev.step (fun k => by rw [spec_IsKernel.l0]) ?_
    refine Ev_pos (by omega) (Ev_pos (by omega) (Ev_pos (by omega) ?_))
    generalize rd_T68 l (i : Int) = p at hj hbad ⊢
    simp only [l1In_eq, Option.bind_some]
    by_cases c1 : -4 ≤ p.f0 ∧ p.f0 ≤ 4
    · refine Ev_pos (decide_eq_true c1) ?_
      by_cases c2 : 0 ≤ p.f1 ∧ p.f1 ≤ 4
      · refine Ev_pos (decide_eq_true c2) ?_
        have fin : ¬ (p.f1 = 0 ∧ p.f0 < 1) → Ev (fun k => spec_IsKernel.j1 k l (i : Int) l (l.length : Int) (i : Int) (!decide (1 ≤ p.f2 ∧ p.f2 ≤ 100)) p.f0 p.f1 p.f2) (kernFrom l i (d + 1)) := by
          intro c5
          by_cases c6 : 1 ≤ p.f2 ∧ p.f2 ≤ 100
          · rw [decide_eq_true c6]
            exact hj (decide_eq_true ⟨c1.1, c1.2, c2.1, c2.2, c5, c6.1, c6.2⟩)
          · rw [decide_eq_false c6]
            exact hbad (decide_eq_false (fun h => c6 ⟨h.2.2.2.2.2.1, h.2.2.2.2.2.2⟩))
        by_cases c3 : p.f1 = 0
        · refine Ev_pos c3 ?_
          by_cases c4 : p.f0 < 1
          · exact Ev_pos c4 (hbad (decide_eq_false (fun h => h.2.2.2.2.1 ⟨c3, c4⟩)))
          · exact Ev_neg c4 (fin (fun h => c4 h.2))
        · exact Ev_neg c3 (fin (fun h => c3 h.1))
      · exact Ev_neg (by rw [decide_eq_false c2]; simp) (hbad (decide_eq_false (fun h => c2 ⟨h.2.2.1, h.2.2.2.1⟩)))
    · exact Ev_neg (by rw [decide_eq_false c1]; simp) (hbad (decide_eq_false (fun h => c1 ⟨h.1, h.2.1⟩)))
theorem impl_inner (x0 x11 : List S68) (x12 x13 a b c : Int) (y : List S68) (hy : y.length < 1000) (r : Bool) (d : Nat) : ∀ j : Nat, j + d = y.length →
    (clashFrom y a b j d = true → r = false) → (clashFrom y a b j d = false → Ev (fun k => impl_IsKernel.l0 k x0 x11 x12 (wrap64 (x13 + 1))) r) →
    Ev (fun k => impl_IsKernel.l1 k x0 x11 x12 x13 y (y.length : Int) (j : Int) a b c) r := by
  induction d with
  | zero =>
    intro j hj _ h2
    exact Ev.step (fun k => by simp only [impl_IsKernel.l1]; rw [if_neg (by omega)]) (h2 rfl)
  | succ d ih =>
    intro j hj h1 h2
    unfold clashFrom at h1 h2
    rw [List.range'_succ, List.any_cons] at h1 h2
    by_cases ha : a = (rd_T68 y (j : Int)).f0
    · by_cases hb : b = (rd_T68 y (j : Int)).f1
      · rw [h1 (by rw [decide_eq_true ⟨ha, hb⟩]; rfl)]
        exact Ev.step (f := fun _ => some false) (fun k => by simp only [impl_IsKernel.l1]; rw [if_pos (by omega), if_pos (by omega), if_pos (by omega), if_pos ha, if_pos hb]) (Ev.now _)
      · rw [decide_eq_false (fun h => hb h.2), Bool.false_or] at h1 h2
        refine Ev.step (fun k => by simp only [impl_IsKernel.l1]; rw [if_pos (by omega), if_pos (by omega), if_pos (by omega), if_pos ha, if_neg hb, wsucc j (by omega)]) (ih (j + 1) (by omega) h1 h2)
    · rw [decide_eq_false (fun h => ha h.1), Bool.false_or] at h1 h2
      refine Ev.step (fun k => by simp only [impl_IsKernel.l1]; rw [if_pos (by omega), if_pos (by omega), if_pos (by omega), if_neg ha, wsucc j (by omega)]) (ih (j + 1) (by omega) h1 h2)
theorem impl_outer (l : List S68) (hl : l.length < 1000) (d : Nat) : ∀ i : Nat, i + d = l.length → Ev (fun k => impl_IsKernel.l0 k l l (l.length : Int) (i : Int)) (kernFrom l i d) := by
  induction d with
  | zero =>
    intro i hi
    exact Ev.step (f := fun _ => some true) (fun k => by simp only [impl_IsKernel.l0]; rw [if_neg (by omega)]) (Ev.now _)
  | succ d ih =>
    intro i hi
    have hk : kernFrom l i (d + 1) = (kernAt l i && kernFrom l (i + 1) d) := by unfold kernFrom; rw [List.range'_succ, List.all_cons]
    have hj : ∀ a b c : Int, a = (rd_T68 l (i : Int)).f0 → b = (rd_T68 l (i : Int)).f1 → okPart (rd_T68 l (i : Int)) = true → Ev (fun k => impl_IsKernel.j2 k l (i : Int) l (l.length : Int) (i : Int) false a b c) (kernFrom l i (d + 1)) := by
      intro a b c ha hb ho
      subst ha
      subst hb
      have ht : (l.take i).length = i := by rw [List.length_take]; omega
      refine Ev.step (fun k => by simp only [impl_IsKernel.j2]; rw [if_neg (by simp), if_pos (by omega), if_pos (by omega), Option.bind_some, Int.toNat_natCast]) ?_
      refine impl_inner l l _ _ _ _ c (l.take i) (by omega) _ (l.take i).length 0 (by omega) (fun h => ?_) (fun h => ?_)
      · rw [hk]; unfold kernAt; rw [h, ho]; rfl
      · rw [hk, wsucc i (by omega)]; unfold kernAt; rw [h, ho]; simp only [Bool.not_false, Bool.and_true, Bool.true_and]
        exact ih (i + 1) (by omega)
    have hbad : ∀ a b c : Int, okPart (rd_T68 l (i : Int)) = false → Ev (fun k => impl_IsKernel.j2 k l (i : Int) l (l.length : Int) (i : Int) true a b c) (kernFrom l i (d + 1)) := by
      intro a b c ho
      have : kernFrom l i (d + 1) = false := by rw [hk]; unfold kernAt; rw [ho]; rfl
      rw [this]
      exact Ev.step (f := fun _ => some false) (fun k => by simp only [impl_IsKernel.j2]; rw [if_pos trivial]) (Ev.now _)
    have hj := hj _ _ (rd_T68 l (i : Int)).f2 rfl rfl
    have hbad := hbad (rd_T68 l (i : Int)).f0 (rd_T68 l (i : Int)).f1 (rd_T68 l (i : Int)).f2
    refine Ev.step (fun k => by rw [impl_IsKernel.l0]) ?_
    refine Ev_pos (by omega) (Ev_pos (by omega) (Ev_pos (by omega) ?_))
    generalize rd_T68 l (i : Int) = p at hj hbad ⊢
    have bad : ¬ (-4 ≤ p.f0 ∧ p.f0 ≤ 4 ∧ 0 ≤ p.f1 ∧ p.f1 ≤ 4 ∧ ¬ (p.f1 = 0 ∧ p.f0 < 1) ∧ 1 ≤ p.f2 ∧ p.f2 ≤ 100) → Ev (fun k => impl_IsKernel.j2 k l (i : Int) l (l.length : Int) (i : Int) true p.f0 p.f1 p.f2) (kernFrom l i (d + 1)) := fun h => hbad (decide_eq_false h)
    by_cases c1 : p.f0 < -4
    · exact Ev_pos c1 (bad (by omega))
    refine Ev_neg c1 ?_
    by_cases c2 : p.f0 > 4
    · exact Ev_pos c2 (bad (by omega))
    refine Ev_neg c2 ?_
    by_cases c3 : p.f1 < 0
    · exact Ev_pos c3 (bad (by omega))
    refine Ev_neg c3 ?_
    by_cases c4 : p.f1 > 4
    · exact Ev_pos c4 (bad (by omega))
    refine Ev_neg c4 ?_
    have fin : ¬ (p.f1 = 0 ∧ p.f0 < 1) → Ev (fun k => if p.f2 < 1 then (impl_IsKernel.j2 k l (i : Int) l (l.length : Int) (i : Int) true p.f0 p.f1 p.f2) else (impl_IsKernel.j2 k l (i : Int) l (l.length : Int) (i : Int) (decide (p.f2 > 100)) p.f0 p.f1 p.f2)) (kernFrom l i (d + 1)) := by
      intro c5
      by_cases c6 : p.f2 < 1
      · exact Ev_pos c6 (bad (by omega))
      refine Ev_neg c6 ?_
      by_cases c7 : p.f2 > 100
      · rw [decide_eq_true c7]
        exact bad (by omega)
      · rw [decide_eq_false c7]
        exact hj (decide_eq_true (by omega))
    by_cases c5 : p.f1 = 0
    · refine Ev_pos c5 ?_
      by_cases c6 : p.f0 < 1
      · exact Ev_pos c6 (bad (by omega))
      · exact Ev_neg c6 (fin (by omega))
    · exact Ev_neg c5 (fin (by omega))
theorem specIsKernel_ev (l : List S68) (hl : l.length ≤ 1048576) : Ev (fun k => spec_IsKernel.f k l) (kernB l) := by
  unfold spec_IsKernel.f kernB
  rw [l1In_eq]
  simp only [Option.bind_some]
  by_cases h : 1 ≤ l.length ∧ l.length ≤ 12
  · rw [decide_eq_true h, Bool.true_and]
    exact Ev_pos (decide_eq_true (by omega)) (spec_outer l (by omega) l.length 0 (by omega))
  · rw [decide_eq_false h, Bool.false_and]
    exact Ev_neg (by rw [decide_eq_false (by omega)]; simp) (Ev.now _)
theorem implIsKernel_ev (l : List S68) (hl : l.length ≤ 1048576) : Ev (fun k => impl_IsKernel.f k l) (kernB l) := by
  unfold impl_IsKernel.f kernB
  have bad : ¬ (1 ≤ l.length ∧ l.length ≤ 12) → Ev (fun k => impl_IsKernel.j0 k l true) (decide (1 ≤ l.length ∧ l.length ≤ 12) && kernFrom l 0 l.length) := by
    intro h
    rw [decide_eq_false h, Bool.false_and]
    refine Ev.step (f := fun _ => some false) (fun k => ?_) (Ev.now _)
    simp only [impl_IsKernel.j0, if_true]
  by_cases c1 : (l.length : Int) < 1
  · exact Ev_pos c1 (bad (by omega))
  refine Ev_neg c1 ?_
  by_cases c2 : (l.length : Int) > 12
  · rw [decide_eq_true c2]
    exact bad (by omega)
  · rw [decide_eq_false c2, decide_eq_true (by omega), Bool.true_and]
    refine Ev.step (fun k => ?_) (impl_outer l (by omega) l.length 0 (by omega))
    simp only [impl_IsKernel.j0]
    rw [if_neg (by simp)]
    rfl
theorem kern_len {l : List S68} (h : kernB l = true) : 1 ≤ l.length ∧ l.length ≤ 12 := by
  unfold kernB at h
  rw [Bool.and_eq_true] at h
  exact of_decide_eq_true h.1
theorem kern_ok {l : List S68} (h : kernB l = true) (i : Nat) (hi : i < l.length) : okPart (rd_T68 l (i : Int)) = true := by
  unfold kernB kernFrom at h
  rw [Bool.and_eq_true, List.all_eq_true] at h
  have := h.2 i (by rw [List.mem_range']; exact ⟨i, by omega, by omega⟩)
  unfold kernAt at this
  rw [Bool.and_eq_true] at this
  exact this.1
def wtTo (l : List S68) (i : Nat) : Int := sumL ((l.take i).map (·.f2))
theorem wtTo_succ (l : List S68) (i : Nat) (h : i < l.length) : wtTo l (i + 1) = wtTo l i + (rd_T68 l (i : Int)).f2 := by
  unfold wtTo
  rw [List.take_succ_eq_append_getElem h, List.map_append, sumL_append, List.map_cons, List.map_nil, sumL_one, rdP_nat l i h]
theorem wtTo_bd {l : List S68} (h : kernB l = true) (i : Nat) (hi : i ≤ l.length) : (i : Int) ≤ wtTo l i ∧ wtTo l i ≤ 100 * (i : Int) := by
  induction i with
  | zero => simp [wtTo, sumL]
  | succ i ih =>
    have := ih (by omega)
    obtain ⟨_, _, _, _, _, q1, q2⟩ := of_decide_eq_true (kern_ok h i (by omega))
    rw [wtTo_succ l i (by omega)]
    omega
theorem impl_weight_ev (l : List S68) (h : kernB l = true) : Ev (fun k => impl_weight.l0 k 0 l (l.length : Int) 0) (wtTo l l.length) := by
  have hk := kern_len h
  have key : ∀ d i : Nat, i + d = l.length → Ev (fun k => impl_weight.l0 k (wtTo l i) l (l.length : Int) (i : Int)) (wtTo l l.length) := by
    intro d
    induction d with
    | zero =>
      intro i hi
      obtain rfl : i = l.length := by omega
      refine Ev.step (f := fun _ => some (wtTo l l.length)) (fun k => ?_) (Ev.now _)
      simp only [impl_weight.l0]
      rw [if_neg (by omega)]
    | succ d ih =>
      intro i hi
      have hb := wtTo_bd h (i + 1) (by omega)
      have hs := wtTo_succ l i (by omega)
      refine Ev.step (fun k => ?_) (ih (i + 1) (by omega))
      simp only [impl_weight.l0]
      rw [if_pos (by omega), if_pos (by omega), if_pos (by omega), ← hs, wid (wtTo l (i + 1)) (by omega) (by omega), wsucc i (by omega)]
  have := key l.length 0 (by omega)
  exact this
/-! The drawing of inputs. -/
theorem and255 (n : Int) : Go.bits .and .i64 n 255 = n % 256 := by
  have h127 : (BitVec.ofInt 64 255).toNat = 2 ^ 8 - 1 := by decide
  have key : (BitVec.ofInt 64 n &&& BitVec.ofInt 64 255).toNat = (n % ((2 ^ 64 : Nat) : Int)).toNat % 2 ^ 8 := by
    rw [BitVec.toNat_and, BitVec.toNat_ofInt, h127, Nat.and_two_pow_sub_one_eq_mod]
  show IntKind.i64.wrap ((BitVec.ofInt 64 n &&& BitVec.ofInt 64 255).toNat : Nat) = n % 256
  rw [key, IntKind.wrap_i64]
  omega
theorem byte_ok (s : List Int) (a b : Int) (ha : 0 ≤ a) (hl : s.length ≤ maxLen) : ∃ v a2 b2 : Int, spec_l01Byte.f s a b = some (v, a2, b2) ∧ 0 ≤ v ∧ v ≤ 255 ∧ 0 ≤ a2 := by
  unfold maxLen at hl
  unfold spec_l01Byte.f
  simp only [and255]
  by_cases h : a < (s.length : Int)
  · rw [if_pos h, if_pos ha, wid (a + 1) (by omega) (by omega)]
    exact ⟨_, _, _, rfl, by omega, by omega, by omega⟩
  · rw [if_neg h]
    exact ⟨_, _, _, rfl, by omega, by omega, by omega⟩
theorem below_ok (s : List Int) (a b n : Int) (ha : 0 ≤ a) (hl : s.length ≤ maxLen) (h1 : 1 ≤ n) (h2 : n ≤ 256) : ∃ v a2 b2 : Int, spec_l01Below.f s a b n = some (v, a2, b2) ∧ 0 ≤ v ∧ v < n ∧ 0 ≤ a2 := by
  obtain ⟨v, a2, b2, e, h3, h4, h5⟩ := byte_ok s a b ha hl
  unfold spec_l01Below.f
  rw [if_neg (by omega), if_pos h2, e, Option.bind_some, if_neg (by omega)]
  exact ⟨_, _, _, rfl, Int.tmod_nonneg _ h3, Int.tmod_lt_of_pos _ (by omega), h5⟩
theorem draw_ok (s : List Int) (a b : Int) (L : List Int) (ha : 0 ≤ a) (hl : s.length ≤ maxLen) (h1 : 1 ≤ L.length) (h2 : L.length ≤ 256) : ∃ v a2 b2 : Int, spec_l01Int.f s a b L = some (v, a2, b2) ∧ v ∈ L ∧ 0 ≤ a2 := by
  obtain ⟨v, a2, b2, e, h3, h4, h5⟩ := below_ok s a b (L.length : Int) ha hl (by omega) (by omega)
  unfold spec_l01Int.f
  rw [e, Option.bind_some, if_pos h3, if_pos h4]
  refine ⟨_, _, _, rfl, ?_, h5⟩
  obtain ⟨m, rfl⟩ : ∃ m : Nat, v = (m : Int) := ⟨v.toNat, by omega⟩
  rw [rd_nat]
  exact getD_mem L m (by omega)
theorem new_ok (s : List Int) (hl : s.length ≤ maxLen) : ∃ b : Int, Ev (fun k => spec_l01New.f k s) (s, 0, b) := by
  unfold maxLen at hl
  have key : ∀ (d i : Nat) (x : Int), i + d = s.length → ∃ b : Int, Ev (fun k => spec_l01New.l0 k s x (i : Int)) (s, 0, b) := by
    intro d
    induction d with
    | zero =>
      intro i x hi
      refine ⟨x, Ev.step (fun k => by rw [spec_l01New.l0]) ?_⟩
      exact Ev_neg (by omega) (Ev.now _)
    | succ d ih =>
      intro i x hi
      by_cases h : (i : Int) < 4000
      · obtain ⟨b, hb⟩ := ih (i + 1) (Go.bits .and .i64 (wrap64 ((wrap64 ((wrap64 (x * 1103)) + (wrap64 (rd s (i : Int))))) + 7)) 1073741823) (by omega)
        refine ⟨b, Ev.step (fun k => ?_) hb⟩
        simp only [spec_l01New.l0]
        rw [if_pos (by omega), if_pos h, if_pos (by omega), wsucc i (by omega)]
      · refine ⟨x, Ev.step (fun k => by rw [spec_l01New.l0]) ?_⟩
        exact Ev_pos (by omega) (Ev_neg h (Ev.now _))
  exact key s.length 0 _ (by omega)
theorem mem_set_bd {L : List Int} {p : Nat} {v lo hi : Int} (hL : ∀ x ∈ L, lo ≤ x ∧ x ≤ hi) (h0 : lo ≤ v) (h1 : v ≤ hi) : ∀ x ∈ L.set p v, lo ≤ x ∧ x ≤ hi := by
  intro x hx
  rcases List.mem_or_eq_of_mem_set hx with h | h
  · exact hL x h
  · subst h
    exact ⟨h0, h1⟩
theorem drawn_ok (s : List Int) (hl : s.length ≤ maxLen) (mode w h : Int) (hm : 0 ≤ mode) (hw : 1 ≤ w) (hw2 : w ≤ 64) (n : Nat) (hn : n ≤ 1048576) : ∀ (d i : Nat) (L : List Int) (a b : Int), i + d = n → L.length = n → (∀ x ∈ L, 0 ≤ x ∧ x ≤ 255) → 0 ≤ a →
    ∃ (L2 : List Int) (a2 b2 : Int), L2.length = n ∧ (∀ x ∈ L2, 0 ≤ x ∧ x ≤ 255) ∧ 0 ≤ a2 ∧ Ev (fun k => spec_l1Draw.l0 k mode (n : Int) (i : Int) s a b w h L) (w, h, L2, a2, b2) := by
  intro d
  induction d with
  | zero =>
    intro i L a b hi hL hx ha
    refine ⟨L, a, b, hL, hx, ha, Ev.step (fun k => by rw [spec_l1Draw.l0]) ?_⟩
    exact Ev_neg (by omega) (Ev.now _)
  | succ d ih =>
    intro i L a b hi hL hx ha
    have go : ∀ v a2 b2 : Int, 0 ≤ v → v ≤ 255 → 0 ≤ a2 → ∃ (L2 : List Int) (a3 b3 : Int), L2.length = n ∧ (∀ x ∈ L2, 0 ≤ x ∧ x ≤ 255) ∧ 0 ≤ a3 ∧ Ev (fun k => if 0 ≤ (i : Int) then (if (i : Int) < (L.length : Int) then (spec_l1Draw.l0 k mode (n : Int) (wrap64 ((i : Int) + 1)) s a2 b2 w h (L.set (i : Int).toNat v)) else none) else none) (w, h, L2, a3, b3) := by
      intro v a2 b2 v0 v1 ha2
      obtain ⟨L2, a3, b3, q1, q2, q3, q4⟩ := ih (i + 1) (L.set i v) a2 b2 (by omega) (by rw [List.length_set]; exact hL) (mem_set_bd hx v0 v1) ha2
      refine ⟨L2, a3, b3, q1, q2, q3, Ev_pos (by omega) (Ev_pos (by omega) ?_)⟩
      rw [wsucc i (by omega), Int.toNat_natCast]
      exact q4
    by_cases m0 : mode = 0
    · obtain ⟨v, a2, b2, e, v0, v1, ha2⟩ := below_ok s a b 256 ha hl (by omega) (by omega)
      obtain ⟨L2, a3, b3, q1, q2, q3, q4⟩ := go v a2 b2 v0 (by omega) ha2
      refine ⟨L2, a3, b3, q1, q2, q3, Ev.step (fun k => by rw [spec_l1Draw.l0]) (Ev_pos (by omega) (Ev_pos m0 ?_))⟩
      rw [e]
      exact q4
    by_cases m1 : mode = 1
    · obtain ⟨v, a2, b2, e, v0, ha2⟩ := draw_ok s a b [0, 255, 128, 127, 1, 254] ha hl (by simp) (by simp)
      have vb : 0 ≤ v ∧ v ≤ 255 := by
        simp only [List.mem_cons, List.not_mem_nil, or_false] at v0
        omega
      obtain ⟨L2, a3, b3, q1, q2, q3, q4⟩ := go v a2 b2 vb.1 vb.2 ha2
      refine ⟨L2, a3, b3, q1, q2, q3, Ev.step (fun k => by rw [spec_l1Draw.l0]) (Ev_pos (by omega) (Ev_neg m0 (Ev_pos m1 ?_)))⟩
      rw [e]
      exact q4
    by_cases m2 : mode = 2
    · obtain ⟨v, a2, b2, e, v0, v1, ha2⟩ := below_ok s a b 2 ha hl (by omega) (by omega)
      obtain ⟨L2, a3, b3, q1, q2, q3, q4⟩ := go v a2 b2 v0 (by omega) ha2
      refine ⟨L2, a3, b3, q1, q2, q3, Ev.step (fun k => by rw [spec_l1Draw.l0]) (Ev_pos (by omega) (Ev_neg m0 (Ev_neg m1 (Ev_pos m2 ?_))))⟩
      rw [e]
      exact q4
    · have hx1 : mx 1 (wrap64 (w - 1)) = if w = 1 then 1 else w - 1 := by
        rw [wid (w - 1) (by omega) (by omega)]
        unfold mx
        by_cases c : w = 1
        · subst c
          rfl
        · rw [if_neg c]
          by_cases c2 : 1 < w - 1
          · rw [if_pos c2]
          · rw [if_neg c2]
            omega
      have b0 := Int.emod_nonneg (i : Int) (b := w) (by omega)
      have b1 := Int.emod_lt_of_pos (i : Int) (b := w) (by omega)
      have hv : 0 ≤ wrap64 (Int.tdiv (wrap64 ((Int.tmod (i : Int) w) * 255)) (mx 1 (wrap64 (w - 1)))) ∧ wrap64 (Int.tdiv (wrap64 ((Int.tmod (i : Int) w) * 255)) (mx 1 (wrap64 (w - 1)))) ≤ 255 := by
        rw [hx1, tmod_nat, wid ((i : Int) % w * 255) (by omega) (by omega), Int.tdiv_eq_ediv_of_nonneg (by omega)]
        by_cases c : w = 1
        · subst c
          rw [if_pos rfl, show (i : Int) % 1 * 255 = 0 by omega, Int.zero_ediv]
          exact ⟨by unfold wrap64; omega, by unfold wrap64; omega⟩
        · rw [if_neg c]
          have d0 : 0 ≤ (i : Int) % w * 255 / (w - 1) := Int.ediv_nonneg (by omega) (by omega)
          have d1 : (i : Int) % w * 255 / (w - 1) ≤ 255 := by
            have : (i : Int) % w * 255 ≤ 255 * (w - 1) := by omega
            exact Int.ediv_le_of_le_mul (by omega) this
          rw [wid _ (by omega) (by omega)]
          exact ⟨d0, d1⟩
      obtain ⟨L2, a3, b3, q1, q2, q3, q4⟩ := go _ a b hv.1 hv.2 ha
      refine ⟨L2, a3, b3, q1, q2, q3, Ev.step (fun k => by rw [spec_l1Draw.l0]) (Ev_pos (by omega) (Ev_neg m0 (Ev_neg m1 (Ev_neg m2 (Ev_neg (by omega) (Ev_neg ?_ q4))))))⟩
      rw [hx1]
      split <;> omega
theorem rep_bd (n : Nat) (hi : Int) (h : 0 ≤ hi) : ∀ x ∈ List.replicate n (0 : Int), 0 ≤ x ∧ x ≤ hi := by
  intro x hx
  rw [(List.mem_replicate.1 hx).2]
  omega
theorem pic_mk {w h : Int} {l : List Int} {m : Int} (hs : sizedB w h = true) (hl : l.length = h.toNat * w.toNat) (hx : ∀ x ∈ l, 0 ≤ x ∧ x ≤ m) : picB w h l m = true := by
  obtain ⟨h0, h1, h2, h3, h4⟩ := sized_spec hs
  unfold picB withinB
  rw [Bool.and_eq_true, Bool.and_eq_true, List.all_eq_true]
  have := area_eq (w := w) (h := h) (by omega) (by omega)
  exact ⟨hs, decide_eq_true (by omega), fun x hxl => decide_eq_true (hx x hxl)⟩
theorem sized_small {w h : Int} (h0 : 1 ≤ w) (h1 : w ≤ 16) (h2 : 1 ≤ h) (h3 : h ≤ 16) : sizedB w h = true := by
  have e : w * h ≤ 16 * 16 := Int.le_trans (Int.mul_le_mul_of_nonneg_right h1 (by omega)) (Int.mul_le_mul_of_nonneg_left h3 (by omega))
  exact decide_eq_true ⟨h0, by omega, h2, by omega, by omega⟩
theorem l1Draw_ok (s : List Int) (a b m : Int) (ha : 0 ≤ a) (hl : s.length ≤ maxLen) (h1 : 1 ≤ m) (h2 : m ≤ 16) : ∃ (w h : Int) (l : List Int) (a2 b2 : Int), picB w h l 255 = true ∧ w ≤ m ∧ h ≤ m ∧ 0 ≤ a2 ∧ Ev (fun k => spec_l1Draw.f k s a b m) (w, h, l, a2, b2) := by
  obtain ⟨w, a2, b2, e1, w0, w1, ha2⟩ := below_ok s a b m ha hl h1 (by omega)
  obtain ⟨h, a3, b3, e2, v0, v1, ha3⟩ := below_ok s a2 b2 m ha2 hl h1 (by omega)
  obtain ⟨q, a4, b4, e3, q0, q1, ha4⟩ := below_ok s a3 b3 4 ha3 hl (by omega) (by omega)
  have hs : sizedB (1 + w) (1 + h) = true := sized_small (by omega) (by omega) (by omega) (by omega)
  obtain ⟨g0, g1, g2, g3, g4⟩ := sized_spec hs
  have hn := area_eq (w := 1 + w) (h := 1 + h) (by omega) (by omega)
  obtain ⟨L2, a5, b5, p1, p2, p3, p4⟩ := drawn_ok s hl q (1 + w) (1 + h) q0 (by omega) (by omega) ((1 + h).toNat * (1 + w).toNat) (by omega) ((1 + h).toNat * (1 + w).toNat) 0 (List.replicate ((1 + h).toNat * (1 + w).toNat) 0) a4 b4 (by omega) (by simp) (rep_bd _ _ (by omega)) ha4
  refine ⟨1 + w, 1 + h, L2, a5, b5, pic_mk hs p1 p2, by omega, by omega, p3, ?_⟩
  unfold spec_l1Draw.f
  simp only [e1, e2, Option.bind_some]
  rw [wid (1 + w) (by omega) (by omega), wid (1 + h) (by omega) (by omega), l1Empty_eq _ _ hs]
  simp only [e3, Option.bind_some, List.length_replicate]
  exact p4
theorem MakePicture_ok (s : List Int) (m : Int) (hl : s.length ≤ maxLen) (h1 : 1 ≤ m) (h2 : m ≤ 16) : ∃ (w h : Int) (l : List Int), picB w h l 255 = true ∧ w ≤ m ∧ h ≤ m ∧ Ev (fun k => spec_MakePicture.f k s m) (w, h, l) := by
  obtain ⟨b, hb⟩ := new_ok s hl
  have hm : mx 1 (mn m 16) = m := by
    unfold mx mn
    rw [show (if 16 < m then (16 : Int) else m) = m from if_neg (by omega)]
    by_cases c : 1 < m
    · rw [if_pos c]
    · rw [if_neg c]
      omega
  obtain ⟨w, h, l, a2, b2, p1, p2, p3, p4, p5⟩ := l1Draw_ok s 0 b m (by omega) hl h1 h2
  refine ⟨w, h, l, p1, p2, p3, ?_⟩
  unfold spec_MakePicture.f
  rw [hm]
  exact Ev.bind hb (Ev.bind p5 (Ev.now _))
/-! The laws' own reckoning. -/
theorem total_ev (l : List Int) (hl : l.length ≤ 1048576) (hx : ∀ x ∈ l, -2000000 ≤ x ∧ x ≤ 2000000) : Ev (fun k => laws_total.f k l) (sumL l) := by
  have key : ∀ d i : Nat, i + d = l.length → Ev (fun k => laws_total.l0 k (sumTo l i) l (l.length : Int) (i : Int)) (sumL l) := by
    intro d
    induction d with
    | zero =>
      intro i hi
      obtain rfl : i = l.length := by omega
      refine Ev.step (f := fun _ => some (sumL l)) (fun k => ?_) (Ev.now _)
      simp only [laws_total.l0]
      rw [if_neg (by omega), sumTo_all]
    | succ d ih =>
      intro i hi
      have hb := sumTo_bd l (-2000000) 2000000 (by omega) (by omega) hx (i + 1) (by omega)
      have hs := sumTo_succ l i (by omega)
      refine Ev.step (fun k => ?_) (ih (i + 1) (by omega))
      simp only [laws_total.l0]
      rw [if_pos (by omega), if_pos (by omega), if_pos (by omega), rd_nat, ← hs, wid (sumTo l (i + 1)) (by omega) (by omega), wsucc i (by omega)]
  have := key l.length 0 (by omega)
  rw [sumTo_zero] at this
  exact this
theorem fresh_ok (s : List Int) (x : Int) (hl : s.length ≤ 1048576) : ∃ L : List Int, L.length ≤ maxLen ∧ Ev (fun k => laws_fresh.f k s x) L := by
  have key : ∀ (d i : Nat) (L : List Int), i + d = s.length → L.length = i + 1 → ∃ L2 : List Int, L2.length ≤ maxLen ∧ Ev (fun k => laws_fresh.l0 k s x L (i : Int)) L2 := by
    intro d
    induction d with
    | zero =>
      intro i L hi hL
      refine ⟨L, by unfold maxLen; omega, Ev.step (fun k => by rw [laws_fresh.l0]) ?_⟩
      exact Ev_neg (by omega) (Ev.now _)
    | succ d ih =>
      intro i L hi hL
      by_cases h : (i : Int) < 600
      · obtain ⟨L2, q1, q2⟩ := ih (i + 1) (L ++ [(wrap64 ((wrap64 ((wrap64 (rd s (i : Int))) * 3)) + (wrap64 (x * (wrap64 ((Int.tmod (i : Int) 7) + 1)))))) % 256]) (by omega) (by rw [List.length_append, hL]; rfl)
        refine ⟨L2, q1, Ev.step (fun k => ?_) q2⟩
        simp only [laws_fresh.l0]
        rw [if_pos (by omega), if_pos h, if_pos (by omega), if_pos (by omega), wsucc i (by omega)]
      · refine ⟨L, by unfold maxLen; omega, Ev.step (fun k => by rw [laws_fresh.l0]) ?_⟩
        exact Ev_pos (by omega) (Ev_neg h (Ev.now _))
  exact key s.length 0 _ (by omega) rfl
theorem at_ok (s : List Int) (n : Int) (hl : s.length ≤ 1048576) (h0 : 0 ≤ n) (h1 : n ≤ 100) (hx : ∀ x ∈ s, 0 ≤ x ∧ x ≤ 255) : ∃ v : Int, laws_at.f s n = some v ∧ 0 ≤ v ∧ v ≤ 255 := by
  unfold laws_at.f
  by_cases h : n < (s.length : Int)
  · rw [if_pos h, if_pos h0]
    obtain ⟨m, rfl⟩ : ∃ m : Nat, n = (m : Int) := ⟨n.toNat, by omega⟩
    rw [rd_nat]
    have := hx _ (getD_mem s m (by omega))
    rw [wid _ (by omega) (by omega)]
    exact ⟨_, rfl, this.1, this.2⟩
  · rw [if_neg h, wid (n * 37) (by omega) (by omega), wid ((s.length : Int) * 11) (by omega) (by omega), wid _ (by omega) (by omega)]
    refine ⟨_, rfl, Int.tmod_nonneg _ (by omega), ?_⟩
    have := Int.tmod_lt_of_pos (n * 37 + (s.length : Int) * 11) (b := 256) (by omega)
    omega
theorem pic_small {w h : Int} {l : List Int} {m : Int} (hp : picB w h l m = true) : l.length ≤ 1024 := by
  obtain ⟨h0, h1, h2, h3, h4, h5, h6⟩ := pic_spec hp
  omega
theorem pic_total {w h : Int} {l : List Int} {m : Int} (hp : picB w h l m = true) (hm : m ≤ 255) : Ev (fun k => laws_total.f k l) (sumL l) := by
  have := pic_small hp
  obtain ⟨h0, h1, h2, h3, h4, h5, h6⟩ := pic_spec hp
  exact total_ev l (by omega) (fun x hx => by have := h6 x hx; omega)
theorem pic_sum_bd {w h : Int} {l : List Int} (hp : picB w h l 255 = true) : 0 ≤ sumL l ∧ sumL l ≤ 262144 := by
  have := pic_small hp
  obtain ⟨h0, h1, h2, h3, h4, h5, h6⟩ := pic_spec hp
  have := sumL_bd l 0 255 (by omega) (by omega) h6
  omega
theorem plate_pic {w h : Int} {l : List Int} (hp : plateB w h l = true) : picB w h l 255 = true := by
  unfold plateB at hp
  rw [Bool.and_eq_true] at hp
  exact hp.1
theorem u8_bd {l : List Int} (h : ∀ x ∈ l, (Lit.int .u8 x).wf = true) : ∀ x ∈ l, 0 ≤ x ∧ x ≤ 255 := by
  intro x hx
  have := h x hx
  simp [Lit.wf] at this
  have e1 : IntKind.u8.min = 0 := rfl
  have e2 : IntKind.u8.max = 255 := rfl
  omega
theorem sum_set (g : Int → Int) (L : List Int) (p : Nat) (v : Int) (hp : p < L.length) : sumL ((L.set p v).map g) = sumL (L.map g) - g (L.getD p 0) + g v := by
  induction L generalizing p with
  | nil => exact absurd hp (by simp)
  | cons a r ih =>
    cases p with
    | zero =>
      rw [List.set_cons_zero, List.map_cons, List.map_cons, sumL_cons, sumL_cons]
      show g v + _ = g a + _ - g a + g v
      omega
    | succ p =>
      rw [List.set_cons_succ, List.map_cons, List.map_cons, sumL_cons, sumL_cons, ih p (by simpa using hp)]
      show g a + (_ - g (r.getD p 0) + g v) = _
      rw [List.getD_cons_succ]
      omega
theorem sumL_rep (n : Nat) (v : Int) : sumL (List.replicate n v) = n * v := by
  induction n with
  | zero => simp [sumL]
  | succ n ih =>
    rw [List.replicate_succ, sumL_cons, ih]
    push_cast
    rw [Int.add_mul, Int.one_mul, Int.add_comm]
def isV (v x : Int) : Int := if x = v then 1 else 0
theorem cnt_sum (l : List Int) (v : Int) : cntTo l v l.length = sumL (l.map (isV v)) := by
  unfold cntTo
  rw [List.take_length]
  induction l with
  | nil => rfl
  | cons a r ih =>
    rw [List.map_cons, sumL_cons, ← ih, List.filter_cons]
    unfold isV
    by_cases e : a = v
    · simp [e]
      omega
    · simp [e]
theorem pic_cnt {w h : Int} {l : List Int} (v : Int) (hp : picB w h l 255 = true) : Ev (fun k => impl_CountInk.f k w h l v) (sumL (l.map (isV v))) := by
  have hs := pic_small hp
  unfold impl_CountInk.f
  rw [impl_IsPicture.eq]
  simp only [Option.bind_some]
  refine Ev_pos hp ?_
  rw [← cnt_sum]
  have key : ∀ d i : Nat, i + d = l.length → Ev (fun k => impl_CountInk.l0 k v (cntTo l v i) l (l.length : Int) (i : Int)) (cntTo l v l.length) := by
    intro d
    induction d with
    | zero =>
      intro i hi
      obtain rfl : i = l.length := by omega
      refine Ev.step (f := fun _ => some (cntTo l v l.length)) (fun k => ?_) (Ev.now _)
      simp only [impl_CountInk.l0]
      rw [if_neg (by omega)]
    | succ d ih =>
      intro i hi
      have hb := cntTo_le l v i
      have hs := cntTo_succ l v i (by omega)
      refine Ev.step (fun k => ?_) (ih (i + 1) (by omega))
      simp only [impl_CountInk.l0]
      unfold impl_one.f
      rw [if_pos (by omega), if_pos (by omega), if_pos (by omega), rd_nat, wsucc i (by omega), hs]
      by_cases e : l.getD i 0 = v
      · rw [if_pos e, if_pos (beq_iff_eq.2 e), Option.bind_some, wid (cntTo l v i + 1) (by omega) (by omega)]
      · rw [if_neg e, if_neg (fun q => e (beq_iff_eq.1 q)), Option.bind_some, wid (cntTo l v i + 0) (by omega) (by omega), Int.add_zero]
  exact key l.length 0 (by omega)
/-! Sums over grids. -/
def sumN (n : Nat) (g : Nat → Int) : Int := sumL ((List.range n).map g)
theorem sumN_zero (g : Nat → Int) : sumN 0 g = 0 := rfl
theorem sumN_succ (n : Nat) (g : Nat → Int) : sumN (n + 1) g = sumN n g + g n := by
  unfold sumN
  rw [List.range_succ, List.map_append, sumL_append, List.map_cons, List.map_nil, sumL_one]
theorem sumN_congr (n : Nat) (f g : Nat → Int) (h : ∀ i, i < n → f i = g i) : sumN n f = sumN n g := by
  unfold sumN
  rw [tab_congr n f g h]
theorem sumN_add (m n : Nat) (g : Nat → Int) : sumN (m + n) g = sumN m g + sumN n (fun i => g (m + i)) := by
  induction n with
  | zero => rw [sumN_zero]; simp
  | succ n ih => rw [← Nat.add_assoc, sumN_succ, sumN_succ, ih, Int.add_assoc]
theorem sumN_mul (n : Nat) (c : Int) (g : Nat → Int) : sumN n (fun i => c * g i) = c * sumN n g := by
  induction n with
  | zero => rw [sumN_zero, sumN_zero]; simp
  | succ n ih => rw [sumN_succ, sumN_succ, ih, Int.mul_add]
/-! Kernels that are drawn, and the shares of an error. -/
theorem kern_one (b : Int) (h0 : 0 ≤ b) (h1 : b < 9) : kernB [(⟨0, 1, 1 + b⟩ : S68)] = true := by
  unfold kernB kernFrom
  rw [Bool.and_eq_true, List.all_eq_true]
  refine ⟨decide_eq_true ⟨by simp, by simp⟩, fun i hi => ?_⟩
  obtain rfl : i = 0 := by
    have := (List.mem_range'.1 hi)
    obtain ⟨j, hj, rfl⟩ := this
    simp at hj
    omega
  unfold kernAt
  rw [Bool.and_eq_true]
  refine ⟨decide_eq_true ?_, rfl⟩
  show -4 ≤ (0 : Int) ∧ (0 : Int) ≤ 4 ∧ 0 ≤ (1 : Int) ∧ (1 : Int) ≤ 4 ∧ ¬ ((1 : Int) = 0 ∧ (0 : Int) < 1) ∧ 1 ≤ 1 + b ∧ 1 + b ≤ 100
  omega
theorem MakeKernel_ok (s : List Int) (hl : s.length ≤ maxLen) : ∃ K : List S68, kernB K = true ∧ Ev (fun k => spec_MakeKernel.f k s) K := by
  obtain ⟨b, hb⟩ := new_ok s hl
  suffices h : ∃ (K : List S68) (a2 b2 : Int), kernB K = true ∧ Ev (fun k => spec_l4Draw.f k s 0 b) (K, a2, b2) by
    obtain ⟨K, a2, b2, h1, h2⟩ := h
    refine ⟨K, h1, ?_⟩
    unfold spec_MakeKernel.f
    exact Ev.bind hb (Ev.bind h2 (Ev.now _))
  obtain ⟨q, a2, b2, e1, q0, q1, ha2⟩ := below_ok s 0 b 4 (by omega) hl (by omega) (by omega)
  unfold spec_l4Draw.f
  simp only [e1, Option.bind_some]
  by_cases c0 : q = 0
  · exact ⟨_, _, _, by decide, Ev_pos c0 (Ev.now _)⟩
  by_cases c1 : q = 1
  · exact ⟨_, _, _, by decide, Ev_neg c0 (Ev_pos c1 (Ev.now _))⟩
  by_cases c2 : q = 2
  · exact ⟨_, _, _, by decide, Ev_neg c0 (Ev_neg c1 (Ev_pos c2 (Ev.now _)))⟩
  obtain ⟨v, a3, b3, e2, v0, v1, ha3⟩ := below_ok s a2 b2 9 ha2 hl (by omega) (by omega)
  obtain ⟨n, a4, b4, e3, n0, n1, ha4⟩ := below_ok s a3 b3 4 ha3 hl (by omega) (by omega)
  have key : ∀ (d : Nat) (n : Int) (K : List S68) (a b : Int), n ≤ d → 0 ≤ n ∧ n ≤ 100 → kernB K = true → 0 ≤ a → ∃ (K2 : List S68) (a2 b2 : Int), kernB K2 = true ∧ Ev (fun k => spec_l4Draw.l0 k K n s a b) (K2, a2, b2) := by
    intro d
    induction d with
    | zero =>
      intro n K a b hn _ hK ha
      exact ⟨K, a, b, hK, Ev.step (fun k => by rw [spec_l4Draw.l0]) (Ev_neg (by omega) (Ev.now _))⟩
    | succ d ih =>
      intro n K a b hn hn0 hK ha
      by_cases c : n > 0
      · obtain ⟨x, a2, b2, e1, x0, x1, ha2⟩ := below_ok s a b 9 ha hl (by omega) (by omega)
        obtain ⟨y, a3, b3, e2, y0, y1, ha3⟩ := below_ok s a2 b2 5 ha2 hl (by omega) (by omega)
        obtain ⟨z, a4, b4, e3, z0, z1, ha4⟩ := below_ok s a3 b3 30 ha3 hl (by omega) (by omega)
        have hk := kern_len hK
        have start : ∀ r : (List S68) × Int × Int, Ev (fun k => (spec_IsKernel.f k (K ++ [⟨wrap64 (x - 4), y, wrap64 (1 + z)⟩])).bind fun t => (if t = true then (spec_l4Draw.l0 k (K ++ [⟨wrap64 (x - 4), y, wrap64 (1 + z)⟩]) (wrap64 (n - 1)) s a4 b4) else (spec_l4Draw.l0 k K (wrap64 (n - 1)) s a4 b4))) r → Ev (fun k => spec_l4Draw.l0 k K n s a b) r := by
          intro r h
          refine Ev.step (fun k => by rw [spec_l4Draw.l0]) (Ev_pos c ?_)
          simp only [e1, e2, e3, Option.bind_some, List.nil_append]
          refine Ev_pos (by simp; omega) (Ev_pos (by simp; omega) h)
        rw [wid (n - 1) (by omega) (by omega)] at start
        have he := specIsKernel_ev (K ++ [⟨wrap64 (x - 4), y, wrap64 (1 + z)⟩]) (by rw [List.length_append]; simp; omega)
        by_cases hc : kernB (K ++ [⟨wrap64 (x - 4), y, wrap64 (1 + z)⟩]) = true
        · obtain ⟨K2, a5, b5, g1, g2⟩ := ih (n - 1) (K ++ [⟨wrap64 (x - 4), y, wrap64 (1 + z)⟩]) a4 b4 (by omega) (by omega) hc ha4
          exact ⟨K2, a5, b5, g1, start _ (Ev.bind he (Ev_pos hc g2))⟩
        · obtain ⟨K2, a5, b5, g1, g2⟩ := ih (n - 1) K a4 b4 (by omega) (by omega) hK ha4
          exact ⟨K2, a5, b5, g1, start _ (Ev.bind he (Ev_neg hc g2))⟩
      · exact ⟨K, a, b, hK, Ev.step (fun k => by rw [spec_l4Draw.l0]) (Ev_neg c (Ev.now _))⟩
  obtain ⟨K2, a5, b5, g1, g2⟩ := key 4 n [⟨0, 1, 1 + v⟩] a4 b4 (by omega) ⟨n0, by omega⟩ (kern_one v v0 v1) ha4
  refine ⟨K2, a5, b5, g1, Ev_neg c0 (Ev_neg c1 (Ev_neg c2 ?_))⟩
  simp only [e2, e3, Option.bind_some]
  rw [wid (1 + v) (by omega) (by omega)]
  exact g2
theorem mod_ev (x w : Int) (hw : 0 < w) (h0 : -9000000000000000000 ≤ x) (h1 : x ≤ 9000000000000000000) (hw2 : w ≤ 1000000000000) : impl_mod.f x w = some (x % w) := by
  have b0 := Int.emod_nonneg x (b := w) (by omega)
  have b1 := Int.emod_lt_of_pos x hw
  unfold impl_mod.f
  rw [if_neg (by omega)]
  by_cases hx : 0 ≤ x
  · rw [Int.tmod_eq_emod_of_nonneg hx, if_neg (by omega)]
  · have e : Int.tmod x w = -((-x) % w) := by
      rw [← Int.tmod_eq_emod_of_nonneg (by omega : 0 ≤ -x), Int.neg_tmod, Int.neg_neg]
    have c0 := Int.emod_nonneg (-x) (b := w) (by omega)
    have c1 := Int.emod_lt_of_pos (-x) hw
    rw [e]
    have d1 := Int.mul_ediv_add_emod x w
    have d2 := Int.mul_ediv_add_emod (-x) w
    by_cases hz : (-x) % w = 0
    · rw [hz, if_neg (by omega)]
      have : x % w = 0 := Int.emod_eq_zero_of_dvd ((Int.dvd_neg.1 (Int.dvd_of_emod_eq_zero hz)))
      rw [this]
      rfl
    · rw [if_pos (by omega), wid _ (by omega) (by omega)]
      congr 1
      have e3 : w * (x / w) + w * (-x / w) = w * (x / w + -x / w) := (Int.mul_add _ _ _).symm
      have k1 : x / w + -x / w < 0 := by
        by_cases k : 0 ≤ x / w + -x / w
        · have := Int.mul_nonneg (by omega : 0 ≤ w) k
          omega
        · omega
      have k2 : -2 < x / w + -x / w := by
        by_cases k : x / w + -x / w ≤ -2
        · have := Int.mul_le_mul_of_nonneg_left k (by omega : 0 ≤ w)
          omega
        · omega
      rw [show x / w + -x / w = -1 by omega] at e3
      omega
theorem down_ev (x w : Int) (hw : 0 < w) (h0 : -1000000000000 ≤ x) (h1 : x ≤ 1000000000000) (hw2 : w ≤ 1000000000000) : impl_down.f x w = some (x / w) := by
  have b0 := Int.emod_nonneg x (b := w) (by omega)
  have b1 := Int.emod_lt_of_pos x hw
  unfold impl_down.f
  rw [mod_ev x w hw (by omega) (by omega) hw2, Option.bind_some, if_neg (by omega), wid (x - x % w) (by omega) (by omega)]
  have d1 := Int.mul_ediv_add_emod x w
  have e : x - x % w = w * (x / w) := by omega
  rw [e, Int.mul_tdiv_cancel_left _ (by omega)]
  have q0 : x / w ≤ 1000000000000 := Int.ediv_le_of_le_mul hw (by
    have : 1000000000000 * 1 ≤ 1000000000000 * w := Int.mul_le_mul_of_nonneg_left (by omega) (by omega)
    omega)
  have q1 : -1000000000000 ≤ x / w := Int.le_ediv_of_mul_le hw (by
    have : 1000000000000 * 1 ≤ 1000000000000 * w := Int.mul_le_mul_of_nonneg_left (by omega) (by omega)
    rw [Int.neg_mul]
    omega)
  rw [wid _ (by omega) (by omega)]
def floP (a w : Int) (p : S68) : Int := a * p.f2 / w
def modP (a w : Int) (p : S68) : Int := a * p.f2 % w
theorem part_f2 {K : List S68} (h : kernB K = true) {p : S68} (hp : p ∈ K) : 1 ≤ p.f2 ∧ p.f2 ≤ 100 := by
  obtain ⟨i, hi, rfl⟩ := List.getElem_of_mem hp
  obtain ⟨_, _, _, _, _, q1, q2⟩ := of_decide_eq_true (kern_ok h i hi)
  rw [rdP_nat K i hi] at q1 q2
  exact ⟨q1, q2⟩
theorem wt_mem {K : List S68} (h : ∀ p ∈ K, 1 ≤ p.f2 ∧ p.f2 ≤ 100) : 0 ≤ sumL (K.map (·.f2)) ∧ ∀ p ∈ K, p.f2 ≤ sumL (K.map (·.f2)) := by
  induction K with
  | nil => exact ⟨by simp [sumL], fun p hp => by cases hp⟩
  | cons a r ih =>
    have ih := ih (fun p hp => h p (List.mem_cons_of_mem _ hp))
    have ha := h a List.mem_cons_self
    rw [List.map_cons, sumL_cons]
    refine ⟨by omega, fun p hp => ?_⟩
    rcases List.mem_cons.1 hp with rfl | hp
    · omega
    · have := ih.2 p hp
      omega
theorem wtTo_all (K : List S68) : wtTo K K.length = sumL (K.map (·.f2)) := by
  unfold wtTo
  rw [List.take_length]
theorem flo_bd {a w f : Int} (ha : -1000000 ≤ a) (hb : a ≤ 1000000) (h0 : 1 ≤ f) (h1 : f ≤ w) : -1000000 ≤ a * f / w ∧ a * f / w ≤ 1000000 ∧ -1000000 * f ≤ a * f ∧ a * f ≤ 1000000 * f := by
  have e0 : -1000000 * f ≤ a * f := Int.mul_le_mul_of_nonneg_right ha (by omega)
  have e1 : a * f ≤ 1000000 * f := Int.mul_le_mul_of_nonneg_right hb (by omega)
  have e2 : 1000000 * f ≤ 1000000 * w := by omega
  refine ⟨Int.le_ediv_of_mul_le (by omega) (by omega), Int.ediv_le_of_le_mul (by omega) (by omega), e0, e1⟩
def restL (a w : Int) (K : List S68) : Int := a - sumL (K.map (floP a w))
def shareL (a w : Int) (K : List S68) : List Int := (K.map (floP a w)).set 0 (rd (K.map (floP a w)) 0 + restL a w K)
theorem shareL_len (a w : Int) (K : List S68) : (shareL a w K).length = K.length := by unfold shareL; rw [List.length_set, List.length_map]
/-- What is left over: the sum of the remainders, in wholes. -/
theorem rest_mul {K : List S68} (a w : Int) : w * sumL (K.map (floP a w)) + sumL (K.map (modP a w)) = a * sumL (K.map (·.f2)) := by
  induction K with
  | nil => simp [sumL]
  | cons p r ih =>
    simp only [List.map_cons, sumL_cons, Int.mul_add]
    have : w * floP a w p + modP a w p = a * p.f2 := Int.mul_ediv_add_emod _ _
    omega
theorem rest_bd {K : List S68} (a w : Int) (hw : 0 < w) : 0 ≤ sumL (K.map (modP a w)) ∧ sumL (K.map (modP a w)) ≤ (w - 1) * K.length := by
  have := sumL_bd (K.map (modP a w)) 0 (w - 1) (by omega) (by omega) (fun x hx => by
    obtain ⟨p, _, rfl⟩ := List.mem_map.1 hx
    have b0 := Int.emod_nonneg (a * p.f2) (b := w) (by omega)
    have b1 := Int.emod_lt_of_pos (a * p.f2) hw
    unfold modP
    omega)
  rw [List.length_map] at this
  omega
theorem flo_sum_bd {K : List S68} (h : kernB K = true) (a : Int) (ha : -1000000 ≤ a) (hb : a ≤ 1000000) (i : Nat) (hi : i ≤ K.length) : -12000000 ≤ sumL ((K.take i).map (floP a (wtTo K K.length))) ∧ sumL ((K.take i).map (floP a (wtTo K K.length))) ≤ 12000000 := by
  have hk := kern_len h
  have hw := (wt_mem (fun p hp => part_f2 h hp)).2
  have := sumL_bd ((K.take i).map (floP a (wtTo K K.length))) (-1000000) 1000000 (by omega) (by omega) (fun x hx => by
    obtain ⟨p, hp, rfl⟩ := List.mem_map.1 hx
    have hp := List.mem_of_mem_take hp
    have := flo_bd ha hb (part_f2 h hp).1 (hw p hp)
    rw [wtTo_all]
    exact ⟨this.1, this.2.1⟩)
  rw [List.length_map, List.length_take] at this
  omega
theorem rest_small {K : List S68} (h : kernB K = true) (a : Int) : 0 ≤ restL a (wtTo K K.length) K ∧ restL a (wtTo K K.length) K ≤ 12 ∧ wtTo K K.length * restL a (wtTo K K.length) K = sumL (K.map (modP a (wtTo K K.length))) := by
  have hk := kern_len h
  have hw := wtTo_bd h K.length (Nat.le_refl _)
  have e := rest_mul (K := K) a (wtTo K K.length)
  have b := rest_bd (K := K) a (wtTo K K.length) (by omega)
  rw [← wtTo_all] at e
  have m : wtTo K K.length * restL a (wtTo K K.length) K = sumL (K.map (modP a (wtTo K K.length))) := by
    unfold restL
    rw [Int.mul_sub, Int.mul_comm _ a]
    omega
  have l1 : (wtTo K K.length - 1) * (K.length : Int) ≤ (wtTo K K.length - 1) * 12 := Int.mul_le_mul_of_nonneg_left (by omega) (by omega)
  refine ⟨?_, ?_, m⟩
  · by_cases c : 0 ≤ restL a (wtTo K K.length) K
    · exact c
    · have := Int.mul_le_mul_of_nonneg_left (by omega : restL a (wtTo K K.length) K ≤ -1) (by omega : 0 ≤ wtTo K K.length)
      omega
  · by_cases c : restL a (wtTo K K.length) K ≤ 12
    · exact c
    · have := Int.mul_le_mul_of_nonneg_left (by omega : 13 ≤ restL a (wtTo K K.length) K) (by omega : 0 ≤ wtTo K K.length)
      omega
theorem shares_ev {K : List S68} (h : kernB K = true) (a : Int) (ha : -1000000 ≤ a) (hb : a ≤ 1000000) : Ev (fun k => impl_shares.f k K a) (shareL a (wtTo K K.length) K) := by
  have hk := kern_len h
  have hw := wtTo_bd h K.length (Nat.le_refl _)
  have hwm := (wt_mem (fun p hp => part_f2 h hp)).2
  have key : ∀ d i : Nat, i + d = K.length → Ev (fun k => impl_shares.l0 k a (wtTo K K.length) ((K.take i).map (floP a (wtTo K K.length))) (a - sumL ((K.take i).map (floP a (wtTo K K.length)))) K (K.length : Int) (i : Int)) (shareL a (wtTo K K.length) K) := by
    intro d
    induction d with
    | zero =>
      intro i hi
      obtain rfl : i = K.length := by omega
      have r := rest_small h a
      have f0 := flo_bd ha hb (part_f2 h (List.getElem_mem (l := K) (n := 0) (by omega))).1 (hwm _ (List.getElem_mem (l := K) (n := 0) (by omega)))
      have e0 : rd (K.map (floP a (wtTo K K.length))) 0 = floP a (wtTo K K.length) K[0] := by
        show (K.map (floP a (wtTo K K.length))).getD 0 0 = _
        rw [getD_of_lt _ 0 0 (by rw [List.length_map]; omega), List.getElem_map]
      rw [← wtTo_all] at f0
      refine Ev.step (fun k => by rw [impl_shares.l0]) (Ev_neg (by omega) ?_)
      rw [List.take_length]
      refine Ev_pos (by rw [List.length_map]; omega) ?_
      show Ev (fun _ => some ((K.map (floP a (wtTo K K.length))).set (0 : Int).toNat (wrap64 (rd (K.map (floP a (wtTo K K.length))) 0 + restL a (wtTo K K.length) K)))) _
      have : -1000000 ≤ floP a (wtTo K K.length) K[0] ∧ floP a (wtTo K K.length) K[0] ≤ 1000000 := ⟨f0.1, f0.2.1⟩
      rw [wid (rd (K.map (floP a (wtTo K K.length))) 0 + restL a (wtTo K K.length) K) (by omega) (by omega)]
      exact Ev.now _
    | succ d ih =>
      intro i hi
      have hm : K[i] ∈ K := List.getElem_mem (by omega)
      have f0 := flo_bd ha hb (part_f2 h hm).1 (hwm _ hm)
      rw [← wtTo_all] at f0
      have pf := part_f2 h hm
      have s0 := flo_sum_bd h a ha hb i (by omega)
      have s1 := flo_sum_bd h a ha hb (i + 1) (by omega)
      have st : sumL ((K.take (i + 1)).map (floP a (wtTo K K.length))) = sumL ((K.take i).map (floP a (wtTo K K.length))) + a * K[i].f2 / wtTo K K.length := by
        rw [List.take_succ_eq_append_getElem (by omega), List.map_append, sumL_append, List.map_cons, List.map_nil, sumL_one]
        rfl
      refine Ev.step (fun k => ?_) (ih (i + 1) (by omega))
      have hlen : ((K.take i).map (floP a (wtTo K K.length))).length = i := by rw [List.length_map, List.length_take]; omega
      simp only [impl_shares.l0]
      rw [if_pos (by omega), if_pos (by omega), if_pos (by omega), rdP_nat K i (by omega), wid (a * K[i].f2) (by omega) (by omega), down_ev (a * K[i].f2) (wtTo K K.length) (by omega) (by omega) (by omega) (by omega), Option.bind_some, if_pos (by omega), wsucc i (by omega), wid (a - sumL ((K.take i).map (floP a (wtTo K K.length))) - a * K[i].f2 / wtTo K K.length) (by omega) (by omega), st]
      rw [List.take_succ_eq_append_getElem (by omega), List.map_append, Int.sub_sub]
      rfl
  unfold impl_shares.f impl_weight.f
  refine Ev.bind (impl_weight_ev K h) ?_
  have := key K.length 0 (by omega)
  simpa [sumL] using this
theorem share_sum {K : List S68} (h : kernB K = true) (a w : Int) : sumL (shareL a w K) = a := by
  have hk := kern_len h
  have := sum_set id (K.map (floP a w)) 0 (rd (K.map (floP a w)) 0 + restL a w K) (by rw [List.length_map]; omega)
  simp only [List.map_id_fun, id] at this
  unfold shareL
  rw [this]
  show _ - (K.map (floP a w)).getD 0 0 + ((K.map (floP a w)).getD 0 0 + restL a w K) = a
  unfold restL
  omega
theorem share_at {K : List S68} (a w : Int) (i : Nat) (hi : i < K.length) : rd (shareL a w K) (i : Int) = if i = 0 then floP a w K[i] + restL a w K else floP a w K[i] := by
  unfold shareL
  rw [rd_nat, getD_set _ _ _ _ (by rw [List.length_map]; omega)]
  by_cases c : i = 0
  · subst c
    rw [if_pos rfl, if_pos rfl]
    show (K.map (floP a w)).getD 0 0 + _ = _
    rw [getD_of_lt _ 0 0 (by rw [List.length_map]; omega), List.getElem_map]
  · rw [if_neg c, if_neg c, getD_of_lt _ 0 i (by rw [List.length_map]; omega), List.getElem_map]
theorem sumN_le (n : Nat) (f g : Nat → Int) (h : ∀ i, i < n → f i ≤ g i) : sumN n f ≤ sumN n g := by
  induction n with
  | zero => rw [sumN_zero, sumN_zero]; omega
  | succ n ih =>
    rw [sumN_succ, sumN_succ]
    have := ih (fun i hi => h i (by omega))
    have := h n (by omega)
    omega
theorem sumN_bd (n : Nat) (f : Nat → Int) (b : Int) (hb : 0 ≤ b) (h : ∀ i, i < n → 0 ≤ f i ∧ f i ≤ b) : 0 ≤ sumN n f ∧ sumN n f ≤ b * n := by
  induction n with
  | zero => rw [sumN_zero]; simp
  | succ n ih =>
    rw [sumN_succ]
    have h1 := ih (fun i hi => h i (by omega))
    have h2 := h n (by omega)
    push_cast
    rw [Int.mul_add, Int.mul_one]
    omega
/-! Sums round about. -/
theorem Ev_eq {α : Type} {x : Option α} {a : α} (h : x = some a) : Ev (fun _ => x) a := ⟨0, fun _ _ => h⟩
theorem tab_const (n : Nat) (v : Int) (f : Nat → Int) (h : ∀ i, i < n → f i = v) : (List.range n).map f = List.replicate n v := by
  rw [tab_congr n f (fun _ => v) h]
  simp [List.map_const']
/-! Diffusion, cell by cell. -/
def dfS (w h way x y : Int) (K : List S68) (S : List Int) (q : Nat) (s : List Int × Int) : List Int × Int :=
  if x + way * (rd_T68 K (q : Int)).f0 < 0 ∨ w ≤ x + way * (rd_T68 K (q : Int)).f0 ∨ h ≤ y + (rd_T68 K (q : Int)).f1 then (s.1, s.2 + rd S (q : Int))
  else (s.1.set ((y + (rd_T68 K (q : Int)).f1) * w + (x + way * (rd_T68 K (q : Int)).f0)).toNat (rd s.1 ((y + (rd_T68 K (q : Int)).f1) * w + (x + way * (rd_T68 K (q : Int)).f0)) + rd S (q : Int)), s.2)
def dfT (w h way x y : Int) (K : List S68) (S : List Int) : Nat → Nat → List Int × Int → List Int × Int
  | 0, _, s => s
  | d + 1, q, s => dfT w h way x y K S d (q + 1) (dfS w h way x y K S q s)
def dfB (c : Int) (n : Nat) (s : List Int × Int) : Prop := s.1.length = n ∧ (∀ v ∈ s.1, -c ≤ v ∧ v ≤ c) ∧ -c ≤ s.2 ∧ s.2 ≤ c
theorem rd_bd {l : List Int} {c : Int} (hc : 0 ≤ c) (h : ∀ v ∈ l, -c ≤ v ∧ v ≤ c) (i : Int) : -c ≤ rd l i ∧ rd l i ≤ c := by
  unfold rd
  by_cases hi : i.toNat < l.length
  · exact h _ (getD_mem l _ hi)
  · rw [List.getD_eq_getElem?_getD, List.getElem?_eq_none (by omega)]
    exact ⟨by simpa using hc, by simpa using hc⟩
theorem dfS_bd {w h way x y c M : Int} {K : List S68} {S : List Int} {q n : Nat} {s : List Int × Int} (hc : 0 ≤ c) (hM : 0 ≤ M) (hb : dfB c n s) (hS : -M ≤ rd S (q : Int) ∧ rd S (q : Int) ≤ M) : dfB (c + M) n (dfS w h way x y K S q s) := by
  obtain ⟨b0, b1, b2, b3⟩ := hb
  unfold dfS
  split
  · exact ⟨b0, fun v hv => by have := b1 v hv; omega, by show -(c + M) ≤ s.2 + _; omega, by show s.2 + _ ≤ c + M; omega⟩
  · refine ⟨by rw [List.length_set]; exact b0, fun v hv => ?_, by show -(c + M) ≤ s.2; omega, by show s.2 ≤ c + M; omega⟩
    have r := rd_bd hc b1 ((y + (rd_T68 K (q : Int)).f1) * w + (x + way * (rd_T68 K (q : Int)).f0))
    rcases List.mem_or_eq_of_mem_set hv with e | e
    · have := b1 v e
      omega
    · omega
theorem dif_l2 {w h way x y : Int} {K : List S68} (hK : kernB K = true) (hx0 : 0 ≤ x) (hx1 : x < w) (hy0 : 0 ≤ y) (hy1 : y < h) (hw : w ≤ 64) (hh : h ≤ 64) (hway : way = 1 ∨ way = -1) (S : List Int) (hSl : S.length = K.length) (hS : ∀ q : Nat, -2000000 ≤ rd S (q : Int) ∧ rd S (q : Int) ≤ 2000000) (both : Bool) (E p D : List Int) (a1 a2 a3 a4 dw dh : Int) (n : Nat) (hn : (n : Int) = w * h) (R : Int × Int × List Int × List Int × Int) :
    ∀ (d q : Nat) (V : List Int) (L : Int), q + d = K.length → dfB (1000000000000 + 2000000 * (q : Int)) n (V, L) → Ev (fun k => impl_diffused.l1 k K both (dfT w h way x y K S d q (V, L)).1 E (dfT w h way x y K S d q (V, L)).2 y way a1 a2 a3 (wrap64 (a4 + 1)) w h p dw dh D) R → Ev (fun k => impl_diffused.l2 k K both V E L y way x a1 a2 a3 a4 S (S.length : Int) (q : Int) w h p dw dh D) R := by
  intro d
  have kl := kern_len hK
  induction d with
  | zero =>
    intro q V L hq hb hev
    exact Ev.step (fun k => impl_diffused.l2.eq_2 ..) (Ev_neg (by omega) hev)
  | succ d ih =>
    intro q V L hq hb hev
    have hb' := dfS_bd (w := w) (h := h) (way := way) (x := x) (y := y) (K := K) (S := S) (q := q) (by omega) (by omega) hb (hS q)
    have nx := ih (q + 1) (dfS w h way x y K S q (V, L)).1 (dfS w h way x y K S q (V, L)).2 (by omega) (by
      have e : (1000000000000 : Int) + 2000000 * (q : Int) + 2000000 = 1000000000000 + 2000000 * ((q + 1 : Nat) : Int) := by omega
      rw [e] at hb'
      exact hb') hev
    obtain ⟨b0, b1, b2, b3⟩ := hb
    dsimp only at b0 b1 b2 b3
    have sq := hS q
    have ok := of_decide_eq_true (kern_ok hK q (by omega))
    rw [← wsucc q (by omega)] at nx
    refine Ev.step (fun k => impl_diffused.l2.eq_2 ..) (Ev_pos (by omega) (Ev_pos (by omega) (Ev_pos (by omega) (Ev_pos (by omega) ?_))))
    have hwf : way * (rd_T68 K (q : Int)).f0 = (rd_T68 K (q : Int)).f0 ∨ way * (rd_T68 K (q : Int)).f0 = -(rd_T68 K (q : Int)).f0 := by
      rcases hway with rfl | rfl
      · left; omega
      · right; omega
    unfold dfS at nx
    rw [wid (way * (rd_T68 K (q : Int)).f0) (by omega) (by omega), wid (x + way * (rd_T68 K (q : Int)).f0) (by omega) (by omega), wid (y + (rd_T68 K (q : Int)).f1) (by omega) (by omega), wid (L + rd S (q : Int)) (by omega) (by omega)]
    generalize hU : x + way * (rd_T68 K (q : Int)).f0 = U at nx ⊢
    generalize hT : y + (rd_T68 K (q : Int)).f1 = T at nx ⊢
    by_cases c1 : U < 0
    · rw [if_pos (Or.inl c1)] at nx
      exact Ev_pos c1 nx
    · refine Ev_neg c1 ?_
      by_cases c2 : w ≤ U
      · rw [if_pos (Or.inr (Or.inl c2))] at nx
        exact Ev_pos c2 nx
      · refine Ev_neg (by omega) ?_
        by_cases c3 : h ≤ T
        · rw [if_pos (Or.inr (Or.inr c3))] at nx
          exact Ev_pos c3 nx
        · refine Ev_neg (by omega) ?_
          rw [if_neg (by omega)] at nx
          have ix := idx_lt (w := w) (h := h) (x := U) (y := T) (by omega) (by omega) (by omega) (by omega)
          have m0 : 0 ≤ T * w := Int.mul_nonneg (by omega) (by omega)
          have m1 : w * h ≤ 64 * 64 := Int.le_trans (Int.mul_le_mul_of_nonneg_right hw (by omega)) (Int.mul_le_mul_of_nonneg_left hh (by omega))
          have r := rd_bd (by omega) b1 (T * w + U)
          rw [wid (T * w) (by omega) (by omega), wid (T * w + U) (by omega) (by omega), wid (rd V (T * w + U) + rd S (q : Int)) (by omega) (by omega)]
          exact Ev_pos (by omega) (Ev_pos (by omega) nx)
/-- The values, the errors, the dots and what is lost, behind one more cell. -/
def dfC (w h way x y : Int) (K : List S68) (st : List Int × List Int × List Int × Int) : List Int × List Int × List Int × Int :=
  ((dfT w h way x y K (shareL (if rd st.1 (y * w + x) ≥ 128 then rd st.1 (y * w + x) - 255 else rd st.1 (y * w + x)) (wtTo K K.length) K) K.length 0 (st.1, st.2.2.2)).1,
   st.2.1.set (y * w + x).toNat (if rd st.1 (y * w + x) ≥ 128 then rd st.1 (y * w + x) - 255 else rd st.1 (y * w + x)),
   (if rd st.1 (y * w + x) ≥ 128 then st.2.2.1.set (y * w + x).toNat 1 else st.2.2.1),
   (dfT w h way x y K (shareL (if rd st.1 (y * w + x) ≥ 128 then rd st.1 (y * w + x) - 255 else rd st.1 (y * w + x)) (wtTo K K.length) K) K.length 0 (st.1, st.2.2.2)).2)
def wayN (both : Bool) (y : Nat) : Int := if both = true ∧ y % 2 = 1 then -1 else 1
def colN (both : Bool) (w : Int) (y c : Nat) : Int := if both = true ∧ y % 2 = 1 then w - 1 - (c : Int) else (c : Int)
def dfGood (w : Int) (n : Nat) (i : Int) (st : List Int × List Int × List Int × Int) : Prop := dfB 1000000000000 n (st.1, st.2.2.2) ∧ st.2.1.length = n ∧ st.2.2.1.length = n ∧ -1000000 ≤ (if rd st.1 i ≥ 128 then rd st.1 i - 255 else rd st.1 i) ∧ (if rd st.1 i ≥ 128 then rd st.1 i - 255 else rd st.1 i) ≤ 1000000
theorem share_bd {K : List S68} (hK : kernB K = true) (e : Int) (e0 : -1000000 ≤ e) (e1 : e ≤ 1000000) (q : Nat) : -2000000 ≤ rd (shareL e (wtTo K K.length) K) (q : Int) ∧ rd (shareL e (wtTo K K.length) K) (q : Int) ≤ 2000000 := by
  by_cases hq : q < K.length
  · rw [share_at _ _ q hq]
    have hwm := (wt_mem (fun p hp => part_f2 hK hp)).2 _ (List.getElem_mem hq)
    have f := flo_bd (a := e) e0 e1 (part_f2 hK (List.getElem_mem hq)).1 hwm
    rw [← wtTo_all] at f
    have f1 : -1000000 ≤ floP e (wtTo K K.length) K[q] ∧ floP e (wtTo K K.length) K[q] ≤ 1000000 := ⟨f.1, f.2.1⟩
    have r := rest_small hK e
    split <;> omega
  · rw [rd_nat, List.getD_eq_getElem?_getD, List.getElem?_eq_none (by rw [shareL_len]; omega)]
    simp
theorem dif_cell {w h : Int} {K : List S68} (hK : kernB K = true) (hw0 : 1 ≤ w) (hw : w ≤ 64) (hh0 : 1 ≤ h) (hh : h ≤ 64) (both : Bool) (p : List Int) (dw dh : Int) (n : Nat) (hn : (n : Int) = w * h) (R : Int × Int × List Int × List Int × Int) (y c : Nat) (hy : (y : Int) < h) (hc : (c : Int) < w) (st : List Int × List Int × List Int × Int) (hg : dfGood w n ((y : Int) * w + colN both w y c) st)
    (nx : Ev (fun k => impl_diffused.l1 k K both (dfC w h (wayN both y) (colN both w y c) y K st).1 (dfC w h (wayN both y) (colN both w y c) y K st).2.1 (dfC w h (wayN both y) (colN both w y c) y K st).2.2.2 (y : Int) (wayN both y) h (y : Int) w (wrap64 ((c : Int) + 1)) w h p dw dh (dfC w h (wayN both y) (colN both w y c) y K st).2.2.1) R) :
    Ev (fun k => impl_diffused.l1 k K both st.1 st.2.1 st.2.2.2 (y : Int) (wayN both y) h (y : Int) w (c : Int) w h p dw dh st.2.2.1) R := by
  have hx : 0 ≤ colN both w y c ∧ colN both w y c < w := by
    unfold colN
    split <;> omega
  have hway : wayN both y = 1 ∨ wayN both y = -1 := by
    unfold wayN
    split
    · exact Or.inr rfl
    · exact Or.inl rfl
  obtain ⟨gB, gE, gD, ge0, ge1⟩ := hg
  have ix := idx_lt (w := w) (h := h) (x := colN both w y c) (y := (y : Int)) hx.1 hx.2 (by omega) hy
  have m0 : 0 ≤ (y : Int) * w := Int.mul_nonneg (by omega) (by omega)
  have m1 : w * h ≤ 64 * 64 := Int.le_trans (Int.mul_le_mul_of_nonneg_right hw (by omega)) (Int.mul_le_mul_of_nonneg_left hh (by omega))
  have gl := gB.1
  dsimp only at gl
  have rb := rd_bd (by omega) gB.2.1 ((y : Int) * w + colN both w y c)
  dsimp only at rb
  have j5 : ∀ D' : List Int, D' = (dfC w h (wayN both y) (colN both w y c) y K st).2.2.1 → Ev (fun k => impl_diffused.j5 k K both st.1 st.2.1 st.2.2.2 (y : Int) (wayN both y) (colN both w y c) ((y : Int) * w + colN both w y c) (if rd st.1 ((y : Int) * w + colN both w y c) ≥ 128 then rd st.1 ((y : Int) * w + colN both w y c) - 255 else rd st.1 ((y : Int) * w + colN both w y c)) h (y : Int) w (c : Int) w h p dw dh D') R := by
    intro D' hD'
    subst hD'
    refine Ev.step (fun k => impl_diffused.j5.eq_2 ..) (Ev_pos (by omega) (Ev_pos (by omega) (Ev.bind (shares_ev hK _ ge0 ge1) ?_)))
    refine dif_l2 hK hx.1 hx.2 (by omega) hy hw hh hway _ (shareL_len _ _ _) (share_bd hK _ ge0 ge1) both _ p _ h (y : Int) w (c : Int) dw dh n hn R K.length 0 _ _ (by omega) ?_ ?_
    · show dfB (1000000000000 + 2000000 * ((0 : Nat) : Int)) n (st.1, st.2.2.2)
      rw [show (1000000000000 : Int) + 2000000 * ((0 : Nat) : Int) = 1000000000000 by omega]
      exact gB
    · exact nx
  have j4 : Ev (fun k => impl_diffused.j4 k K both st.1 st.2.1 st.2.2.2 (y : Int) (wayN both y) (colN both w y c) h (y : Int) w (c : Int) w h p dw dh st.2.2.1) R := by
    refine Ev.step (fun k => impl_diffused.j4.eq_2 ..) ?_
    rw [wid ((y : Int) * w) (by omega) (by omega), wid ((y : Int) * w + colN both w y c) (by omega) (by omega)]
    refine Ev_pos (by omega) (Ev_pos (by omega) ?_)
    by_cases cv : rd st.1 ((y : Int) * w + colN both w y c) ≥ 128
    · rw [wid (rd st.1 ((y : Int) * w + colN both w y c) - 255) (by omega) (by omega)]
      have := j5 (st.2.2.1.set ((y : Int) * w + colN both w y c).toNat 1) (if_pos cv).symm
      rw [if_pos cv] at this
      exact Ev_pos cv (Ev_pos (by omega) this)
    · have := j5 st.2.2.1 (if_neg cv).symm
      rw [if_neg cv] at this
      exact Ev_neg cv this
  refine Ev.step (fun k => impl_diffused.l1.eq_2 ..) (Ev_pos hc ?_)
  by_cases cb : both = true ∧ y % 2 = 1
  · have e1 : wayN both y = -1 := if_pos cb
    have e2 : colN both w y c = w - 1 - (c : Int) := if_pos cb
    refine Ev_pos (by omega) ?_
    rw [wid (w - 1) (by omega) (by omega), wid (w - 1 - (c : Int)) (by omega) (by omega), ← e2]
    exact j4
  · have e1 : wayN both y = 1 := if_neg cb
    have e2 : colN both w y c = (c : Int) := if_neg cb
    refine Ev_neg (by omega) ?_
    rw [e2] at j4
    exact j4
theorem dif_rows {w h : Int} {K : List S68} (hK : kernB K = true) (hw0 : 1 ≤ w) (hw : w ≤ 64) (hh0 : 1 ≤ h) (hh : h ≤ 64) (both : Bool) (p : List Int) (dw dh : Int) (n : Nat) (hn : (n : Int) = w * h) (Inv : Nat → (List Int × List Int × List Int × Int) → Prop)
    (hI : ∀ (y c : Nat) (st : List Int × List Int × List Int × Int), (y : Int) < h → (c : Int) < w → Inv (y * w.toNat + c) st → dfGood w n ((y : Int) * w + colN both w y c) st ∧ Inv (y * w.toNat + c + 1) (dfC w h (wayN both y) (colN both w y c) y K st))
    (st0 : List Int × List Int × List Int × Int) (h0 : Inv 0 st0) : ∃ st : List Int × List Int × List Int × Int, Inv (h.toNat * w.toNat) st ∧ Ev (fun k => impl_diffused.l0 k K both st0.1 st0.2.1 st0.2.2.2 h 0 w h p dw dh st0.2.2.1) (dw, dh, st.2.2.1, st.2.1, st.2.2.2) := by
  have outer : ∀ d y : Nat, y + d = h.toNat → ∀ st, Inv (y * w.toNat) st → ∃ st2, Inv (h.toNat * w.toNat) st2 ∧ Ev (fun k => impl_diffused.l0 k K both st.1 st.2.1 st.2.2.2 h (y : Int) w h p dw dh st.2.2.1) (dw, dh, st2.2.2.1, st2.2.1, st2.2.2.2) := by
    intro d
    induction d with
    | zero =>
      intro y hy st hst
      obtain rfl : y = h.toNat := by omega
      exact ⟨st, hst, Ev.step (fun k => impl_diffused.l0.eq_2 ..) (Ev_neg (by omega) (Ev.now _))⟩
    | succ d ih =>
      intro y hy st hst
      have inner : ∀ e c : Nat, c + e = w.toNat → ∀ st, Inv (y * w.toNat + c) st → ∃ st2, Inv (h.toNat * w.toNat) st2 ∧ Ev (fun k => impl_diffused.l1 k K both st.1 st.2.1 st.2.2.2 (y : Int) (wayN both y) h (y : Int) w (c : Int) w h p dw dh st.2.2.1) (dw, dh, st2.2.2.1, st2.2.1, st2.2.2.2) := by
        intro e
        induction e with
        | zero =>
          intro c hc st hst
          obtain rfl : c = w.toNat := by omega
          rw [← Nat.succ_mul] at hst
          obtain ⟨st2, i2, ev⟩ := ih (y + 1) (by omega) st hst
          rw [← wsucc y (by omega)] at ev
          exact ⟨st2, i2, Ev.step (fun k => impl_diffused.l1.eq_2 ..) (Ev_neg (by omega) ev)⟩
        | succ e ih2 =>
          intro c hc st hst
          obtain ⟨hg, hn'⟩ := hI y c st (by omega) (by omega) hst
          obtain ⟨st2, i2, ev⟩ := ih2 (c + 1) (by omega) _ hn'
          rw [← wsucc c (by omega)] at ev
          exact ⟨st2, i2, dif_cell hK hw0 hw hh0 hh both p dw dh n hn _ y c (by omega) (by omega) st hg ev⟩
      obtain ⟨st2, i2, ev⟩ := inner w.toNat 0 (by omega) st hst
      refine ⟨st2, i2, Ev.step (fun k => impl_diffused.l0.eq_2 ..) (Ev_pos (by omega) ?_)⟩
      have j2 : Ev (fun k => impl_diffused.j2 k K both st.1 st.2.1 st.2.2.2 (y : Int) (wayN both y) h (y : Int) w h p dw dh st.2.2.1) (dw, dh, st2.2.2.1, st2.2.1, st2.2.2.2) := Ev.step (fun k => impl_diffused.j2.eq_2 ..) ev
      have et : Int.tmod (y : Int) 2 = (y : Int) % 2 := tmod_nat y 2
      rw [et]
      by_cases cb : both = true
      · refine Ev_pos cb (Ev.step (fun k => impl_diffused.j1.eq_2 ..) ?_)
        by_cases cy : y % 2 = 1
        · have e1 : wayN both y = -1 := if_pos ⟨cb, cy⟩
          rw [e1] at j2
          exact Ev_pos (by rw [beq_iff_eq]; omega) j2
        · have e1 : wayN both y = 1 := if_neg (fun q => cy q.2)
          rw [e1] at j2
          exact Ev_neg (by rw [beq_iff_eq]; omega) j2
      · have e1 : wayN both y = 1 := if_neg (fun q => cb q.1)
        rw [e1] at j2
        exact Ev_neg cb (Ev.step (fun k => impl_diffused.j1.eq_2 ..) (Ev_neg (by simp) j2))
  have := outer h.toNat 0 (by omega) st0 (by rw [Nat.zero_mul]; exact h0)
  exact this
/-! What diffusion tells. -/
theorem rep_zero (w : Int) (n : Nat) : gridL w (fun _ _ => (0 : Int)) n = List.replicate n 0 := by
  rw [gridL_tab]
  exact tab_const n 0 _ (fun _ _ => rfl)
theorem dif_ev {w h : Int} {p : List Int} {K : List S68} (hK : kernB K = true) (hp : picB w h p 255 = true) (both : Bool) (Inv : Nat → (List Int × List Int × List Int × Int) → Prop)
    (hI : ∀ (y c : Nat) (st : List Int × List Int × List Int × Int), (y : Int) < h → (c : Int) < w → Inv (y * w.toNat + c) st → dfGood w p.length ((y : Int) * w + colN both w y c) st ∧ Inv (y * w.toNat + c + 1) (dfC w h (wayN both y) (colN both w y c) y K st))
    (h0 : Inv 0 (p, List.replicate p.length 0, List.replicate p.length 0, 0)) : ∃ st : List Int × List Int × List Int × Int, Inv p.length st ∧ Ev (fun k => impl_diffused.f k K w h p both) (w, h, st.2.2.1, st.2.1, st.2.2.2) := by
  obtain ⟨g0, g1, g2, g3, g4, g5, g6⟩ := pic_spec hp
  have hl := pic_small hp
  have hpl := pic_len hp
  obtain ⟨st, i2, ev⟩ := dif_rows hK g0 g1 g2 g3 both p w h p.length g5 Inv hI _ h0
  rw [hpl] at i2
  refine ⟨st, i2, ?_⟩
  unfold impl_diffused.f
  have ec : impl_copied.f w h p = some (w, h, p) := if_pos (by omega)
  refine Ev.bind (Ev_eq ec) (Ev.bind (Ev_eq (if_pos ⟨by omega, by omega, by omega, by omega, rfl⟩)) (Ev_pos (by omega) (Ev_pos (by omega) ?_)))
  dsimp only
  rw [hpl, rep_zero, Int.toNat_natCast]
  exact ev
theorem col_in {w : Int} (both : Bool) (y c : Nat) (hc : (c : Int) < w) : 0 ≤ colN both w y c ∧ colN both w y c < w := by
  unfold colN
  split <;> omega
theorem diffuse_ev {w h : Int} {p : List Int} {K : List S68} (hK : kernB K = true) (hp : picB w h p 255 = true) {both : Bool} {D E : List Int} {L : Int} (ev : Ev (fun k => impl_diffused.f k K w h p both) (w, h, D, E, L)) : Ev (fun k => impl_DiffusePicture.f k K w h p both) (w, h, D, L, true) := by
  have kl := kern_len hK
  have hk := implIsKernel_ev K (by omega)
  rw [hK] at hk
  unfold impl_DiffusePicture.f
  exact Ev.bind hk (Ev_pos rfl (Ev.bind (Ev_eq (impl_IsPicture.eq w h p)) (Ev_pos hp (Ev.bind ev (Ev.now _)))))
/-! Diffusion loses nothing. -/
theorem sumN_update (n : Nat) (f g : Nat → Int) (T : Nat) (hT : T < n) (h : ∀ t, t < n → t ≠ T → g t = f t) : sumN n g = sumN n f + (g T - f T) := by
  induction n with
  | zero => omega
  | succ n ih =>
    rw [sumN_succ, sumN_succ]
    by_cases c : T < n
    · rw [ih c (fun t ht hne => h t (by omega) hne), h n (by omega) (by omega)]
      omega
    · obtain rfl : T = n := by omega
      rw [sumN_congr T g f (fun t ht => h t (by omega) (by omega))]
      omega
def aB (x : Int) : Int := if x < 0 then -x else x
theorem aB_spec (x : Int) : 0 ≤ aB x ∧ x ≤ aB x ∧ -x ≤ aB x ∧ (aB x = x ∨ aB x = -x) := by
  unfold aB
  split <;> omega
theorem aB_add (x y : Int) : aB (x + y) ≤ aB x + aB y := by
  unfold aB
  split <;> split <;> split <;> omega
/-- When a cell's turn comes. -/
def prc (both : Bool) (wn t : Nat) : Nat := t / wn * wn + (if both = true ∧ t / wn % 2 = 1 then wn - 1 - t % wn else t % wn)
def unS (g : Int → Int) (both : Bool) (wn n m : Nat) (V : List Int) : Int := sumN n (fun t => if m ≤ prc both wn t then g (V.getD t 0) else 0)
theorem prc_cell (both : Bool) (wn y x : Nat) (hx : x < wn) : prc both wn (y * wn + x) = y * wn + (if both = true ∧ y % 2 = 1 then wn - 1 - x else x) := by
  unfold prc
  have e1 : (y * wn + x) / wn = y := by
    rw [Nat.add_comm, Nat.add_mul_div_right _ _ (by omega), Nat.div_eq_of_lt hx, Nat.zero_add]
  have e2 : (y * wn + x) % wn = x := by
    rw [Nat.add_comm, Nat.add_mul_mod_self_right, Nat.mod_eq_of_lt hx]
  rw [e1, e2]
theorem prc_inj (both : Bool) (wn y x t : Nat) (hx : x < wn) (h : prc both wn t = prc both wn (y * wn + x)) : t = y * wn + x := by
  have hw : 0 < wn := by omega
  have et := Nat.div_add_mod t wn
  have ht := Nat.mod_lt t hw
  rw [Nat.mul_comm] at et
  rw [← et] at h ⊢
  generalize t / wn = y2 at h ⊢
  generalize t % wn = x2 at ht h ⊢
  rw [prc_cell both wn y2 x2 ht, prc_cell both wn y x hx] at h
  have b1 : (if both = true ∧ y2 % 2 = 1 then wn - 1 - x2 else x2) < wn := by split <;> omega
  have b2 : (if both = true ∧ y % 2 = 1 then wn - 1 - x else x) < wn := by split <;> omega
  have ey : y2 = y := by
    have q1 : (y2 * wn + (if both = true ∧ y2 % 2 = 1 then wn - 1 - x2 else x2)) / wn = y2 := by
      rw [Nat.add_comm, Nat.add_mul_div_right _ _ hw, Nat.div_eq_of_lt b1, Nat.zero_add]
    have q2 : (y * wn + (if both = true ∧ y % 2 = 1 then wn - 1 - x else x)) / wn = y := by
      rw [Nat.add_comm, Nat.add_mul_div_right _ _ hw, Nat.div_eq_of_lt b2, Nat.zero_add]
    rw [h] at q1
    omega
  subst ey
  have e2 : (if both = true ∧ y2 % 2 = 1 then wn - 1 - x2 else x2) = (if both = true ∧ y2 % 2 = 1 then wn - 1 - x else x) := by omega
  split at e2 <;> omega
theorem prc_lt (both : Bool) (wn hn t : Nat) (hw : 0 < wn) (ht : t < hn * wn) : prc both wn t < hn * wn := by
  unfold prc
  have h1 : t / wn < hn := Nat.div_lt_of_lt_mul (by rw [Nat.mul_comm]; exact ht)
  have h2 := Nat.mod_lt t hw
  have h3 : (t / wn + 1) * wn ≤ hn * wn := Nat.mul_le_mul_right _ (by omega)
  rw [Nat.succ_mul] at h3
  split <;> omega
theorem unS_all (g : Int → Int) (both : Bool) (wn n : Nat) (V : List Int) : unS g both wn n 0 V = sumN n (fun t => g (V.getD t 0)) := sumN_congr _ _ _ (fun t _ => if_pos (Nat.zero_le _))
theorem unS_end (g : Int → Int) (both : Bool) (wn hn : Nat) (V : List Int) (hw : 0 < wn) : unS g both wn (hn * wn) (hn * wn) V = 0 := by
  unfold unS
  rw [sumN_congr _ _ (fun _ => 0) (fun t ht => if_neg (by have := prc_lt both wn hn t hw ht; omega))]
  have : ∀ k : Nat, sumN k (fun _ => (0 : Int)) = 0 := by
    intro k
    induction k with
    | zero => rfl
    | succ k ih => rw [sumN_succ, ih]; rfl
  exact this _
theorem unS_next (g : Int → Int) (both : Bool) (wn n m i : Nat) (V : List Int) (hi : i < n) (hm : prc both wn i = m) (hu : ∀ t, t < n → prc both wn t = m → t = i) : unS g both wn n m V = g (V.getD i 0) + unS g both wn n (m + 1) V := by
  unfold unS
  rw [sumN_update n (fun t => if m + 1 ≤ prc both wn t then g (V.getD t 0) else 0) (fun t => if m ≤ prc both wn t then g (V.getD t 0) else 0) i hi (fun t ht hne => ?_)]
  · rw [if_pos (by omega), if_neg (by omega)]
    omega
  · by_cases c : m + 1 ≤ prc both wn t
    · rw [if_pos c, if_pos (by omega)]
    · rw [if_neg c, if_neg (fun q => hne (hu t ht (by omega)))]
theorem unS_set_id (both : Bool) (wn n m T : Nat) (V : List Int) (s : Int) (hV : V.length = n) (hT : T < n) (hm : m ≤ prc both wn T) : unS id both wn n m (V.set T (V.getD T 0 + s)) = unS id both wn n m V + s := by
  unfold unS
  rw [sumN_update n (fun t => if m ≤ prc both wn t then id (V.getD t 0) else 0) (fun t => if m ≤ prc both wn t then id ((V.set T (V.getD T 0 + s)).getD t 0) else 0) T hT (fun t ht hne => ?_)]
  · rw [if_pos hm, if_pos hm, getD_set _ _ _ _ (by omega), if_pos rfl]
    show _ + (V.getD T 0 + s - V.getD T 0) = _
    omega
  · rw [getD_set _ _ _ _ (by omega), if_neg hne]
theorem unS_set_abs (both : Bool) (wn n m T : Nat) (V : List Int) (s : Int) (hV : V.length = n) (hT : T < n) : unS aB both wn n m (V.set T (V.getD T 0 + s)) ≤ unS aB both wn n m V + aB s := by
  unfold unS
  rw [sumN_update n (fun t => if m ≤ prc both wn t then aB (V.getD t 0) else 0) (fun t => if m ≤ prc both wn t then aB ((V.set T (V.getD T 0 + s)).getD t 0) else 0) T hT (fun t ht hne => ?_)]
  · have h1 := aB_add (V.getD T 0) s
    have h2 := (aB_spec s).1
    rw [getD_set _ _ _ _ (by omega), if_pos rfl]
    split <;> omega
  · rw [getD_set _ _ _ _ (by omega), if_neg hne]
/-- The parts' own sums. -/
theorem dfT_cons {w h : Int} {K : List S68} (hK : kernB K = true) (hw0 : 1 ≤ w) (both : Bool) (y c : Nat) (hy : (y : Int) < h) (hc : (c : Int) < w) (S : List Int) (n : Nat) (hn : n = h.toNat * w.toNat) : ∀ (d q : Nat) (V : List Int) (L : Int), q + d = K.length → V.length = n →
    (dfT w h (wayN both y) (colN both w y c) (y : Int) K S d q (V, L)).1.length = n ∧
    unS id both w.toNat n (y * w.toNat + c + 1) (dfT w h (wayN both y) (colN both w y c) (y : Int) K S d q (V, L)).1 + (dfT w h (wayN both y) (colN both w y c) (y : Int) K S d q (V, L)).2 = unS id both w.toNat n (y * w.toNat + c + 1) V + L + sumN d (fun r => rd S ((q + r : Nat) : Int)) ∧
    unS aB both w.toNat n (y * w.toNat + c + 1) (dfT w h (wayN both y) (colN both w y c) (y : Int) K S d q (V, L)).1 ≤ unS aB both w.toNat n (y * w.toNat + c + 1) V + sumN d (fun r => aB (rd S ((q + r : Nat) : Int))) := by
  intro d
  induction d with
  | zero =>
    intro q V L hq hV
    refine ⟨hV, ?_, ?_⟩
    · rw [sumN_zero, Int.add_zero]
      rfl
    · rw [sumN_zero, Int.add_zero]
      exact Int.le_refl _
  | succ d ih =>
    intro q V L hq hV
    have e1 : ∀ f : Nat → Int, sumN (d + 1) (fun r => f (q + r)) = f q + sumN d (fun r => f (q + 1 + r)) := by
      intro f
      have := sumN_add 1 d (fun r => f (q + r))
      rw [Nat.add_comm 1 d] at this
      rw [this, sumN_succ, sumN_zero, Int.zero_add, Nat.add_zero]
      congr 1
      exact sumN_congr _ _ _ (fun r _ => by rw [Nat.add_assoc])
    rw [e1 (fun r => rd S ((r : Nat) : Int)), e1 (fun r => aB (rd S ((r : Nat) : Int)))]
    have ok := of_decide_eq_true (kern_ok hK q (by omega))
    have hx := col_in both y c hc
    have hpos := (aB_spec (rd S (q : Int))).1
    show (dfT w h (wayN both y) (colN both w y c) (y : Int) K S d (q + 1) (dfS w h (wayN both y) (colN both w y c) (y : Int) K S q (V, L))).1.length = n ∧ unS id both w.toNat n (y * w.toNat + c + 1) (dfT w h (wayN both y) (colN both w y c) (y : Int) K S d (q + 1) (dfS w h (wayN both y) (colN both w y c) (y : Int) K S q (V, L))).1 + (dfT w h (wayN both y) (colN both w y c) (y : Int) K S d (q + 1) (dfS w h (wayN both y) (colN both w y c) (y : Int) K S q (V, L))).2 = _ ∧ unS aB both w.toNat n (y * w.toNat + c + 1) (dfT w h (wayN both y) (colN both w y c) (y : Int) K S d (q + 1) (dfS w h (wayN both y) (colN both w y c) (y : Int) K S q (V, L))).1 ≤ _
    unfold dfS
    by_cases cc : colN both w y c + wayN both y * (rd_T68 K (q : Int)).f0 < 0 ∨ w ≤ colN both w y c + wayN both y * (rd_T68 K (q : Int)).f0 ∨ h ≤ (y : Int) + (rd_T68 K (q : Int)).f1
    · rw [if_pos cc]
      obtain ⟨i1, i2, i3⟩ := ih (q + 1) V (L + rd S (q : Int)) (by omega) hV
      dsimp only at i1 i2 i3 ⊢
      exact ⟨i1, by omega, by omega⟩
    · rw [if_neg cc]
      dsimp only
      generalize hU : colN both w y c + wayN both y * (rd_T68 K (q : Int)).f0 = U at cc ⊢
      obtain ⟨T, hT⟩ : ∃ T : Nat, (y : Int) + (rd_T68 K (q : Int)).f1 = (T : Int) := ⟨((y : Int) + (rd_T68 K (q : Int)).f1).toNat, by omega⟩
      rw [hT] at cc ⊢
      obtain ⟨u, rfl⟩ : ∃ u : Nat, U = (u : Int) := ⟨U.toNat, by omega⟩
      have hwn : ((w.toNat : Nat) : Int) = w := Int.toNat_of_nonneg (by omega)
      have eix : (T : Int) * w + (u : Int) = ((T * w.toNat + u : Nat) : Int) := by rw [Int.natCast_add, Int.natCast_mul, hwn]
      rw [eix, Int.toNat_natCast, rd_nat]
      have hu : u < w.toNat := by omega
      have hTh : (T + 1) * w.toNat ≤ h.toNat * w.toNat := Nat.mul_le_mul_right _ (by omega)
      rw [Nat.succ_mul] at hTh
      have hlt : T * w.toNat + u < n := by omega
      have hprc : y * w.toNat + c + 1 ≤ prc both w.toNat (T * w.toNat + u) := by
        rw [prc_cell both w.toNat T u hu]
        by_cases ct : T = y
        · subst ct
          have f0 : (rd_T68 K (q : Int)).f1 = 0 := by omega
          have f1 : 1 ≤ (rd_T68 K (q : Int)).f0 := by omega
          by_cases cb : both = true ∧ T % 2 = 1
          · have w1 : wayN both T = -1 := if_pos cb
            have w2 : colN both w T c = w - 1 - (c : Int) := if_pos cb
            rw [if_pos cb]
            rw [w1, w2] at hU
            omega
          · have w1 : wayN both T = 1 := if_neg cb
            have w2 : colN both w T c = (c : Int) := if_neg cb
            rw [if_neg cb]
            rw [w1, w2] at hU
            omega
        · have hTy : (y + 1) * w.toNat ≤ T * w.toNat := Nat.mul_le_mul_right _ (by omega)
          rw [Nat.succ_mul] at hTy
          omega
      obtain ⟨i1, i2, i3⟩ := ih (q + 1) (V.set (T * w.toNat + u) (V.getD (T * w.toNat + u) 0 + rd S (q : Int))) L (by omega) (by rw [List.length_set]; exact hV)
      have s1 := unS_set_id both w.toNat n (y * w.toNat + c + 1) (T * w.toNat + u) V (rd S (q : Int)) hV hlt hprc
      have s2 := unS_set_abs both w.toNat n (y * w.toNat + c + 1) (T * w.toNat + u) V (rd S (q : Int)) hV hlt
      exact ⟨i1, by omega, by omega⟩
theorem sumN_plus (n : Nat) (f g : Nat → Int) : sumN n (fun i => f i + g i) = sumN n f + sumN n g := by
  induction n with
  | zero => rfl
  | succ n ih => rw [sumN_succ, sumN_succ, sumN_succ, ih]; omega
theorem sumN_first (n : Nat) (c : Int) (hn : 1 ≤ n) : sumN n (fun i => if i = 0 then c else 0) = c := by
  induction n with
  | zero => omega
  | succ n ih =>
    rw [sumN_succ]
    by_cases h : n = 0
    · subst h
      rw [sumN_zero, if_pos rfl, Int.zero_add]
    · rw [ih (by omega), if_neg h, Int.add_zero]
theorem sumN_list (l : List Int) : sumN l.length (fun r => l.getD r 0) = sumL l := by
  unfold sumN
  rw [tab_self]
theorem share_sumN {K : List S68} (hK : kernB K = true) (e : Int) : sumN K.length (fun r => rd (shareL e (wtTo K K.length) K) ((0 + r : Nat) : Int)) = e := by
  have h := sumN_list (shareL e (wtTo K K.length) K)
  rw [shareL_len, share_sum hK e] at h
  refine Eq.trans (sumN_congr _ _ _ (fun r _ => ?_)) h
  rw [Nat.zero_add, rd_nat]
theorem flo_sign {e w f : Int} (hw : 0 < w) (hf : 0 ≤ f) : (0 ≤ e → 0 ≤ e * f / w) ∧ (e < 0 → e * f / w ≤ 0) := by
  refine ⟨fun h => Int.ediv_nonneg (Int.mul_nonneg h hf) (by omega), fun h => ?_⟩
  have h1 : (-e) * f ≥ 0 := Int.mul_nonneg (by omega) hf
  rw [Int.neg_mul] at h1
  have h2 := Int.mul_ediv_add_emod (e * f) w
  have h3 := Int.emod_nonneg (e * f) (b := w) (by omega)
  by_cases c : e * f / w ≤ 0
  · exact c
  · exfalso
    have h5 : w * 1 ≤ w * (e * f / w) := Int.mul_le_mul_of_nonneg_left (by omega) (by omega)
    omega
theorem share_abs {K : List S68} (hK : kernB K = true) (e : Int) : sumN K.length (fun r => aB (rd (shareL e (wtTo K K.length) K) ((0 + r : Nat) : Int))) ≤ aB e + 24 := by
  have kl := kern_len hK
  have hr := rest_small hK e
  have hw := wtTo_bd hK K.length (Nat.le_refl _)
  have hsum : sumN K.length (fun r => (K.map (floP e (wtTo K K.length))).getD r 0) = e - restL e (wtTo K K.length) K := by
    have := sumN_list (K.map (floP e (wtTo K K.length)))
    rw [List.length_map] at this
    rw [this]
    unfold restL
    omega
  have hle : ∀ r, r < K.length → aB (rd (shareL e (wtTo K K.length) K) ((0 + r : Nat) : Int)) ≤ (if 0 ≤ e then (1 : Int) else -1) * (K.map (floP e (wtTo K K.length))).getD r 0 + (if r = 0 then restL e (wtTo K K.length) K else 0) := by
    intro r hr2
    have f2 := part_f2 hK (List.getElem_mem hr2)
    have fs := flo_sign (e := e) (w := wtTo K K.length) (f := K[r].f2) (by omega) (by omega)
    rw [Nat.zero_add, share_at _ _ r hr2, getD_of_lt _ 0 r (by rw [List.length_map]; exact hr2), List.getElem_map]
    have ef : floP e (wtTo K K.length) K[r] = e * K[r].f2 / wtTo K K.length := rfl
    rw [ef]
    generalize e * K[r].f2 / wtTo K K.length = F at fs
    by_cases h0 : 0 ≤ e
    · have := fs.1 h0
      rw [if_pos h0]
      unfold aB
      split <;> split <;> omega
    · have := fs.2 (by omega)
      rw [if_neg h0]
      unfold aB
      split <;> split <;> omega
  have h1 := sumN_le K.length _ _ hle
  rw [sumN_plus, sumN_mul, sumN_first _ _ kl.1, hsum] at h1
  have ha := aB_spec e
  by_cases h0 : 0 ≤ e
  · rw [if_pos h0] at h1
    omega
  · rw [if_neg h0] at h1
    omega
theorem unS_nonneg (both : Bool) (wn n m : Nat) (V : List Int) : 0 ≤ unS aB both wn n m V := by
  have z : ∀ k : Nat, sumN k (fun _ => (0 : Int)) = 0 := by
    intro k
    induction k with
    | zero => rfl
    | succ k ih => rw [sumN_succ, ih]; rfl
  have := sumN_le n (fun _ => 0) (fun t => if m ≤ prc both wn t then aB (V.getD t 0) else 0) (fun t _ => by
    have := (aB_spec (V.getD t 0)).1
    split <;> omega)
  rw [z] at this
  exact this
theorem dfT_bd {w h way x y : Int} {K : List S68} {S : List Int} {n : Nat} (hS : ∀ q : Nat, -2000000 ≤ rd S (q : Int) ∧ rd S (q : Int) ≤ 2000000) (d : Nat) : ∀ (q : Nat) (c : Int) (s : List Int × Int), 0 ≤ c → dfB c n s → dfB (c + 2000000 * (d : Int)) n (dfT w h way x y K S d q s) := by
  induction d with
  | zero =>
    intro q c s hc hb
    rw [show c + 2000000 * ((0 : Nat) : Int) = c by omega]
    exact hb
  | succ d ih =>
    intro q c s hc hb
    have := ih (q + 1) (c + 2000000) _ (by omega) (dfS_bd (w := w) (h := h) (way := way) (x := x) (y := y) (K := K) (S := S) (q := q) hc (by omega) hb (hS q))
    rw [show c + 2000000 * ((d + 1 : Nat) : Int) = c + 2000000 + 2000000 * (d : Int) by omega]
    exact this
theorem dfB_mono {c c2 : Int} {n : Nat} {s : List Int × Int} (h : c ≤ c2) (hb : dfB c n s) : dfB c2 n s := ⟨hb.1, fun v hv => by have := hb.2.1 v hv; omega, by have := hb.2.2.1; omega, by have := hb.2.2.2; omega⟩
def cInv (both : Bool) (w : Int) (p : List Int) (m : Nat) (st : List Int × List Int × List Int × Int) : Prop :=
  dfB (1000 + 24000000 * (m : Int)) p.length (st.1, st.2.2.2) ∧ st.2.1.length = p.length ∧ st.2.2.1.length = p.length ∧ (∀ v ∈ st.2.2.1, 0 ≤ v ∧ v ≤ 1) ∧ unS aB both w.toNat p.length m st.1 ≤ 255 * (p.length : Int) + 24 * (m : Int) ∧ 255 * sumL st.2.2.1 + st.2.2.2 + unS id both w.toNat p.length m st.1 = sumL p ∧ (∀ t, t < p.length → m ≤ prc both w.toNat t → st.2.2.1.getD t 0 = 0) ∧ (m = 0 → st.1 = p) ∧ (1 ≤ m → st.2.1.getD 0 0 = p.getD 0 0 - 255 * st.2.2.1.getD 0 0)
theorem cons_step {w h : Int} {p : List Int} {K : List S68} (hK : kernB K = true) (hp : picB w h p 255 = true) (both : Bool) (y c : Nat) (st : List Int × List Int × List Int × Int) (hy : (y : Int) < h) (hc : (c : Int) < w) (hst : cInv both w p (y * w.toNat + c) st) : dfGood w p.length ((y : Int) * w + colN both w y c) st ∧ cInv both w p (y * w.toNat + c + 1) (dfC w h (wayN both y) (colN both w y c) y K st) := by
  obtain ⟨g0, g1, g2, g3, g4, g5, g6⟩ := pic_spec hp
  have sl := pic_small hp
  have hpl := pic_len hp
  have kl := kern_len hK
  have hwn : ((w.toNat : Nat) : Int) = w := Int.toNat_of_nonneg (by omega)
  have hx := col_in both y c hc
  obtain ⟨xn, hxn⟩ : ∃ xn : Nat, colN both w y c = (xn : Int) := ⟨(colN both w y c).toNat, by omega⟩
  have hxw : xn < w.toNat := by omega
  have ei : (y : Int) * w + colN both w y c = ((y * w.toNat + xn : Nat) : Int) := by rw [hxn, Int.natCast_add, Int.natCast_mul, hwn]
  have hyh : (y + 1) * w.toNat ≤ h.toNat * w.toNat := Nat.mul_le_mul_right _ (by omega)
  rw [Nat.succ_mul] at hyh
  have hin : y * w.toNat + xn < p.length := by omega
  have hprc : prc both w.toNat (y * w.toNat + xn) = y * w.toNat + c := by
    rw [prc_cell both w.toNat y xn hxw]
    unfold colN at hxn
    by_cases cb : both = true ∧ y % 2 = 1
    · rw [if_pos cb] at hxn ⊢
      omega
    · rw [if_neg cb] at hxn ⊢
      omega
  obtain ⟨i0, i1, i2, i3, i4, i5, i6, i7, i8⟩ := hst
  have hmn : y * w.toNat + c < p.length := by omega
  generalize hm : y * w.toNat + c = m at *
  have hV := i0.1
  dsimp only at hV
  have nid := unS_next id both w.toNat p.length m (y * w.toNat + xn) st.1 hin hprc (fun t _ h2 => prc_inj both w.toNat y xn t hxw (h2.trans hprc.symm))
  have nab := unS_next aB both w.toNat p.length m (y * w.toNat + xn) st.1 hin hprc (fun t _ h2 => prc_inj both w.toNat y xn t hxw (h2.trans hprc.symm))
  have nn := unS_nonneg both w.toNat p.length (m + 1) st.1
  have D0 := i6 _ hin (by omega)
  have cons := dfT_cons hK g0 both y c hy hc (shareL (if st.1.getD (y * w.toNat + xn) 0 ≥ 128 then st.1.getD (y * w.toNat + xn) 0 - 255 else st.1.getD (y * w.toNat + xn) 0) (wtTo K K.length) K) p.length hpl.symm K.length 0 st.1 st.2.2.2 (by omega) hV
  rw [hm, share_sumN hK] at cons
  have sab := share_abs hK (if st.1.getD (y * w.toNat + xn) 0 ≥ 128 then st.1.getD (y * w.toNat + xn) 0 - 255 else st.1.getD (y * w.toNat + xn) 0)
  have hbd := share_bd hK (if st.1.getD (y * w.toNat + xn) 0 ≥ 128 then st.1.getD (y * w.toNat + xn) 0 - 255 else st.1.getD (y * w.toNat + xn) 0)
  unfold dfGood dfC
  rw [ei, rd_nat, Int.toNat_natCast]
  have hid : id (st.1.getD (y * w.toNat + xn) 0) = st.1.getD (y * w.toNat + xn) 0 := rfl
  rw [hid] at nid
  have E0 : (y * w.toNat + xn = 0 ↔ m = 0) := by
    constructor
    · intro h0
      have y0 : y = 0 := by
        by_cases hy0 : y = 0
        · exact hy0
        · have := Nat.mul_le_mul (show 1 ≤ y by omega) (show 1 ≤ w.toNat by omega)
          omega
      subst y0
      unfold colN at hxn
      rw [if_neg (by simp)] at hxn
      omega
    · intro h0
      have y0 : y = 0 := by
        by_cases hy0 : y = 0
        · exact hy0
        · have := Nat.mul_le_mul (show 1 ≤ y by omega) (show 1 ≤ w.toNat by omega)
          omega
      subst y0
      unfold colN at hxn
      rw [if_neg (by simp)] at hxn
      omega
  generalize hv : st.1.getD (y * w.toNat + xn) 0 = v at *
  generalize hi : y * w.toNat + xn = i at *
  have av := aB_spec v
  obtain ⟨e, he⟩ : ∃ e : Int, (if v ≥ 128 then v - 255 else v) = e := ⟨_, rfl⟩
  rw [he] at cons sab hbd ⊢
  have ae := aB_spec e
  have hev : aB e ≤ aB v ∧ (v ≥ 128 → e = v - 255) ∧ (¬ v ≥ 128 → e = v) := by
    by_cases c1 : v ≥ 128
    · rw [if_pos c1] at he
      refine ⟨?_, fun _ => he.symm, fun h => absurd c1 h⟩
      subst he
      unfold aB
      split <;> split <;> omega
    · rw [if_neg c1] at he
      refine ⟨by rw [he]; exact Int.le_refl _, fun h => absurd h c1, fun _ => he.symm⟩
  have e0 : -1000000 ≤ e := by omega
  have e1 : e ≤ 1000000 := by omega
  have hbd := hbd e0 e1
  have tb := dfT_bd (w := w) (h := h) (way := wayN both y) (x := colN both w y c) (y := (y : Int)) (K := K) (S := shareL e (wtTo K K.length) K) (n := p.length) hbd K.length 0 _ _ (by omega) i0
  obtain ⟨c0, c1, c2⟩ := cons
  refine ⟨⟨dfB_mono (by omega) i0, i1, i2, e0, e1⟩, dfB_mono (by omega) tb, by rw [List.length_set]; exact i1, ?_, ?_, by dsimp only; omega, ?_, ?_, fun h => by omega, ?_⟩
  · split
    · rw [List.length_set]
      exact i2
    · exact i2
  · split
    · exact mem_set_bd i3 (by omega) (by omega)
    · exact i3
  · dsimp only
    by_cases g : v ≥ 128
    · rw [if_pos g]
      have ss := sum_set id st.2.2.1 i 1 (by omega)
      rw [List.map_id, List.map_id, D0] at ss
      have z1 : id (0 : Int) = 0 := rfl
      have z2 : id (1 : Int) = 1 := rfl
      rw [z1, z2] at ss
      have := hev.2.1 g
      omega
    · rw [if_neg g]
      have := hev.2.2 g
      omega
  · intro t ht hmt
    by_cases g : v ≥ 128
    · rw [if_pos g, getD_set _ _ _ _ (by omega), if_neg (fun q => by subst q; omega)]
      exact i6 t ht (by omega)
    · rw [if_neg g]
      exact i6 t ht (by omega)
  · intro _
    dsimp only
    by_cases z : i = 0
    · have hm0 := E0.1 z
      have hp0 := i7 hm0
      rw [hp0] at hv
      rw [z] at hv D0 ⊢
      rw [getD_set _ _ _ _ (by omega), if_pos rfl]
      by_cases g : v ≥ 128
      · rw [if_pos g, getD_set _ _ _ _ (by omega), if_pos rfl]
        have := hev.2.1 g
        omega
      · rw [if_neg g, D0]
        have := hev.2.2 g
        omega
    · have i8' := i8 (by
        by_cases q : m = 0
        · exact absurd (E0.2 q) z
        · omega)
      rw [getD_set _ _ _ _ (by omega), if_neg (by omega), i8']
      by_cases g : v ≥ 128
      · rw [if_pos g, getD_set _ _ _ _ (by omega), if_neg (by omega)]
      · rw [if_neg g]
theorem dif_conserved {w h : Int} {p : List Int} {K : List S68} (hK : kernB K = true) (hp : picB w h p 255 = true) (both : Bool) : ∃ (D E : List Int) (L : Int), Ev (fun k => impl_diffused.f k K w h p both) (w, h, D, E, L) ∧ D.length = p.length ∧ E.length = p.length ∧ (∀ v ∈ D, 0 ≤ v ∧ v ≤ 1) ∧ 255 * sumL D + L = sumL p ∧ E.getD 0 0 = p.getD 0 0 - 255 * D.getD 0 0 := by
  obtain ⟨g0, g1, g2, g3, g4, g5, g6⟩ := pic_spec hp
  have sl := pic_small hp
  have hpl := pic_len hp
  have hpos : 0 < w * h := Int.mul_pos (by omega) (by omega)
  have hsp : sumN p.length (fun t => id (p.getD t 0)) = sumL p := sumN_list p
  have hab : sumN p.length (fun t => aB (p.getD t 0)) ≤ 255 * (p.length : Int) := (sumN_bd p.length _ 255 (by omega) (fun t ht => by
    have := g6 _ (getD_mem p t ht)
    unfold aB
    split <;> omega)).2
  obtain ⟨st, i2, ev⟩ := dif_ev hK hp both (cInv both w p) (fun y c st hy hc hst => cons_step hK hp both y c st hy hc hst) ⟨⟨rfl, fun v hv => by have := g6 v hv; omega, by show _ ≤ (0 : Int); omega, by show (0 : Int) ≤ _; omega⟩, List.length_replicate, List.length_replicate, rep_bd _ _ (by omega), by
    rw [unS_all]
    dsimp only
    omega, by
    rw [unS_all, hsp, sumL_rep]
    dsimp only
    omega, fun t ht _ => by rw [getD_of_lt _ 0 t (by rw [List.length_replicate]; exact ht), List.getElem_replicate], fun _ => rfl, fun h => by omega⟩
  obtain ⟨i0, i1, i3, i4, i5, i6, i7, i8, i9⟩ := i2
  have he : unS id both w.toNat p.length p.length st.1 = 0 := by
    have := unS_end id both w.toNat h.toNat st.1 (by omega)
    rw [hpl] at this
    exact this
  rw [he] at i6
  exact ⟨st.2.2.1, st.2.1, st.2.2.2, ev, i3, i1, i4, by omega, i9 (by omega)⟩
/-- The law FnConserved: diffusion loses nothing: the dots and what is lost are the ink, and the errors belong to the same run; for the inputs that the law draws. -/
theorem FnConserved (l0 : List Int) (h0_ : l0.length ≤ maxLen) (h1_ : l0.length * 1 ≤ 140737488351232) (h2_ : (∀ x ∈ l0, (Lit.int .u8 x).wf = true)) :
    ∃ k, P.laws_FnConserved.f k l0 = some true := by
  refine Ev.rounds ?_
  unfold laws_FnConserved.f
  by_cases hl : (l0.length : Int) > 1048576
  · exact Ev_pos hl (Ev.now _)
  refine Ev_neg hl ?_
  obtain ⟨K, hK, HK⟩ := MakeKernel_ok l0 h0_
  obtain ⟨F, hF, HF⟩ := fresh_ok l0 3 (by omega)
  obtain ⟨w, h, p, hp, hw, hh, HP⟩ := MakePicture_ok F 9 hF (by omega) (by omega)
  obtain ⟨a, ea, a0, a1⟩ := at_ok l0 1 (by omega) (by omega) (by omega) (u8_bd h2_)
  obtain ⟨g0, g1, g2, g3, g4, g5, g6⟩ := pic_spec hp
  have hsz : sizedB w h = true := decide_eq_true ⟨g0, g1, g2, g3, g4⟩
  have hpl := pic_len hp
  have hsp := pic_small hp
  have hpos : 0 < w * h := Int.mul_pos (by omega) (by omega)
  have kl := kern_len hK
  obtain ⟨D, E, L, ev, d0, d1, d2, d3, d4⟩ := dif_conserved hK hp (Int.tmod a 2 == 1)
  have hD : plateB w h D = true := by
    rw [plateB_eq]
    exact pic_mk hsz (by omega) d2
  have hcnt : sumL (D.map (isV 1)) = sumL D := by
    have : D.map (isV 1) = D.map id := List.map_congr_left (fun v hv => by
      have := d2 v hv
      show isV 1 v = v
      unfold isV
      split <;> omega)
    rw [this, List.map_id]
  have sD := sumL_bd D 0 1 (by omega) (by omega) d2
  have sp := pic_sum_bd hp
  have hE : Ev (fun k => impl_ErrorsOf.f k K w h p (Int.tmod a 2 == 1)) E := by
    have hk := implIsKernel_ev K (by omega)
    rw [hK] at hk
    unfold impl_ErrorsOf.f
    exact Ev.bind hk (Ev_pos rfl (Ev.bind (Ev_eq (impl_IsPicture.eq w h p)) (Ev_pos hp (Ev.bind ev (Ev.now _)))))
  have hc := pic_cnt 1 (plate_pic hD)
  rw [hcnt] at hc
  have b0 := g6 _ (getD_mem p 0 (by omega))
  have b1 := d2 _ (getD_mem D 0 (by omega))
  have e0 : ∀ l : List Int, rd l 0 = l.getD 0 0 := fun l => rfl
  refine Ev.bind HK (Ev.bind HF (Ev.bind HP (Ev.bind (Ev_eq ea) (Ev.bind (diffuse_ev hK hp ev) (Ev_pos rfl (Ev.bind (Ev_eq (impl_IsPlate.eq w h D)) (Ev_pos hD (Ev_pos (by dsimp only; omega) (Ev.bind hc (Ev.bind (pic_total hp (by omega)) (Ev_pos ?_ (Ev.bind hE (Ev_pos (by dsimp only; omega) (Ev_pos (by omega) (Ev_pos (by dsimp only; omega) (Ev_pos (by dsimp only; omega) ?_))))))))))))))))
  · dsimp only
    rw [wid (255 * sumL D) (by omega) (by omega), wid (255 * sumL D + L) (by omega) (by omega)]
    exact d3
  · dsimp only
    rw [e0, e0, e0, wid (255 * D.getD 0 0) (by omega) (by omega), wid (p.getD 0 0 - 255 * D.getD 0 0) (by omega) (by omega), d4, beq_self_eq_true]
    exact Ev.now _
end Go.Proofs.Ytndnklicfibkeaa.Q
