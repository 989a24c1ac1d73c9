/- The law FnShares: the shares of an error add up to it, and each is its part of the error in wholes; for the inputs that the law draws. -/
import Derived.Laws.BitsLemmas
import Derived.Test.YtbgbbfdmgpcgmaaFimplIsKernel
import Derived.Test.YtbgbbfdmgpcgmaaFimplSharesOf
import Derived.Test.YtbgbbfdmgpcgmaaFimplWeightOf
import Derived.Test.YtbgbbfdmgpcgmaaFimpldown
import Derived.Test.YtbgbbfdmgpcgmaaFimplmod
import Derived.Test.YtbgbbfdmgpcgmaaFimplshares
import Derived.Test.YtbgbbfdmgpcgmaaFimplweight
import Derived.Test.YtbgbbfdmgpcgmaaFlawsFnShares
import Derived.Test.YtbgbbfdmgpcgmaaFlawsat
import Derived.Test.YtbgbbfdmgpcgmaaFlawstotal
import Derived.Test.YtbgbbfdmgpcgmaaFspecIsKernel
import Derived.Test.YtbgbbfdmgpcgmaaFspecMakeKernel
import Derived.Test.YtbgbbfdmgpcgmaaFspecl01Below
import Derived.Test.YtbgbbfdmgpcgmaaFspecl01Byte
import Derived.Test.YtbgbbfdmgpcgmaaFspecl01New
import Derived.Test.YtbgbbfdmgpcgmaaFspecl1In
import Derived.Test.YtbgbbfdmgpcgmaaFspecl4Draw
import Derived.Test.YtbgbbfdmgpcgmaaP0
namespace Go.Proofs.Ytbgbbfdmgpcgmaa.Q
open Go.RowKit Go.Proofs.Ytbgbbfdmgpcgmaa.P Go.Proofs.YtbgbbfdmgpcgmaaW.PrintWords
set_option linter.unusedVariables false
set_option linter.unusedSimpArgs false
theorem wsucc (i : Nat) (h : i < 9223372036854775807) : wrap64 ((i : Int) + 1) = ((i + 1 : Nat) : Int) := by unfold wrap64; omega
theorem wid (x : Int) (h0 : -9223372036854775808 ≤ x) (h1 : x ≤ 9223372036854775807) : wrap64 x = x := by unfold wrap64; omega
theorem rd_nat (l : List Int) (i : Nat) : rd l (i : Int) = l.getD i 0 := by unfold rd; rw [Int.toNat_natCast]
theorem getD_of_lt {α : Type} (l : List α) (d : α) (i : Nat) (h : i < l.length) : l.getD i d = l[i] := by simp [List.getD_eq_getElem?_getD, List.getElem?_eq_getElem h]
theorem getD_mem (l : List Int) (i : Nat) (h : i < l.length) : l.getD i 0 ∈ l := by rw [getD_of_lt l 0 i h]; exact List.getElem_mem h
theorem getD_set (l : List Int) (i j : Nat) (x : Int) (hi : i < l.length) : (l.set i x).getD j 0 = if j = i then x else l.getD j 0 := by
  simp only [List.getD_eq_getElem?_getD, List.getElem?_set]
  by_cases h : i = j
  · subst h; simp [hi]
  · rw [if_neg h, if_neg (fun e => h e.symm)]
/-! Sums. -/
def sumTo (l : List Int) (i : Nat) : Int := (l.take i).foldl (· + ·) 0
theorem foldl_add (l : List Int) (a : Int) : l.foldl (· + ·) a = a + l.foldl (· + ·) 0 := by
  induction l generalizing a with
  | nil => simp
  | cons x r ih => simp only [List.foldl_cons]; rw [ih (a + x), ih (0 + x)]; omega
def sumL (l : List Int) : Int := l.foldl (· + ·) 0
theorem sumL_append (a b : List Int) : sumL (a ++ b) = sumL a + sumL b := by unfold sumL; rw [List.foldl_append, foldl_add]
theorem sumL_one (x : Int) : sumL [x] = x := by simp [sumL]
theorem sumL_cons (x : Int) (l : List Int) : sumL (x :: l) = x + sumL l := by rw [show x :: l = [x] ++ l from rfl, sumL_append, sumL_one]
theorem sumTo_succ (l : List Int) (i : Nat) (h : i < l.length) : sumTo l (i + 1) = sumTo l i + l.getD i 0 := by
  unfold sumTo
  rw [List.take_succ_eq_append_getElem h, List.foldl_append, getD_of_lt l 0 i h]
  simp
theorem sumTo_zero (l : List Int) : sumTo l 0 = 0 := by simp [sumTo]
theorem sumTo_all (l : List Int) : sumTo l l.length = sumL l := by simp [sumTo, sumL]
theorem sumTo_bd (l : List Int) (lo hi : Int) (h0 : lo ≤ 0) (h1 : 0 ≤ hi) (h : ∀ x ∈ l, lo ≤ x ∧ x ≤ hi) (i : Nat) (hi' : i ≤ l.length) : lo * i ≤ sumTo l i ∧ sumTo l i ≤ hi * i := by
  induction i with
  | zero => simp [sumTo_zero]
  | succ i ih =>
    have ih := ih (by omega)
    have hm := h _ (getD_mem l i (by omega))
    rw [sumTo_succ l i (by omega)]
    push_cast
    rw [Int.mul_add, Int.mul_add]
    omega
theorem Ev_pos {α : Type} {c : Prop} [Decidable c] {f g : Nat → Option α} {r : α} (hc : c) (h : Ev f r) : Ev (fun k => if c then f k else g k) r := Ev.congr (fun k => if_pos hc) h
theorem Ev_neg {α : Type} {c : Prop} [Decidable c] {f g : Nat → Option α} {r : α} (hc : ¬ c) (h : Ev g r) : Ev (fun k => if c then f k else g k) r := Ev.congr (fun k => if_neg hc) h
/-! The reference's pictures. -/
theorem l1In_eq (x a b : Int) : spec_l1In.f x a b = some (decide (a ≤ x ∧ x ≤ b)) := by
  unfold spec_l1In.f
  by_cases h : x ≥ a
  · rw [if_pos h]
    congr 1
    rw [decide_eq_decide]
    omega
  · rw [if_neg h, decide_eq_false (by omega)]
theorem sumL_bd (l : List Int) (lo hi : Int) (h0 : lo ≤ 0) (h1 : 0 ≤ hi) (h : ∀ x ∈ l, lo ≤ x ∧ x ≤ hi) : lo * l.length ≤ sumL l ∧ sumL l ≤ hi * l.length := by
  rw [← sumTo_all]
  exact sumTo_bd l lo hi h0 h1 h l.length (Nat.le_refl _)
theorem rdP_nat (l : List S47) (i : Nat) (h : i < l.length) : rd_T47 l (i : Int) = l[i] := by
  unfold rd_T47
  rw [Int.toNat_natCast, getD_of_lt l _ i h]
/-! Is it a kernel? -/
def okPart (p : S47) : Bool := decide (-4 ≤ p.f0 ∧ p.f0 ≤ 4 ∧ 0 ≤ p.f1 ∧ p.f1 ≤ 4 ∧ ¬ (p.f1 = 0 ∧ p.f0 < 1) ∧ 1 ≤ p.f2 ∧ p.f2 ≤ 100)
def clashFrom (y : List S47) (a b : Int) (j d : Nat) : Bool := (List.range' j d).any fun m => decide (a = (rd_T47 y (m : Int)).f0 ∧ b = (rd_T47 y (m : Int)).f1)
def kernAt (l : List S47) (i : Nat) : Bool := okPart (rd_T47 l (i : Int)) && !clashFrom (l.take i) (rd_T47 l (i : Int)).f0 (rd_T47 l (i : Int)).f1 0 (l.take i).length
def kernFrom (l : List S47) (i d : Nat) : Bool := (List.range' i d).all (kernAt l)
def kernB (l : List S47) : Bool := decide (1 ≤ l.length ∧ l.length ≤ 12) && kernFrom l 0 l.length
theorem spec_inner (x0 x11 : List S47) (x12 x13 a b c : Int) (y : List S47) (hy : y.length < 1000) (r : Bool) (d : Nat) : ∀ j : Nat, j + d = y.length →
    (clashFrom y a b j d = true → r = false) → (clashFrom y a b j d = false → Ev (fun k => spec_IsKernel.l0 k x0 x11 x12 (wrap64 (x13 + 1))) r) →
    Ev (fun k => spec_IsKernel.l1 k x0 x11 x12 x13 y (y.length : Int) (j : Int) a b c) r := by
  induction d with
  | zero =>
    intro j hj _ h2
    exact Ev.step (fun k => by simp only [spec_IsKernel.l1]; rw [if_neg (by omega)]) (h2 rfl)
  | succ d ih =>
    intro j hj h1 h2
    unfold clashFrom at h1 h2
    rw [List.range'_succ, List.any_cons] at h1 h2
    by_cases ha : a = (rd_T47 y (j : Int)).f0
    · by_cases hb : b = (rd_T47 y (j : Int)).f1
      · rw [h1 (by rw [decide_eq_true ⟨ha, hb⟩]; rfl)]
        exact Ev.step (f := fun _ => some false) (fun k => by simp only [spec_IsKernel.l1]; rw [if_pos (by omega), if_pos (by omega), if_pos (by omega), if_pos ha, if_pos hb]) (Ev.now _)
      · rw [decide_eq_false (fun h => hb h.2), Bool.false_or] at h1 h2
        refine Ev.step (fun k => by simp only [spec_IsKernel.l1]; rw [if_pos (by omega), if_pos (by omega), if_pos (by omega), if_pos ha, if_neg hb, wsucc j (by omega)]) (ih (j + 1) (by omega) h1 h2)
    · rw [decide_eq_false (fun h => ha h.1), Bool.false_or] at h1 h2
      refine Ev.step (fun k => by simp only [spec_IsKernel.l1]; rw [if_pos (by omega), if_pos (by omega), if_pos (by omega), if_neg ha, wsucc j (by omega)]) (ih (j + 1) (by omega) h1 h2)
theorem spec_outer (l : List S47) (hl : l.length < 1000) (d : Nat) : ∀ i : Nat, i + d = l.length → Ev (fun k => spec_IsKernel.l0 k l l (l.length : Int) (i : Int)) (kernFrom l i d) := by
  induction d with
  | zero =>
    intro i hi
    exact Ev.step (f := fun _ => some true) (fun k => by simp only [spec_IsKernel.l0]; rw [if_neg (by omega)]) (Ev.now _)
  | succ d ih =>
    intro i hi
    have hk : kernFrom l i (d + 1) = (kernAt l i && kernFrom l (i + 1) d) := by unfold kernFrom; rw [List.range'_succ, List.all_cons]
    have hj : ∀ a b c : Int, a = (rd_T47 l (i : Int)).f0 → b = (rd_T47 l (i : Int)).f1 → okPart (rd_T47 l (i : Int)) = true → Ev (fun k => spec_IsKernel.j1 k l (i : Int) l (l.length : Int) (i : Int) false a b c) (kernFrom l i (d + 1)) := by
      intro a b c ha hb ho
      subst ha
      subst hb
      have ht : (l.take i).length = i := by rw [List.length_take]; omega
      refine Ev.step (fun k => by simp only [spec_IsKernel.j1]; rw [if_neg (by simp), if_pos (by omega), if_pos (by omega), Option.bind_some, Int.toNat_natCast]) ?_
      refine spec_inner l l _ _ _ _ c (l.take i) (by omega) _ (l.take i).length 0 (by omega) (fun h => ?_) (fun h => ?_)
      · rw [hk]; unfold kernAt; rw [h, ho]; rfl
      · rw [hk, wsucc i (by omega)]; unfold kernAt; rw [h, ho]; simp only [Bool.not_false, Bool.and_true, Bool.true_and]
        exact ih (i + 1) (by omega)
    have hbad : ∀ a b c : Int, okPart (rd_T47 l (i : Int)) = false → Ev (fun k => spec_IsKernel.j1 k l (i : Int) l (l.length : Int) (i : Int) true a b c) (kernFrom l i (d + 1)) := by
      intro a b c ho
      have : kernFrom l i (d + 1) = false := by rw [hk]; unfold kernAt; rw [ho]; rfl
      rw [this]
      exact Ev.step (f := fun _ => some false) (fun k => by simp only [spec_IsKernel.j1]; rw [if_pos trivial]) (Ev.now _)
    have hj := hj _ _ (rd_T47 l (i : Int)).f2 rfl rfl
    have hbad := hbad (rd_T47 l (i : Int)).f0 (rd_T47 l (i : Int)).f1 (rd_T47 l (i : Int)).f2
    refine Ev.step (fun k => by rw [spec_IsKernel.l0]) ?_
    refine Ev_pos (by omega) (Ev_pos (by omega) (Ev_pos (by omega) ?_))
    generalize rd_T47 l (i : Int) = p at hj hbad ⊢
    simp only [l1In_eq, Option.bind_some]
    by_cases c1 : -4 ≤ p.f0 ∧ p.f0 ≤ 4
    · refine Ev_pos (decide_eq_true c1) ?_
      by_cases c2 : 0 ≤ p.f1 ∧ p.f1 ≤ 4
      · refine Ev_pos (decide_eq_true c2) ?_
        have fin : ¬ (p.f1 = 0 ∧ p.f0 < 1) → Ev (fun k => spec_IsKernel.j1 k l (i : Int) l (l.length : Int) (i : Int) (!decide (1 ≤ p.f2 ∧ p.f2 ≤ 100)) p.f0 p.f1 p.f2) (kernFrom l i (d + 1)) := by
          intro c5
          by_cases c6 : 1 ≤ p.f2 ∧ p.f2 ≤ 100
          · rw [decide_eq_true c6]
            exact hj (decide_eq_true ⟨c1.1, c1.2, c2.1, c2.2, c5, c6.1, c6.2⟩)
          · rw [decide_eq_false c6]
            exact hbad (decide_eq_false (fun h => c6 ⟨h.2.2.2.2.2.1, h.2.2.2.2.2.2⟩))
        by_cases c3 : p.f1 = 0
        · refine Ev_pos c3 ?_
          by_cases c4 : p.f0 < 1
          · exact Ev_pos c4 (hbad (decide_eq_false (fun h => h.2.2.2.2.1 ⟨c3, c4⟩)))
          · exact Ev_neg c4 (fin (fun h => c4 h.2))
        · exact Ev_neg c3 (fin (fun h => c3 h.1))
      · exact Ev_neg (by rw [decide_eq_false c2]; simp) (hbad (decide_eq_false (fun h => c2 ⟨h.2.2.1, h.2.2.2.1⟩)))
    · exact Ev_neg (by rw [decide_eq_false c1]; simp) (hbad (decide_eq_false (fun h => c1 ⟨h.1, h.2.1⟩)))
theorem impl_inner (x0 x11 : List S47) (x12 x13 a b c : Int) (y : List S47) (hy : y.length < 1000) (r : Bool) (d : Nat) : ∀ j : Nat, j + d = y.length →
    (clashFrom y a b j d = true → r = false) → (clashFrom y a b j d = false → Ev (fun k => impl_IsKernel.l0 k x0 x11 x12 (wrap64 (x13 + 1))) r) →
    Ev (fun k => impl_IsKernel.l1 k x0 x11 x12 x13 y (y.length : Int) (j : Int) a b c) r := by
  induction d with
  | zero =>
    intro j hj _ h2
    exact Ev.step (fun k => by simp only [impl_IsKernel.l1]; rw [if_neg (by omega)]) (h2 rfl)
  | succ d ih =>
    intro j hj h1 h2
    unfold clashFrom at h1 h2
    rw [List.range'_succ, List.any_cons] at h1 h2
    by_cases ha : a = (rd_T47 y (j : Int)).f0
    · by_cases hb : b = (rd_T47 y (j : Int)).f1
      · rw [h1 (by rw [decide_eq_true ⟨ha, hb⟩]; rfl)]
        exact Ev.step (f := fun _ => some false) (fun k => by simp only [impl_IsKernel.l1]; rw [if_pos (by omega), if_pos (by omega), if_pos (by omega), if_pos ha, if_pos hb]) (Ev.now _)
      · rw [decide_eq_false (fun h => hb h.2), Bool.false_or] at h1 h2
        refine Ev.step (fun k => by simp only [impl_IsKernel.l1]; rw [if_pos (by omega), if_pos (by omega), if_pos (by omega), if_pos ha, if_neg hb, wsucc j (by omega)]) (ih (j + 1) (by omega) h1 h2)
    · rw [decide_eq_false (fun h => ha h.1), Bool.false_or] at h1 h2
      refine Ev.step (fun k => by simp only [impl_IsKernel.l1]; rw [if_pos (by omega), if_pos (by omega), if_pos (by omega), if_neg ha, wsucc j (by omega)]) (ih (j + 1) (by omega) h1 h2)
theorem impl_outer (l : List S47) (hl : l.length < 1000) (d : Nat) : ∀ i : Nat, i + d = l.length → Ev (fun k => impl_IsKernel.l0 k l l (l.length : Int) (i : Int)) (kernFrom l i d) := by
  induction d with
  | zero =>
    intro i hi
    exact Ev.step (f := fun _ => some true) (fun k => by simp only [impl_IsKernel.l0]; rw [if_neg (by omega)]) (Ev.now _)
  | succ d ih =>
    intro i hi
    have hk : kernFrom l i (d + 1) = (kernAt l i && kernFrom l (i + 1) d) := by unfold kernFrom; rw [List.range'_succ, List.all_cons]
    have hj : ∀ a b c : Int, a = (rd_T47 l (i : Int)).f0 → b = (rd_T47 l (i : Int)).f1 → okPart (rd_T47 l (i : Int)) = true → Ev (fun k => impl_IsKernel.j2 k l (i : Int) l (l.length : Int) (i : Int) false a b c) (kernFrom l i (d + 1)) := by
      intro a b c ha hb ho
      subst ha
      subst hb
      have ht : (l.take i).length = i := by rw [List.length_take]; omega
      refine Ev.step (fun k => by simp only [impl_IsKernel.j2]; rw [if_neg (by simp), if_pos (by omega), if_pos (by omega), Option.bind_some, Int.toNat_natCast]) ?_
      refine impl_inner l l _ _ _ _ c (l.take i) (by omega) _ (l.take i).length 0 (by omega) (fun h => ?_) (fun h => ?_)
      · rw [hk]; unfold kernAt; rw [h, ho]; rfl
      · rw [hk, wsucc i (by omega)]; unfold kernAt; rw [h, ho]; simp only [Bool.not_false, Bool.and_true, Bool.true_and]
        exact ih (i + 1) (by omega)
    have hbad : ∀ a b c : Int, okPart (rd_T47 l (i : Int)) = false → Ev (fun k => impl_IsKernel.j2 k l (i : Int) l (l.length : Int) (i : Int) true a b c) (kernFrom l i (d + 1)) := by
      intro a b c ho
      have : kernFrom l i (d + 1) = false := by rw [hk]; unfold kernAt; rw [ho]; rfl
      rw [this]
      exact Ev.step (f := fun _ => some false) (fun k => by simp only [impl_IsKernel.j2]; rw [if_pos trivial]) (Ev.now _)
    have hj := hj _ _ (rd_T47 l (i : Int)).f2 rfl rfl
    have hbad := hbad (rd_T47 l (i : Int)).f0 (rd_T47 l (i : Int)).f1 (rd_T47 l (i : Int)).f2
    refine Ev.step (fun k => by rw [impl_IsKernel.l0]) ?_
    refine Ev_pos (by omega) (Ev_pos (by omega) (Ev_pos (by omega) ?_))
    generalize rd_T47 l (i : Int) = p at hj hbad ⊢
    have bad : ¬ (-4 ≤ p.f0 ∧ p.f0 ≤ 4 ∧ 0 ≤ p.f1 ∧ p.f1 ≤ 4 ∧ ¬ (p.f1 = 0 ∧ p.f0 < 1) ∧ 1 ≤ p.f2 ∧ p.f2 ≤ 100) → Ev (fun k => impl_IsKernel.j2 k l (i : Int) l (l.length : Int) (i : Int) true p.f0 p.f1 p.f2) (kernFrom l i (d + 1)) := fun h => hbad (decide_eq_false h)
    by_cases c1 : p.f0 < -4
    · exact Ev_pos c1 (bad (by omega))
    refine Ev_neg c1 ?_
    by_cases c2 : p.f0 > 4
    · exact Ev_pos c2 (bad (by omega))
    refine Ev_neg c2 ?_
    by_cases c3 : p.f1 < 0
    · exact Ev_pos c3 (bad (by omega))
    refine Ev_neg c3 ?_
    by_cases c4 : p.f1 > 4
    · exact Ev_pos c4 (bad (by omega))
    refine Ev_neg c4 ?_
    have fin : ¬ (p.f1 = 0 ∧ p.f0 < 1) → Ev (fun k => if p.f2 < 1 then (impl_IsKernel.j2 k l (i : Int) l (l.length : Int) (i : Int) true p.f0 p.f1 p.f2) else (impl_IsKernel.j2 k l (i : Int) l (l.length : Int) (i : Int) (decide (p.f2 > 100)) p.f0 p.f1 p.f2)) (kernFrom l i (d + 1)) := by
      intro c5
      by_cases c6 : p.f2 < 1
      · exact Ev_pos c6 (bad (by omega))
      refine Ev_neg c6 ?_
      by_cases c7 : p.f2 > 100
      · rw [decide_eq_true c7]
        exact bad (by omega)
      · rw [decide_eq_false c7]
        exact hj (decide_eq_true (by omega))
    by_cases c5 : p.f1 = 0
    · refine Ev_pos c5 ?_
      by_cases c6 : p.f0 < 1
      · exact Ev_pos c6 (bad (by omega))
      · exact Ev_neg c6 (fin (by omega))
    · exact Ev_neg c5 (fin (by omega))
theorem specIsKernel_ev (l : List S47) (hl : l.length ≤ 1048576) : Ev (fun k => spec_IsKernel.f k l) (kernB l) := by
  unfold spec_IsKernel.f kernB
  rw [l1In_eq]
  simp only [Option.bind_some]
  by_cases h : 1 ≤ l.length ∧ l.length ≤ 12
  · rw [decide_eq_true h, Bool.true_and]
    exact Ev_pos (decide_eq_true (by omega)) (spec_outer l (by omega) l.length 0 (by omega))
  · rw [decide_eq_false h, Bool.false_and]
    exact Ev_neg (by rw [decide_eq_false (by omega)]; simp) (Ev.now _)
theorem implIsKernel_ev (l : List S47) (hl : l.length ≤ 1048576) : Ev (fun k => impl_IsKernel.f k l) (kernB l) := by
  unfold impl_IsKernel.f kernB
  have bad : ¬ (1 ≤ l.length ∧ l.length ≤ 12) → Ev (fun k => impl_IsKernel.j0 k l true) (decide (1 ≤ l.length ∧ l.length ≤ 12) && kernFrom l 0 l.length) := by
    intro h
    rw [decide_eq_false h, Bool.false_and]
    refine Ev.step (f := fun _ => some false) (fun k => ?_) (Ev.now _)
    simp only [impl_IsKernel.j0, if_true]
  by_cases c1 : (l.length : Int) < 1
  · exact Ev_pos c1 (bad (by omega))
  refine Ev_neg c1 ?_
  by_cases c2 : (l.length : Int) > 12
  · rw [decide_eq_true c2]
    exact bad (by omega)
  · rw [decide_eq_false c2, decide_eq_true (by omega), Bool.true_and]
    refine Ev.step (fun k => ?_) (impl_outer l (by omega) l.length 0 (by omega))
    simp only [impl_IsKernel.j0]
    rw [if_neg (by simp)]
    rfl
theorem kern_len {l : List S47} (h : kernB l = true) : 1 ≤ l.length ∧ l.length ≤ 12 := by
  unfold kernB at h
  rw [Bool.and_eq_true] at h
  exact of_decide_eq_true h.1
theorem kern_ok {l : List S47} (h : kernB l = true) (i : Nat) (hi : i < l.length) : okPart (rd_T47 l (i : Int)) = true := by
  unfold kernB kernFrom at h
  rw [Bool.and_eq_true, List.all_eq_true] at h
  have := h.2 i (by rw [List.mem_range']; exact ⟨i, by omega, by omega⟩)
  unfold kernAt at this
  rw [Bool.and_eq_true] at this
  exact this.1
def wtTo (l : List S47) (i : Nat) : Int := sumL ((l.take i).map (·.f2))
theorem wtTo_succ (l : List S47) (i : Nat) (h : i < l.length) : wtTo l (i + 1) = wtTo l i + (rd_T47 l (i : Int)).f2 := by
  unfold wtTo
  rw [List.take_succ_eq_append_getElem h, List.map_append, sumL_append, List.map_cons, List.map_nil, sumL_one, rdP_nat l i h]
theorem wtTo_bd {l : List S47} (h : kernB l = true) (i : Nat) (hi : i ≤ l.length) : (i : Int) ≤ wtTo l i ∧ wtTo l i ≤ 100 * (i : Int) := by
  induction i with
  | zero => simp [wtTo, sumL]
  | succ i ih =>
    have := ih (by omega)
    obtain ⟨_, _, _, _, _, q1, q2⟩ := of_decide_eq_true (kern_ok h i (by omega))
    rw [wtTo_succ l i (by omega)]
    omega
theorem impl_weight_ev (l : List S47) (h : kernB l = true) : Ev (fun k => impl_weight.l0 k 0 l (l.length : Int) 0) (wtTo l l.length) := by
  have hk := kern_len h
  have key : ∀ d i : Nat, i + d = l.length → Ev (fun k => impl_weight.l0 k (wtTo l i) l (l.length : Int) (i : Int)) (wtTo l l.length) := by
    intro d
    induction d with
    | zero =>
      intro i hi
      obtain rfl : i = l.length := by omega
      refine Ev.step (f := fun _ => some (wtTo l l.length)) (fun k => ?_) (Ev.now _)
      simp only [impl_weight.l0]
      rw [if_neg (by omega)]
    | succ d ih =>
      intro i hi
      have hb := wtTo_bd h (i + 1) (by omega)
      have hs := wtTo_succ l i (by omega)
      refine Ev.step (fun k => ?_) (ih (i + 1) (by omega))
      simp only [impl_weight.l0]
      rw [if_pos (by omega), if_pos (by omega), if_pos (by omega), ← hs, wid (wtTo l (i + 1)) (by omega) (by omega), wsucc i (by omega)]
  have := key l.length 0 (by omega)
  exact this
theorem implWeight_ev (l : List S47) (hl : l.length ≤ 1048576) : Ev (fun k => impl_WeightOf.f k l) (if kernB l = true then wtTo l l.length else 0) := by
  unfold impl_WeightOf.f
  refine Ev.bind (implIsKernel_ev l hl) ?_
  by_cases h : kernB l = true
  · rw [if_pos h]
    refine Ev_pos h ?_
    unfold impl_weight.f
    exact Ev.bind (impl_weight_ev l h) (Ev.now _)
  · rw [if_neg h]
    exact Ev_neg h (Ev.now _)
/-! The drawing of inputs. -/
theorem and255 (n : Int) : Go.bits .and .i64 n 255 = n % 256 := by
  have h127 : (BitVec.ofInt 64 255).toNat = 2 ^ 8 - 1 := by decide
  have key : (BitVec.ofInt 64 n &&& BitVec.ofInt 64 255).toNat = (n % ((2 ^ 64 : Nat) : Int)).toNat % 2 ^ 8 := by
    rw [BitVec.toNat_and, BitVec.toNat_ofInt, h127, Nat.and_two_pow_sub_one_eq_mod]
  show IntKind.i64.wrap ((BitVec.ofInt 64 n &&& BitVec.ofInt 64 255).toNat : Nat) = n % 256
  rw [key, IntKind.wrap_i64]
  omega
theorem byte_ok (s : List Int) (a b : Int) (ha : 0 ≤ a) (hl : s.length ≤ maxLen) : ∃ v a2 b2 : Int, spec_l01Byte.f s a b = some (v, a2, b2) ∧ 0 ≤ v ∧ v ≤ 255 ∧ 0 ≤ a2 := by
  unfold maxLen at hl
  unfold spec_l01Byte.f
  simp only [and255]
  by_cases h : a < (s.length : Int)
  · rw [if_pos h, if_pos ha, wid (a + 1) (by omega) (by omega)]
    exact ⟨_, _, _, rfl, by omega, by omega, by omega⟩
  · rw [if_neg h]
    exact ⟨_, _, _, rfl, by omega, by omega, by omega⟩
theorem below_ok (s : List Int) (a b n : Int) (ha : 0 ≤ a) (hl : s.length ≤ maxLen) (h1 : 1 ≤ n) (h2 : n ≤ 256) : ∃ v a2 b2 : Int, spec_l01Below.f s a b n = some (v, a2, b2) ∧ 0 ≤ v ∧ v < n ∧ 0 ≤ a2 := by
  obtain ⟨v, a2, b2, e, h3, h4, h5⟩ := byte_ok s a b ha hl
  unfold spec_l01Below.f
  rw [if_neg (by omega), if_pos h2, e, Option.bind_some, if_neg (by omega)]
  exact ⟨_, _, _, rfl, Int.tmod_nonneg _ h3, Int.tmod_lt_of_pos _ (by omega), h5⟩
theorem new_ok (s : List Int) (hl : s.length ≤ maxLen) : ∃ b : Int, Ev (fun k => spec_l01New.f k s) (s, 0, b) := by
  unfold maxLen at hl
  have key : ∀ (d i : Nat) (x : Int), i + d = s.length → ∃ b : Int, Ev (fun k => spec_l01New.l0 k s x (i : Int)) (s, 0, b) := by
    intro d
    induction d with
    | zero =>
      intro i x hi
      refine ⟨x, Ev.step (fun k => by rw [spec_l01New.l0]) ?_⟩
      exact Ev_neg (by omega) (Ev.now _)
    | succ d ih =>
      intro i x hi
      by_cases h : (i : Int) < 4000
      · obtain ⟨b, hb⟩ := ih (i + 1) (Go.bits .and .i64 (wrap64 ((wrap64 ((wrap64 (x * 1103)) + (wrap64 (rd s (i : Int))))) + 7)) 1073741823) (by omega)
        refine ⟨b, Ev.step (fun k => ?_) hb⟩
        simp only [spec_l01New.l0]
        rw [if_pos (by omega), if_pos h, if_pos (by omega), wsucc i (by omega)]
      · refine ⟨x, Ev.step (fun k => by rw [spec_l01New.l0]) ?_⟩
        exact Ev_pos (by omega) (Ev_neg h (Ev.now _))
  exact key s.length 0 _ (by omega)
/-! The laws' own reckoning. -/
theorem total_ev (l : List Int) (hl : l.length ≤ 1048576) (hx : ∀ x ∈ l, -2000000 ≤ x ∧ x ≤ 2000000) : Ev (fun k => laws_total.f k l) (sumL l) := by
  have key : ∀ d i : Nat, i + d = l.length → Ev (fun k => laws_total.l0 k (sumTo l i) l (l.length : Int) (i : Int)) (sumL l) := by
    intro d
    induction d with
    | zero =>
      intro i hi
      obtain rfl : i = l.length := by omega
      refine Ev.step (f := fun _ => some (sumL l)) (fun k => ?_) (Ev.now _)
      simp only [laws_total.l0]
      rw [if_neg (by omega), sumTo_all]
    | succ d ih =>
      intro i hi
      have hb := sumTo_bd l (-2000000) 2000000 (by omega) (by omega) hx (i + 1) (by omega)
      have hs := sumTo_succ l i (by omega)
      refine Ev.step (fun k => ?_) (ih (i + 1) (by omega))
      simp only [laws_total.l0]
      rw [if_pos (by omega), if_pos (by omega), if_pos (by omega), rd_nat, ← hs, wid (sumTo l (i + 1)) (by omega) (by omega), wsucc i (by omega)]
  have := key l.length 0 (by omega)
  rw [sumTo_zero] at this
  exact this
theorem at_ok (s : List Int) (n : Int) (hl : s.length ≤ 1048576) (h0 : 0 ≤ n) (h1 : n ≤ 100) (hx : ∀ x ∈ s, 0 ≤ x ∧ x ≤ 255) : ∃ v : Int, laws_at.f s n = some v ∧ 0 ≤ v ∧ v ≤ 255 := by
  unfold laws_at.f
  by_cases h : n < (s.length : Int)
  · rw [if_pos h, if_pos h0]
    obtain ⟨m, rfl⟩ : ∃ m : Nat, n = (m : Int) := ⟨n.toNat, by omega⟩
    rw [rd_nat]
    have := hx _ (getD_mem s m (by omega))
    rw [wid _ (by omega) (by omega)]
    exact ⟨_, rfl, this.1, this.2⟩
  · rw [if_neg h, wid (n * 37) (by omega) (by omega), wid ((s.length : Int) * 11) (by omega) (by omega), wid _ (by omega) (by omega)]
    refine ⟨_, rfl, Int.tmod_nonneg _ (by omega), ?_⟩
    have := Int.tmod_lt_of_pos (n * 37 + (s.length : Int) * 11) (b := 256) (by omega)
    omega
theorem u8_bd {l : List Int} (h : ∀ x ∈ l, (Lit.int .u8 x).wf = true) : ∀ x ∈ l, 0 ≤ x ∧ x ≤ 255 := by
  intro x hx
  have := h x hx
  simp [Lit.wf] at this
  have e1 : IntKind.u8.min = 0 := rfl
  have e2 : IntKind.u8.max = 255 := rfl
  omega
theorem sum_set (g : Int → Int) (L : List Int) (p : Nat) (v : Int) (hp : p < L.length) : sumL ((L.set p v).map g) = sumL (L.map g) - g (L.getD p 0) + g v := by
  induction L generalizing p with
  | nil => exact absurd hp (by simp)
  | cons a r ih =>
    cases p with
    | zero =>
      rw [List.set_cons_zero, List.map_cons, List.map_cons, sumL_cons, sumL_cons]
      show g v + _ = g a + _ - g a + g v
      omega
    | succ p =>
      rw [List.set_cons_succ, List.map_cons, List.map_cons, sumL_cons, sumL_cons, ih p (by simpa using hp)]
      show g a + (_ - g (r.getD p 0) + g v) = _
      rw [List.getD_cons_succ]
      omega
/-! Kernels that are drawn, and the shares of an error. -/
theorem kern_one (b : Int) (h0 : 0 ≤ b) (h1 : b < 9) : kernB [(⟨0, 1, 1 + b⟩ : S47)] = true := by
  unfold kernB kernFrom
  rw [Bool.and_eq_true, List.all_eq_true]
  refine ⟨decide_eq_true ⟨by simp, by simp⟩, fun i hi => ?_⟩
  obtain rfl : i = 0 := by
    have := (List.mem_range'.1 hi)
    obtain ⟨j, hj, rfl⟩ := this
    simp at hj
    omega
  unfold kernAt
  rw [Bool.and_eq_true]
  refine ⟨decide_eq_true ?_, rfl⟩
  show -4 ≤ (0 : Int) ∧ (0 : Int) ≤ 4 ∧ 0 ≤ (1 : Int) ∧ (1 : Int) ≤ 4 ∧ ¬ ((1 : Int) = 0 ∧ (0 : Int) < 1) ∧ 1 ≤ 1 + b ∧ 1 + b ≤ 100
  omega
theorem MakeKernel_ok (s : List Int) (hl : s.length ≤ maxLen) : ∃ K : List S47, kernB K = true ∧ Ev (fun k => spec_MakeKernel.f k s) K := by
  obtain ⟨b, hb⟩ := new_ok s hl
  suffices h : ∃ (K : List S47) (a2 b2 : Int), kernB K = true ∧ Ev (fun k => spec_l4Draw.f k s 0 b) (K, a2, b2) by
    obtain ⟨K, a2, b2, h1, h2⟩ := h
    refine ⟨K, h1, ?_⟩
    unfold spec_MakeKernel.f
    exact Ev.bind hb (Ev.bind h2 (Ev.now _))
  obtain ⟨q, a2, b2, e1, q0, q1, ha2⟩ := below_ok s 0 b 4 (by omega) hl (by omega) (by omega)
  unfold spec_l4Draw.f
  simp only [e1, Option.bind_some]
  by_cases c0 : q = 0
  · exact ⟨_, _, _, by decide, Ev_pos c0 (Ev.now _)⟩
  by_cases c1 : q = 1
  · exact ⟨_, _, _, by decide, Ev_neg c0 (Ev_pos c1 (Ev.now _))⟩
  by_cases c2 : q = 2
  · exact ⟨_, _, _, by decide, Ev_neg c0 (Ev_neg c1 (Ev_pos c2 (Ev.now _)))⟩
  obtain ⟨v, a3, b3, e2, v0, v1, ha3⟩ := below_ok s a2 b2 9 ha2 hl (by omega) (by omega)
  obtain ⟨n, a4, b4, e3, n0, n1, ha4⟩ := below_ok s a3 b3 4 ha3 hl (by omega) (by omega)
  have key : ∀ (d : Nat) (n : Int) (K : List S47) (a b : Int), n ≤ d → 0 ≤ n ∧ n ≤ 100 → kernB K = true → 0 ≤ a → ∃ (K2 : List S47) (a2 b2 : Int), kernB K2 = true ∧ Ev (fun k => spec_l4Draw.l0 k K n s a b) (K2, a2, b2) := by
    intro d
    induction d with
    | zero =>
      intro n K a b hn _ hK ha
      exact ⟨K, a, b, hK, Ev.step (fun k => by rw [spec_l4Draw.l0]) (Ev_neg (by omega) (Ev.now _))⟩
    | succ d ih =>
      intro n K a b hn hn0 hK ha
      by_cases c : n > 0
      · obtain ⟨x, a2, b2, e1, x0, x1, ha2⟩ := below_ok s a b 9 ha hl (by omega) (by omega)
        obtain ⟨y, a3, b3, e2, y0, y1, ha3⟩ := below_ok s a2 b2 5 ha2 hl (by omega) (by omega)
        obtain ⟨z, a4, b4, e3, z0, z1, ha4⟩ := below_ok s a3 b3 30 ha3 hl (by omega) (by omega)
        have hk := kern_len hK
        have start : ∀ r : (List S47) × Int × Int, Ev (fun k => (spec_IsKernel.f k (K ++ [⟨wrap64 (x - 4), y, wrap64 (1 + z)⟩])).bind fun t => (if t = true then (spec_l4Draw.l0 k (K ++ [⟨wrap64 (x - 4), y, wrap64 (1 + z)⟩]) (wrap64 (n - 1)) s a4 b4) else (spec_l4Draw.l0 k K (wrap64 (n - 1)) s a4 b4))) r → Ev (fun k => spec_l4Draw.l0 k K n s a b) r := by
          intro r h
          refine Ev.step (fun k => by rw [spec_l4Draw.l0]) (Ev_pos c ?_)
          simp only [e1, e2, e3, Option.bind_some, List.nil_append]
          refine Ev_pos (by simp; omega) (Ev_pos (by simp; omega) h)
        rw [wid (n - 1) (by omega) (by omega)] at start
        have he := specIsKernel_ev (K ++ [⟨wrap64 (x - 4), y, wrap64 (1 + z)⟩]) (by rw [List.length_append]; simp; omega)
        by_cases hc : kernB (K ++ [⟨wrap64 (x - 4), y, wrap64 (1 + z)⟩]) = true
        · obtain ⟨K2, a5, b5, g1, g2⟩ := ih (n - 1) (K ++ [⟨wrap64 (x - 4), y, wrap64 (1 + z)⟩]) a4 b4 (by omega) (by omega) hc ha4
          exact ⟨K2, a5, b5, g1, start _ (Ev.bind he (Ev_pos hc g2))⟩
        · obtain ⟨K2, a5, b5, g1, g2⟩ := ih (n - 1) K a4 b4 (by omega) (by omega) hK ha4
          exact ⟨K2, a5, b5, g1, start _ (Ev.bind he (Ev_neg hc g2))⟩
      · exact ⟨K, a, b, hK, Ev.step (fun k => by rw [spec_l4Draw.l0]) (Ev_neg c (Ev.now _))⟩
  obtain ⟨K2, a5, b5, g1, g2⟩ := key 4 n [⟨0, 1, 1 + v⟩] a4 b4 (by omega) ⟨n0, by omega⟩ (kern_one v v0 v1) ha4
  refine ⟨K2, a5, b5, g1, Ev_neg c0 (Ev_neg c1 (Ev_neg c2 ?_))⟩
  simp only [e2, e3, Option.bind_some]
  rw [wid (1 + v) (by omega) (by omega)]
  exact g2
theorem mod_ev (x w : Int) (hw : 0 < w) (h0 : -9000000000000000000 ≤ x) (h1 : x ≤ 9000000000000000000) (hw2 : w ≤ 1000000000000) : impl_mod.f x w = some (x % w) := by
  have b0 := Int.emod_nonneg x (b := w) (by omega)
  have b1 := Int.emod_lt_of_pos x hw
  unfold impl_mod.f
  rw [if_neg (by omega)]
  by_cases hx : 0 ≤ x
  · rw [Int.tmod_eq_emod_of_nonneg hx, if_neg (by omega)]
  · have e : Int.tmod x w = -((-x) % w) := by
      rw [← Int.tmod_eq_emod_of_nonneg (by omega : 0 ≤ -x), Int.neg_tmod, Int.neg_neg]
    have c0 := Int.emod_nonneg (-x) (b := w) (by omega)
    have c1 := Int.emod_lt_of_pos (-x) hw
    rw [e]
    have d1 := Int.mul_ediv_add_emod x w
    have d2 := Int.mul_ediv_add_emod (-x) w
    by_cases hz : (-x) % w = 0
    · rw [hz, if_neg (by omega)]
      have : x % w = 0 := Int.emod_eq_zero_of_dvd ((Int.dvd_neg.1 (Int.dvd_of_emod_eq_zero hz)))
      rw [this]
      rfl
    · rw [if_pos (by omega), wid _ (by omega) (by omega)]
      congr 1
      have e3 : w * (x / w) + w * (-x / w) = w * (x / w + -x / w) := (Int.mul_add _ _ _).symm
      have k1 : x / w + -x / w < 0 := by
        by_cases k : 0 ≤ x / w + -x / w
        · have := Int.mul_nonneg (by omega : 0 ≤ w) k
          omega
        · omega
      have k2 : -2 < x / w + -x / w := by
        by_cases k : x / w + -x / w ≤ -2
        · have := Int.mul_le_mul_of_nonneg_left k (by omega : 0 ≤ w)
          omega
        · omega
      rw [show x / w + -x / w = -1 by omega] at e3
      omega
theorem down_ev (x w : Int) (hw : 0 < w) (h0 : -1000000000000 ≤ x) (h1 : x ≤ 1000000000000) (hw2 : w ≤ 1000000000000) : impl_down.f x w = some (x / w) := by
  have b0 := Int.emod_nonneg x (b := w) (by omega)
  have b1 := Int.emod_lt_of_pos x hw
  unfold impl_down.f
  rw [mod_ev x w hw (by omega) (by omega) hw2, Option.bind_some, if_neg (by omega), wid (x - x % w) (by omega) (by omega)]
  have d1 := Int.mul_ediv_add_emod x w
  have e : x - x % w = w * (x / w) := by omega
  rw [e, Int.mul_tdiv_cancel_left _ (by omega)]
  have q0 : x / w ≤ 1000000000000 := Int.ediv_le_of_le_mul hw (by
    have : 1000000000000 * 1 ≤ 1000000000000 * w := Int.mul_le_mul_of_nonneg_left (by omega) (by omega)
    omega)
  have q1 : -1000000000000 ≤ x / w := Int.le_ediv_of_mul_le hw (by
    have : 1000000000000 * 1 ≤ 1000000000000 * w := Int.mul_le_mul_of_nonneg_left (by omega) (by omega)
    rw [Int.neg_mul]
    omega)
  rw [wid _ (by omega) (by omega)]
def floP (a w : Int) (p : S47) : Int := a * p.f2 / w
def modP (a w : Int) (p : S47) : Int := a * p.f2 % w
theorem part_f2 {K : List S47} (h : kernB K = true) {p : S47} (hp : p ∈ K) : 1 ≤ p.f2 ∧ p.f2 ≤ 100 := by
  obtain ⟨i, hi, rfl⟩ := List.getElem_of_mem hp
  obtain ⟨_, _, _, _, _, q1, q2⟩ := of_decide_eq_true (kern_ok h i hi)
  rw [rdP_nat K i hi] at q1 q2
  exact ⟨q1, q2⟩
theorem wt_mem {K : List S47} (h : ∀ p ∈ K, 1 ≤ p.f2 ∧ p.f2 ≤ 100) : 0 ≤ sumL (K.map (·.f2)) ∧ ∀ p ∈ K, p.f2 ≤ sumL (K.map (·.f2)) := by
  induction K with
  | nil => exact ⟨by simp [sumL], fun p hp => by cases hp⟩
  | cons a r ih =>
    have ih := ih (fun p hp => h p (List.mem_cons_of_mem _ hp))
    have ha := h a List.mem_cons_self
    rw [List.map_cons, sumL_cons]
    refine ⟨by omega, fun p hp => ?_⟩
    rcases List.mem_cons.1 hp with rfl | hp
    · omega
    · have := ih.2 p hp
      omega
theorem wtTo_all (K : List S47) : wtTo K K.length = sumL (K.map (·.f2)) := by
  unfold wtTo
  rw [List.take_length]
theorem flo_bd {a w f : Int} (ha : -1000000 ≤ a) (hb : a ≤ 1000000) (h0 : 1 ≤ f) (h1 : f ≤ w) : -1000000 ≤ a * f / w ∧ a * f / w ≤ 1000000 ∧ -1000000 * f ≤ a * f ∧ a * f ≤ 1000000 * f := by
  have e0 : -1000000 * f ≤ a * f := Int.mul_le_mul_of_nonneg_right ha (by omega)
  have e1 : a * f ≤ 1000000 * f := Int.mul_le_mul_of_nonneg_right hb (by omega)
  have e2 : 1000000 * f ≤ 1000000 * w := by omega
  refine ⟨Int.le_ediv_of_mul_le (by omega) (by omega), Int.ediv_le_of_le_mul (by omega) (by omega), e0, e1⟩
def restL (a w : Int) (K : List S47) : Int := a - sumL (K.map (floP a w))
def shareL (a w : Int) (K : List S47) : List Int := (K.map (floP a w)).set 0 (rd (K.map (floP a w)) 0 + restL a w K)
theorem shareL_len (a w : Int) (K : List S47) : (shareL a w K).length = K.length := by unfold shareL; rw [List.length_set, List.length_map]
/-- What is left over: the sum of the remainders, in wholes. -/
theorem rest_mul {K : List S47} (a w : Int) : w * sumL (K.map (floP a w)) + sumL (K.map (modP a w)) = a * sumL (K.map (·.f2)) := by
  induction K with
  | nil => simp [sumL]
  | cons p r ih =>
    simp only [List.map_cons, sumL_cons, Int.mul_add]
    have : w * floP a w p + modP a w p = a * p.f2 := Int.mul_ediv_add_emod _ _
    omega
theorem rest_bd {K : List S47} (a w : Int) (hw : 0 < w) : 0 ≤ sumL (K.map (modP a w)) ∧ sumL (K.map (modP a w)) ≤ (w - 1) * K.length := by
  have := sumL_bd (K.map (modP a w)) 0 (w - 1) (by omega) (by omega) (fun x hx => by
    obtain ⟨p, _, rfl⟩ := List.mem_map.1 hx
    have b0 := Int.emod_nonneg (a * p.f2) (b := w) (by omega)
    have b1 := Int.emod_lt_of_pos (a * p.f2) hw
    unfold modP
    omega)
  rw [List.length_map] at this
  omega
theorem flo_sum_bd {K : List S47} (h : kernB K = true) (a : Int) (ha : -1000000 ≤ a) (hb : a ≤ 1000000) (i : Nat) (hi : i ≤ K.length) : -12000000 ≤ sumL ((K.take i).map (floP a (wtTo K K.length))) ∧ sumL ((K.take i).map (floP a (wtTo K K.length))) ≤ 12000000 := by
  have hk := kern_len h
  have hw := (wt_mem (fun p hp => part_f2 h hp)).2
  have := sumL_bd ((K.take i).map (floP a (wtTo K K.length))) (-1000000) 1000000 (by omega) (by omega) (fun x hx => by
    obtain ⟨p, hp, rfl⟩ := List.mem_map.1 hx
    have hp := List.mem_of_mem_take hp
    have := flo_bd ha hb (part_f2 h hp).1 (hw p hp)
    rw [wtTo_all]
    exact ⟨this.1, this.2.1⟩)
  rw [List.length_map, List.length_take] at this
  omega
theorem rest_small {K : List S47} (h : kernB K = true) (a : Int) : 0 ≤ restL a (wtTo K K.length) K ∧ restL a (wtTo K K.length) K ≤ 12 ∧ wtTo K K.length * restL a (wtTo K K.length) K = sumL (K.map (modP a (wtTo K K.length))) := by
  have hk := kern_len h
  have hw := wtTo_bd h K.length (Nat.le_refl _)
  have e := rest_mul (K := K) a (wtTo K K.length)
  have b := rest_bd (K := K) a (wtTo K K.length) (by omega)
  rw [← wtTo_all] at e
  have m : wtTo K K.length * restL a (wtTo K K.length) K = sumL (K.map (modP a (wtTo K K.length))) := by
    unfold restL
    rw [Int.mul_sub, Int.mul_comm _ a]
    omega
  have l1 : (wtTo K K.length - 1) * (K.length : Int) ≤ (wtTo K K.length - 1) * 12 := Int.mul_le_mul_of_nonneg_left (by omega) (by omega)
  refine ⟨?_, ?_, m⟩
  · by_cases c : 0 ≤ restL a (wtTo K K.length) K
    · exact c
    · have := Int.mul_le_mul_of_nonneg_left (by omega : restL a (wtTo K K.length) K ≤ -1) (by omega : 0 ≤ wtTo K K.length)
      omega
  · by_cases c : restL a (wtTo K K.length) K ≤ 12
    · exact c
    · have := Int.mul_le_mul_of_nonneg_left (by omega : 13 ≤ restL a (wtTo K K.length) K) (by omega : 0 ≤ wtTo K K.length)
      omega
theorem shares_ev {K : List S47} (h : kernB K = true) (a : Int) (ha : -1000000 ≤ a) (hb : a ≤ 1000000) : Ev (fun k => impl_shares.f k K a) (shareL a (wtTo K K.length) K) := by
  have hk := kern_len h
  have hw := wtTo_bd h K.length (Nat.le_refl _)
  have hwm := (wt_mem (fun p hp => part_f2 h hp)).2
  have key : ∀ d i : Nat, i + d = K.length → Ev (fun k => impl_shares.l0 k a (wtTo K K.length) ((K.take i).map (floP a (wtTo K K.length))) (a - sumL ((K.take i).map (floP a (wtTo K K.length)))) K (K.length : Int) (i : Int)) (shareL a (wtTo K K.length) K) := by
    intro d
    induction d with
    | zero =>
      intro i hi
      obtain rfl : i = K.length := by omega
      have r := rest_small h a
      have f0 := flo_bd ha hb (part_f2 h (List.getElem_mem (l := K) (n := 0) (by omega))).1 (hwm _ (List.getElem_mem (l := K) (n := 0) (by omega)))
      have e0 : rd (K.map (floP a (wtTo K K.length))) 0 = floP a (wtTo K K.length) K[0] := by
        show (K.map (floP a (wtTo K K.length))).getD 0 0 = _
        rw [getD_of_lt _ 0 0 (by rw [List.length_map]; omega), List.getElem_map]
      rw [← wtTo_all] at f0
      refine Ev.step (fun k => by rw [impl_shares.l0]) (Ev_neg (by omega) ?_)
      rw [List.take_length]
      refine Ev_pos (by rw [List.length_map]; omega) ?_
      show Ev (fun _ => some ((K.map (floP a (wtTo K K.length))).set (0 : Int).toNat (wrap64 (rd (K.map (floP a (wtTo K K.length))) 0 + restL a (wtTo K K.length) K)))) _
      have : -1000000 ≤ floP a (wtTo K K.length) K[0] ∧ floP a (wtTo K K.length) K[0] ≤ 1000000 := ⟨f0.1, f0.2.1⟩
      rw [wid (rd (K.map (floP a (wtTo K K.length))) 0 + restL a (wtTo K K.length) K) (by omega) (by omega)]
      exact Ev.now _
    | succ d ih =>
      intro i hi
      have hm : K[i] ∈ K := List.getElem_mem (by omega)
      have f0 := flo_bd ha hb (part_f2 h hm).1 (hwm _ hm)
      rw [← wtTo_all] at f0
      have pf := part_f2 h hm
      have s0 := flo_sum_bd h a ha hb i (by omega)
      have s1 := flo_sum_bd h a ha hb (i + 1) (by omega)
      have st : sumL ((K.take (i + 1)).map (floP a (wtTo K K.length))) = sumL ((K.take i).map (floP a (wtTo K K.length))) + a * K[i].f2 / wtTo K K.length := by
        rw [List.take_succ_eq_append_getElem (by omega), List.map_append, sumL_append, List.map_cons, List.map_nil, sumL_one]
        rfl
      refine Ev.step (fun k => ?_) (ih (i + 1) (by omega))
      have hlen : ((K.take i).map (floP a (wtTo K K.length))).length = i := by rw [List.length_map, List.length_take]; omega
      simp only [impl_shares.l0]
      rw [if_pos (by omega), if_pos (by omega), if_pos (by omega), rdP_nat K i (by omega), wid (a * K[i].f2) (by omega) (by omega), down_ev (a * K[i].f2) (wtTo K K.length) (by omega) (by omega) (by omega) (by omega), Option.bind_some, if_pos (by omega), wsucc i (by omega), wid (a - sumL ((K.take i).map (floP a (wtTo K K.length))) - a * K[i].f2 / wtTo K K.length) (by omega) (by omega), st]
      rw [List.take_succ_eq_append_getElem (by omega), List.map_append, Int.sub_sub]
      rfl
  unfold impl_shares.f impl_weight.f
  refine Ev.bind (impl_weight_ev K h) ?_
  have := key K.length 0 (by omega)
  simpa [sumL] using this
theorem implShares_ev {K : List S47} (h : kernB K = true) (a : Int) (ha : -1000000 ≤ a) (hb : a ≤ 1000000) : Ev (fun k => impl_SharesOf.f k K a) (shareL a (wtTo K K.length) K) := by
  have hk := kern_len h
  unfold impl_SharesOf.f
  exact Ev.bind (implIsKernel_ev K (by omega)) (Ev_pos h (Ev_neg (by omega) (Ev_neg (by omega) (Ev.bind (shares_ev h a ha hb) (Ev.now _)))))
theorem share_sum {K : List S47} (h : kernB K = true) (a w : Int) : sumL (shareL a w K) = a := by
  have hk := kern_len h
  have := sum_set id (K.map (floP a w)) 0 (rd (K.map (floP a w)) 0 + restL a w K) (by rw [List.length_map]; omega)
  simp only [List.map_id_fun, id] at this
  unfold shareL
  rw [this]
  show _ - (K.map (floP a w)).getD 0 0 + ((K.map (floP a w)).getD 0 0 + restL a w K) = a
  unfold restL
  omega
theorem share_at {K : List S47} (a w : Int) (i : Nat) (hi : i < K.length) : rd (shareL a w K) (i : Int) = if i = 0 then floP a w K[i] + restL a w K else floP a w K[i] := by
  unfold shareL
  rw [rd_nat, getD_set _ _ _ _ (by rw [List.length_map]; omega)]
  by_cases c : i = 0
  · subst c
    rw [if_pos rfl, if_pos rfl]
    show (K.map (floP a w)).getD 0 0 + _ = _
    rw [getD_of_lt _ 0 0 (by rw [List.length_map]; omega), List.getElem_map]
  · rw [if_neg c, if_neg c, getD_of_lt _ 0 i (by rw [List.length_map]; omega), List.getElem_map]
/-- The law FnShares: the shares of an error add up to it, and each is its part of the error in wholes; for the inputs that the law draws. -/
theorem FnShares (l0 : List Int) (h0_ : l0.length ≤ maxLen) (h1_ : l0.length * 1 ≤ 140737488351232) (h2_ : (∀ x ∈ l0, (Lit.int .u8 x).wf = true)) :
    ∃ k, P.laws_FnShares.f k l0 = some true := by
  refine Ev.rounds ?_
  unfold laws_FnShares.f
  by_cases hl : (l0.length : Int) > 1048576
  · exact Ev_pos hl (Ev.now _)
  refine Ev_neg hl ?_
  obtain ⟨K, hK, HK⟩ := MakeKernel_ok l0 h0_
  obtain ⟨a, ea, a0, a1⟩ := at_ok l0 1 (by omega) (by omega) (by omega) (u8_bd h2_)
  obtain ⟨b, eb, b0, b1⟩ := at_ok l0 2 (by omega) (by omega) (by omega) (u8_bd h2_)
  obtain ⟨c, ec, c0, c1⟩ := at_ok l0 3 (by omega) (by omega) (by omega) (u8_bd h2_)
  refine Ev.bind HK ?_
  simp only [ea, eb, ec, Option.bind_some]
  generalize wrap64 ((wrap64 ((wrap64 (a - 128)) * (wrap64 (b + 1)))) * (wrap64 ((Int.tmod c 30) + 1))) = X
  have hA : -1000000 ≤ Int.tmod X 1000001 ∧ Int.tmod X 1000001 ≤ 1000000 := by
    have q1 := Int.tmod_lt_of_pos X (b := 1000001) (by omega)
    have q2 := Int.tmod_lt_of_pos (-X) (b := 1000001) (by omega)
    rw [Int.neg_tmod] at q2
    omega
  generalize Int.tmod X 1000001 = A at hA ⊢
  have hk := kern_len hK
  have hw := wtTo_bd hK K.length (Nat.le_refl _)
  have hwm := (wt_mem (fun p hp => part_f2 hK hp)).2
  have hr := rest_small hK A
  have hwt := implWeight_ev K (by omega)
  rw [if_pos hK] at hwt
  have fl : ∀ i (hi : i < K.length), -1000000 ≤ floP A (wtTo K K.length) K[i] ∧ floP A (wtTo K K.length) K[i] ≤ 1000000 ∧ -1000000 * K[i].f2 ≤ A * K[i].f2 ∧ A * K[i].f2 ≤ 1000000 * K[i].f2 := by
    intro i hi
    have := flo_bd hA.1 hA.2 (part_f2 hK (List.getElem_mem hi)).1 (hwm _ (List.getElem_mem hi))
    rw [← wtTo_all] at this
    exact this
  refine Ev.bind (implShares_ev hK A hA.1 hA.2) (Ev.bind hwt (Ev_pos (by rw [shareL_len]) (Ev.bind (total_ev _ (by rw [shareL_len]; omega) (fun x hx => ?_)) (Ev_pos (share_sum hK A _) ?_))))
  · obtain ⟨i, hi, rfl⟩ := List.getElem_of_mem hx
    have hi' : i < K.length := by rw [shareL_len] at hi; exact hi
    have e := share_at A (wtTo K K.length) i hi'
    rw [rd_nat, getD_of_lt _ 0 i hi] at e
    have := fl i hi'
    rw [e]
    split <;> omega
  rw [decide_eq_false (by omega)]
  refine Ev.step (fun k => by rw [laws_FnShares.j0]) (Ev_neg (by simp) ?_)
  have key : ∀ d i : Nat, i + d = K.length → Ev (fun k => laws_FnShares.l0 k K A (shareL A (wtTo K K.length) K) (wtTo K K.length) K (K.length : Int) (i : Int)) true := by
    intro d
    induction d with
    | zero =>
      intro i hi
      exact Ev.step (fun k => by rw [laws_FnShares.l0]) (Ev_neg (by omega) (Ev.now _))
    | succ d ih =>
      intro i hi
      have hi' : i < K.length := by omega
      have f := fl i hi'
      have pf := part_f2 hK (List.getElem_mem hi')
      have nx : Ev (fun k => laws_FnShares.l0 k K A (shareL A (wtTo K K.length) K) (wtTo K K.length) K (K.length : Int) (wrap64 ((i : Int) + 1))) true := by
        rw [wsucc i (by omega)]
        exact ih (i + 1) (by omega)
      have hm : wtTo K K.length * floP A (wtTo K K.length) K[i] + modP A (wtTo K K.length) K[i] = A * K[i].f2 := Int.mul_ediv_add_emod _ _
      have m0 : 0 ≤ modP A (wtTo K K.length) K[i] := Int.emod_nonneg _ (by omega)
      have m1 : modP A (wtTo K K.length) K[i] < wtTo K K.length := Int.emod_lt_of_pos _ (by omega)
      have wf0 := wid (A * K[i].f2) (by omega) (by omega)
      refine Ev.step (fun k => by rw [laws_FnShares.l0]) ?_
      refine Ev_pos (by omega) (Ev_pos (by omega) (Ev_pos (by omega) (Ev_pos (by rw [shareL_len]; omega) ?_)))
      rw [rdP_nat K i hi', share_at A _ i hi']
      by_cases c : i = 0
      · rw [if_pos c]
        have b := rest_bd (K := K) A (wtTo K K.length) (by omega)
        have l1 : (wtTo K K.length - 1) * (K.length : Int) = wtTo K K.length * (K.length : Int) - (K.length : Int) := by rw [Int.sub_mul, Int.one_mul]
        have l2 : wtTo K K.length * (K.length : Int) ≤ wtTo K K.length * 12 := Int.mul_le_mul_of_nonneg_left (by omega) (by omega)
        have l3 : 0 ≤ wtTo K K.length * (K.length : Int) := Int.mul_nonneg (by omega) (by omega)
        have e : (floP A (wtTo K K.length) K[i] + restL A (wtTo K K.length) K) * wtTo K K.length = A * K[i].f2 - modP A (wtTo K K.length) K[i] + sumL (K.map (modP A (wtTo K K.length))) := by
          rw [Int.add_mul, Int.mul_comm, Int.mul_comm (restL A (wtTo K K.length) K), hr.2.2]
          omega
        have ml : modP A (wtTo K K.length) K[i] ≤ sumL (K.map (modP A (wtTo K K.length))) := by
          subst c
          have hK0 : K = K[0] :: K.drop 1 := by
            have := List.drop_eq_getElem_cons (l := K) (i := 0) (by omega)
            simpa using this
          have tb := rest_bd (K := K.drop 1) A (wtTo K K.length) (by omega)
          have es : ∀ w : Int, sumL (K.map (modP A w)) = modP A w K[0] + sumL ((K.drop 1).map (modP A w)) := by
            intro w
            have : sumL (K.map (modP A w)) = sumL ((K[0] :: K.drop 1).map (modP A w)) := by rw [← hK0]
            rw [this, List.map_cons, sumL_cons]
          have es := es (wtTo K K.length)
          omega
        rw [e, wf0, wid (A * K[i].f2 - modP A (wtTo K K.length) K[i] + sumL (K.map (modP A (wtTo K K.length)))) (by omega) (by omega), wid (A * K[i].f2 - (A * K[i].f2 - modP A (wtTo K K.length) K[i] + sumL (K.map (modP A (wtTo K K.length))))) (by omega) (by omega), wid (-wtTo K K.length) (by omega) (by omega), Int.neg_mul, wid (-(wtTo K K.length * (K.length : Int))) (by omega) (by omega)]
        exact Ev_neg (by omega) (Ev_pos (by omega) (Ev_neg (by omega) (Ev_neg (by omega) nx)))
      · rw [if_neg c]
        have e : floP A (wtTo K K.length) K[i] * wtTo K K.length = A * K[i].f2 - modP A (wtTo K K.length) K[i] := by
          rw [Int.mul_comm]
          omega
        rw [e, wf0, wid (A * K[i].f2 - modP A (wtTo K K.length) K[i]) (by omega) (by omega), wid (A * K[i].f2 - (A * K[i].f2 - modP A (wtTo K K.length) K[i])) (by omega) (by omega)]
        exact Ev_pos (by omega) (Ev_neg (by omega) (Ev_neg (by omega) (Ev_neg (by omega) nx)))
  exact key K.length 0 (by omega)
end Go.Proofs.Ytbgbbfdmgpcgmaa.Q
