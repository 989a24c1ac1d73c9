/- The law FnEmpty: a picture without ink gets no dots and a full one all, and nothing is lost of them; for the inputs that the law draws. -/
import Derived.Laws.BitsLemmas
import Derived.Test.YtndnklicfibkeaaFimplCountInk
import Derived.Test.YtndnklicfibkeaaFimplDiffusePicture
import Derived.Test.YtndnklicfibkeaaFimplFlatPicture
import Derived.Test.YtndnklicfibkeaaFimplIsKernel
import Derived.Test.YtndnklicfibkeaaFimplIsPicture
import Derived.Test.YtndnklicfibkeaaFimplcopied
import Derived.Test.YtndnklicfibkeaaFimpldiffused
import Derived.Test.YtndnklicfibkeaaFimpldown
import Derived.Test.YtndnklicfibkeaaFimplmod
import Derived.Test.YtndnklicfibkeaaFimplone
import Derived.Test.YtndnklicfibkeaaFimplshares
import Derived.Test.YtndnklicfibkeaaFimplweight
import Derived.Test.YtndnklicfibkeaaFlawsFnEmpty
import Derived.Test.YtndnklicfibkeaaFlawsat
import Derived.Test.YtndnklicfibkeaaFpre
import Derived.Test.YtndnklicfibkeaaFspecIsKernel
import Derived.Test.YtndnklicfibkeaaFspecMakeKernel
import Derived.Test.YtndnklicfibkeaaFspecMakePicture
import Derived.Test.YtndnklicfibkeaaFspecl01Below
import Derived.Test.YtndnklicfibkeaaFspecl01Byte
import Derived.Test.YtndnklicfibkeaaFspecl01Int
import Derived.Test.YtndnklicfibkeaaFspecl01New
import Derived.Test.YtndnklicfibkeaaFspecl1Draw
import Derived.Test.YtndnklicfibkeaaFspecl1Empty
import Derived.Test.YtndnklicfibkeaaFspecl1In
import Derived.Test.YtndnklicfibkeaaFspecl4Draw
import Derived.Test.YtndnklicfibkeaaP0
namespace Go.Proofs.Ytndnklicfibkeaa.Q
open Go.RowKit Go.Proofs.Ytndnklicfibkeaa.P Go.Proofs.YtndnklicfibkeaaW.PrintWords
set_option linter.unusedVariables false
set_option linter.unusedSimpArgs false
theorem wsucc (i : Nat) (h : i < 9223372036854775807) : wrap64 ((i : Int) + 1) = ((i + 1 : Nat) : Int) := by unfold wrap64; omega
theorem wid (x : Int) (h0 : -9223372036854775808 ≤ x) (h1 : x ≤ 9223372036854775807) : wrap64 x = x := by unfold wrap64; omega
theorem rd_nat (l : List Int) (i : Nat) : rd l (i : Int) = l.getD i 0 := by unfold rd; rw [Int.toNat_natCast]
theorem getD_of_lt {α : Type} (l : List α) (d : α) (i : Nat) (h : i < l.length) : l.getD i d = l[i] := by simp [List.getD_eq_getElem?_getD, List.getElem?_eq_getElem h]
theorem getD_mem (l : List Int) (i : Nat) (h : i < l.length) : l.getD i 0 ∈ l := by rw [getD_of_lt l 0 i h]; exact List.getElem_mem h
theorem ext_getD {a b : List Int} (hl : a.length = b.length) (h : ∀ i, i < a.length → a.getD i 0 = b.getD i 0) : a = b := by
  apply List.ext_getElem hl
  intro i h1 h2
  have := h i h1
  rwa [getD_of_lt a 0 i h1, getD_of_lt b 0 i h2] at this
theorem getD_set (l : List Int) (i j : Nat) (x : Int) (hi : i < l.length) : (l.set i x).getD j 0 = if j = i then x else l.getD j 0 := by
  simp only [List.getD_eq_getElem?_getD, List.getElem?_set]
  by_cases h : i = j
  · subst h; simp [hi]
  · rw [if_neg h, if_neg (fun e => h e.symm)]
theorem tab_congr (n : Nat) (f g : Nat → Int) (h : ∀ i, i < n → f i = g i) : (List.range n).map f = (List.range n).map g :=
  List.map_congr_left (fun i hi => h i (List.mem_range.1 hi))
/-! Sums. -/
def sumTo (l : List Int) (i : Nat) : Int := (l.take i).foldl (· + ·) 0
theorem foldl_add (l : List Int) (a : Int) : l.foldl (· + ·) a = a + l.foldl (· + ·) 0 := by
  induction l generalizing a with
  | nil => simp
  | cons x r ih => simp only [List.foldl_cons]; rw [ih (a + x), ih (0 + x)]; omega
def sumL (l : List Int) : Int := l.foldl (· + ·) 0
theorem sumL_append (a b : List Int) : sumL (a ++ b) = sumL a + sumL b := by unfold sumL; rw [List.foldl_append, foldl_add]
theorem sumL_one (x : Int) : sumL [x] = x := by simp [sumL]
theorem sumL_cons (x : Int) (l : List Int) : sumL (x :: l) = x + sumL l := by rw [show x :: l = [x] ++ l from rfl, sumL_append, sumL_one]
theorem sumTo_succ (l : List Int) (i : Nat) (h : i < l.length) : sumTo l (i + 1) = sumTo l i + l.getD i 0 := by
  unfold sumTo
  rw [List.take_succ_eq_append_getElem h, List.foldl_append, getD_of_lt l 0 i h]
  simp
theorem sumTo_zero (l : List Int) : sumTo l 0 = 0 := by simp [sumTo]
theorem sumTo_all (l : List Int) : sumTo l l.length = sumL l := by simp [sumTo, sumL]
theorem sumTo_bd (l : List Int) (lo hi : Int) (h0 : lo ≤ 0) (h1 : 0 ≤ hi) (h : ∀ x ∈ l, lo ≤ x ∧ x ≤ hi) (i : Nat) (hi' : i ≤ l.length) : lo * i ≤ sumTo l i ∧ sumTo l i ≤ hi * i := by
  induction i with
  | zero => simp [sumTo_zero]
  | succ i ih =>
    have ih := ih (by omega)
    have hm := h _ (getD_mem l i (by omega))
    rw [sumTo_succ l i (by omega)]
    push_cast
    rw [Int.mul_add, Int.mul_add]
    omega
theorem Ev_pos {α : Type} {c : Prop} [Decidable c] {f g : Nat → Option α} {r : α} (hc : c) (h : Ev f r) : Ev (fun k => if c then f k else g k) r := Ev.congr (fun k => if_pos hc) h
theorem Ev_neg {α : Type} {c : Prop} [Decidable c] {f g : Nat → Option α} {r : α} (hc : ¬ c) (h : Ev g r) : Ev (fun k => if c then f k else g k) r := Ev.congr (fun k => if_neg hc) h
/-! The reference's pictures. -/
theorem l1In_eq (x a b : Int) : spec_l1In.f x a b = some (decide (a ≤ x ∧ x ≤ b)) := by
  unfold spec_l1In.f
  by_cases h : x ≥ a
  · rw [if_pos h]
    congr 1
    rw [decide_eq_decide]
    omega
  · rw [if_neg h, decide_eq_false (by omega)]
theorem l1Empty_eq (w h : Int) (hs : sizedB w h = true) : spec_l1Empty.f w h = some (w, h, List.replicate (h.toNat * w.toNat) 0) := by
  obtain ⟨h0, h1, h2, h3, h4⟩ := sized_spec hs
  have e0 : 0 ≤ w * h := Int.mul_nonneg (by omega) (by omega)
  unfold spec_l1Empty.f
  rw [wid (w * h) (by omega) (by omega), if_pos e0, if_pos (by omega)]
  have : (w * h).toNat = h.toNat * w.toNat := by rw [Int.toNat_mul (by omega) (by omega), Nat.mul_comm]
  rw [this]
theorem gridL_tab (w : Int) (f : Int → Int → Int) (n : Nat) : gridL w f n = (List.range n).map fun i => cellAt w f i := rfl
theorem area_eq {w h : Int} (h0 : 0 ≤ w) (h1 : 0 ≤ h) : ((h.toNat * w.toNat : Nat) : Int) = w * h := by
  rw [Int.natCast_mul, Int.toNat_of_nonneg h0, Int.toNat_of_nonneg h1, Int.mul_comm]
theorem tmod_nat (i : Nat) (w : Int) : Int.tmod (i : Int) w = (i : Int) % w := Int.tmod_eq_emod_of_nonneg (by omega)
theorem cell_bd {w h : Int} (i : Nat) (h0 : 0 < w) (h1 : 0 < h) (hi : (i : Int) < w * h) : 0 ≤ (i : Int) % w ∧ (i : Int) % w < w ∧ 0 ≤ (i : Int) / w ∧ (i : Int) / w < h ∧ (i : Int) / w * w + (i : Int) % w = i := by
  refine ⟨Int.emod_nonneg _ (by omega), Int.emod_lt_of_pos _ h0, Int.ediv_nonneg (by omega) (by omega), ?_, ?_⟩
  · exact Int.ediv_lt_of_lt_mul h0 (by rw [Int.mul_comm]; exact hi)
  · have := Int.mul_ediv_add_emod (i : Int) w
    rw [Int.mul_comm] at this
    exact this
theorem cell_of {w : Int} (x y : Int) (h0 : 0 < w) (hx0 : 0 ≤ x) (hx : x < w) : (y * w + x) % w = x ∧ (y * w + x) / w = y := by
  constructor
  · rw [Int.add_comm, Int.add_mul_emod_self_right, Int.emod_eq_of_lt hx0 hx]
  · rw [Int.add_comm, Int.add_mul_ediv_right _ _ (by omega), Int.ediv_eq_zero_of_lt hx0 hx, Int.zero_add]
def cntTo (l : List Int) (v : Int) (i : Nat) : Int := ((l.take i).filter (fun x => x == v)).length
theorem cntTo_succ (l : List Int) (v : Int) (i : Nat) (h : i < l.length) : cntTo l v (i + 1) = if l.getD i 0 = v then cntTo l v i + 1 else cntTo l v i := by
  unfold cntTo
  rw [List.take_succ_eq_append_getElem h, List.filter_append, List.length_append, getD_of_lt l 0 i h]
  by_cases e : l[i] = v
  · rw [if_pos e]
    simp [e]
  · rw [if_neg e]
    simp [e]
theorem cntTo_le (l : List Int) (v : Int) (i : Nat) : 0 ≤ cntTo l v i ∧ cntTo l v i ≤ (l.length : Int) := by
  unfold cntTo
  have h1 := List.length_filter_le (fun x => x == v) (l.take i)
  have h2 := List.length_take_le i l
  have h3 : (l.take i).length ≤ l.length := by rw [List.length_take]; omega
  omega
theorem sumL_bd (l : List Int) (lo hi : Int) (h0 : lo ≤ 0) (h1 : 0 ≤ hi) (h : ∀ x ∈ l, lo ≤ x ∧ x ≤ hi) : lo * l.length ≤ sumL l ∧ sumL l ≤ hi * l.length := by
  rw [← sumTo_all]
  exact sumTo_bd l lo hi h0 h1 h l.length (Nat.le_refl _)
/-! Pictures made from a picture. -/
theorem pic_len {w h : Int} {l : List Int} {m : Int} (hp : picB w h l m = true) : h.toNat * w.toNat = l.length := by
  obtain ⟨h0, h1, h2, h3, h4, h5, h6⟩ := pic_spec hp
  have := area_eq (w := w) (h := h) (by omega) (by omega)
  omega
theorem rdP_nat (l : List S68) (i : Nat) (h : i < l.length) : rd_T68 l (i : Int) = l[i] := by
  unfold rd_T68
  rw [Int.toNat_natCast, getD_of_lt l _ i h]
/-! Is it a kernel? -/
def okPart (p : S68) : Bool := decide (-4 ≤ p.f0 ∧ p.f0 ≤ 4 ∧ 0 ≤ p.f1 ∧ p.f1 ≤ 4 ∧ ¬ (p.f1 = 0 ∧ p.f0 < 1) ∧ 1 ≤ p.f2 ∧ p.f2 ≤ 100)
def clashFrom (y : List S68) (a b : Int) (j d : Nat) : Bool := (List.range' j d).any fun m => decide (a = (rd_T68 y (m : Int)).f0 ∧ b = (rd_T68 y (m : Int)).f1)
def kernAt (l : List S68) (i : Nat) : Bool := okPart (rd_T68 l (i : Int)) && !clashFrom (l.take i) (rd_T68 l (i : Int)).f0 (rd_T68 l (i : Int)).f1 0 (l.take i).length
def kernFrom (l : List S68) (i d : Nat) : Bool := (List.range' i d).all (kernAt l)
def kernB (l : List S68) : Bool := decide (1 ≤ l.length ∧ l.length ≤ 12) && kernFrom l 0 l.length
theorem spec_inner (x0 x11 : List S68) (x12 x13 a b c : Int) (y : List S68) (hy : y.length < 1000) (r : Bool) (d : Nat) : ∀ j : Nat, j + d = y.length →
    (clashFrom y a b j d = true → r = false) → (clashFrom y a b j d = false → Ev (fun k => spec_IsKernel.l0 k x0 x11 x12 (wrap64 (x13 + 1))) r) →
    Ev (fun k => spec_IsKernel.l1 k x0 x11 x12 x13 y (y.length : Int) (j : Int) a b c) r := by
  induction d with
  | zero =>
    intro j hj _ h2
    exact Ev.step (fun k => by simp only [spec_IsKernel.l1]; rw [if_neg (by omega)]) (h2 rfl)
  | succ d ih =>
    intro j hj h1 h2
    unfold clashFrom at h1 h2
    rw [List.range'_succ, List.any_cons] at h1 h2
    by_cases ha : a = (rd_T68 y (j : Int)).f0
    · by_cases hb : b = (rd_T68 y (j : Int)).f1
      · rw [h1 (by rw [decide_eq_true ⟨ha, hb⟩]; rfl)]
        exact Ev.step (f := fun _ => some false) (fun k => by simp only [spec_IsKernel.l1]; rw [if_pos (by omega), if_pos (by omega), if_pos (by omega), if_pos ha, if_pos hb]) (Ev.now _)
      · rw [decide_eq_false (fun h => hb h.2), Bool.false_or] at h1 h2
        refine Ev.step (fun k => by simp only [spec_IsKernel.l1]; rw [if_pos (by omega), if_pos (by omega), if_pos (by omega), if_pos ha, if_neg hb, wsucc j (by omega)]) (ih (j + 1) (by omega) h1 h2)
    · rw [decide_eq_false (fun h => ha h.1), Bool.false_or] at h1 h2
      refine Ev.step (fun k => by simp only [spec_IsKernel.l1]; rw [if_pos (by omega), if_pos (by omega), if_pos (by omega), if_neg ha, wsucc j (by omega)]) (ih (j + 1) (by omega) h1 h2)
theorem spec_outer (l : List S68) (hl : l.length < 1000) (d : Nat) : ∀ i : Nat, i + d = l.length → Ev (fun k => spec_IsKernel.l0 k l l (l.length : Int) (i : Int)) (kernFrom l i d) := by
  induction d with
  | zero =>
    intro i hi
    exact Ev.step (f := fun _ => some true) (fun k => by simp only [spec_IsKernel.l0]; rw [if_neg (by omega)]) (Ev.now _)
  | succ d ih =>
    intro i hi
    have hk : kernFrom l i (d + 1) = (kernAt l i && kernFrom l (i + 1) d) := by unfold kernFrom; rw [List.range'_succ, List.all_cons]
    have hj : ∀ a b c : Int, a = (rd_T68 l (i : Int)).f0 → b = (rd_T68 l (i : Int)).f1 → okPart (rd_T68 l (i : Int)) = true → Ev (fun k => spec_IsKernel.j1 k l (i : Int) l (l.length : Int) (i : Int) false a b c) (kernFrom l i (d + 1)) := by
      intro a b c ha hb ho
      subst ha
      subst hb
      have ht : (l.take i).length = i := by rw [List.length_take]; omega
      refine Ev.step (fun k => by simp only [spec_IsKernel.j1]; rw [if_neg (by simp), if_pos (by omega), if_pos (by omega), Option.bind_some, Int.toNat_natCast]) ?_
      refine spec_inner l l _ _ _ _ c (l.take i) (by omega) _ (l.take i).length 0 (by omega) (fun h => ?_) (fun h => ?_)
      · rw [hk]; unfold kernAt; rw [h, ho]; rfl
      · rw [hk, wsucc i (by omega)]; unfold kernAt; rw [h, ho]; simp only [Bool.not_false, Bool.and_true, Bool.true_and]
        exact ih (i + 1) (by omega)
    have hbad : ∀ a b c : Int, okPart (rd_T68 l (i : Int)) = false → Ev (fun k => spec_IsKernel.j1 k l (i : Int) l (l.length : Int) (i : Int) true a b c) (kernFrom l i (d + 1)) := by
      intro a b c ho
      have : kernFrom l i (d + 1) = false := by rw [hk]; unfold kernAt; rw [ho]; rfl
      rw [this]
      exact Ev.step (f := fun _ => some false) (fun k => by simp only [spec_IsKernel.j1]; rw [if_pos trivial]) (Ev.now _)
    have hj := hj _ _ (rd_T68 l (i : Int)).f2 rfl rfl
    have hbad := hbad (rd_T68 l (i : Int)).f0 (rd_T68 l (i : Int)).f1 (rd_T68 l (i : Int)).f2
    refine Ev.step (fun k => by rw [spec_IsKernel.l0]) ?_
    refine Ev_pos (by omega) (Ev_pos (by omega) (Ev_pos (by omega) ?_))
    generalize rd_T68 l (i : Int) = p at hj hbad ⊢
    simp only [l1In_eq, Option.bind_some]
    by_cases c1 : -4 ≤ p.f0 ∧ p.f0 ≤ 4
    · refine Ev_pos (decide_eq_true c1) ?_
      by_cases c2 : 0 ≤ p.f1 ∧ p.f1 ≤ 4
      · refine Ev_pos (decide_eq_true c2) ?_
        have fin : ¬ (p.f1 = 0 ∧ p.f0 < 1) → Ev (fun k => spec_IsKernel.j1 k l (i : Int) l (l.length : Int) (i : Int) (!decide (1 ≤ p.f2 ∧ p.f2 ≤ 100)) p.f0 p.f1 p.f2) (kernFrom l i (d + 1)) := by
          intro c5
          by_cases c6 : 1 ≤ p.f2 ∧ p.f2 ≤ 100
          · rw [decide_eq_true c6]
            exact hj (decide_eq_true ⟨c1.1, c1.2, c2.1, c2.2, c5, c6.1, c6.2⟩)
          · rw [decide_eq_false c6]
            exact hbad (decide_eq_false (fun h => c6 ⟨h.2.2.2.2.2.1, h.2.2.2.2.2.2⟩))
        by_cases c3 : p.f1 = 0
        · refine Ev_pos c3 ?_
          by_cases c4 : p.f0 < 1
          · exact Ev_pos c4 (hbad (decide_eq_false (fun h => h.2.2.2.2.1 ⟨c3, c4⟩)))
          · exact Ev_neg c4 (fin (fun h => c4 h.2))
        · exact Ev_neg c3 (fin (fun h => c3 h.1))
      · exact Ev_neg (by rw [decide_eq_false c2]; simp) (hbad (decide_eq_false (fun h => c2 ⟨h.2.2.1, h.2.2.2.1⟩)))
    · exact Ev_neg (by rw [decide_eq_false c1]; simp) (hbad (decide_eq_false (fun h => c1 ⟨h.1, h.2.1⟩)))
theorem impl_inner (x0 x11 : List S68) (x12 x13 a b c : Int) (y : List S68) (hy : y.length < 1000) (r : Bool) (d : Nat) : ∀ j : Nat, j + d = y.length →
    (clashFrom y a b j d = true → r = false) → (clashFrom y a b j d = false → Ev (fun k => impl_IsKernel.l0 k x0 x11 x12 (wrap64 (x13 + 1))) r) →
    Ev (fun k => impl_IsKernel.l1 k x0 x11 x12 x13 y (y.length : Int) (j : Int) a b c) r := by
  induction d with
  | zero =>
    intro j hj _ h2
    exact Ev.step (fun k => by simp only [impl_IsKernel.l1]; rw [if_neg (by omega)]) (h2 rfl)
  | succ d ih =>
    intro j hj h1 h2
    unfold clashFrom at h1 h2
    rw [List.range'_succ, List.any_cons] at h1 h2
    by_cases ha : a = (rd_T68 y (j : Int)).f0
    · by_cases hb : b = (rd_T68 y (j : Int)).f1
      · rw [h1 (by rw [decide_eq_true ⟨ha, hb⟩]; rfl)]
        exact Ev.step (f := fun _ => some false) (fun k => by simp only [impl_IsKernel.l1]; rw [if_pos (by omega), if_pos (by omega), if_pos (by omega), if_pos ha, if_pos hb]) (Ev.now _)
      · rw [decide_eq_false (fun h => hb h.2), Bool.false_or] at h1 h2
        refine Ev.step (fun k => by simp only [impl_IsKernel.l1]; rw [if_pos (by omega), if_pos (by omega), if_pos (by omega), if_pos ha, if_neg hb, wsucc j (by omega)]) (ih (j + 1) (by omega) h1 h2)
    · rw [decide_eq_false (fun h => ha h.1), Bool.false_or] at h1 h2
      refine Ev.step (fun k => by simp only [impl_IsKernel.l1]; rw [if_pos (by omega), if_pos (by omega), if_pos (by omega), if_neg ha, wsucc j (by omega)]) (ih (j + 1) (by omega) h1 h2)
theorem impl_outer (l : List S68) (hl : l.length < 1000) (d : Nat) : ∀ i : Nat, i + d = l.length → Ev (fun k => impl_IsKernel.l0 k l l (l.length : Int) (i : Int)) (kernFrom l i d) := by
  induction d with
  | zero =>
    intro i hi
    exact Ev.step (f := fun _ => some true) (fun k => by simp only [impl_IsKernel.l0]; rw [if_neg (by omega)]) (Ev.now _)
  | succ d ih =>
    intro i hi
    have hk : kernFrom l i (d + 1) = (kernAt l i && kernFrom l (i + 1) d) := by unfold kernFrom; rw [List.range'_succ, List.all_cons]
    have hj : ∀ a b c : Int, a = (rd_T68 l (i : Int)).f0 → b = (rd_T68 l (i : Int)).f1 → okPart (rd_T68 l (i : Int)) = true → Ev (fun k => impl_IsKernel.j2 k l (i : Int) l (l.length : Int) (i : Int) false a b c) (kernFrom l i (d + 1)) := by
      intro a b c ha hb ho
      subst ha
      subst hb
      have ht : (l.take i).length = i := by rw [List.length_take]; omega
      refine Ev.step (fun k => by simp only [impl_IsKernel.j2]; rw [if_neg (by simp), if_pos (by omega), if_pos (by omega), Option.bind_some, Int.toNat_natCast]) ?_
      refine impl_inner l l _ _ _ _ c (l.take i) (by omega) _ (l.take i).length 0 (by omega) (fun h => ?_) (fun h => ?_)
      · rw [hk]; unfold kernAt; rw [h, ho]; rfl
      · rw [hk, wsucc i (by omega)]; unfold kernAt; rw [h, ho]; simp only [Bool.not_false, Bool.and_true, Bool.true_and]
        exact ih (i + 1) (by omega)
    have hbad : ∀ a b c : Int, okPart (rd_T68 l (i : Int)) = false → Ev (fun k => impl_IsKernel.j2 k l (i : Int) l (l.length : Int) (i : Int) true a b c) (kernFrom l i (d + 1)) := by
      intro a b c ho
      have : kernFrom l i (d + 1) = false := by rw [hk]; unfold kernAt; rw [ho]; rfl
      rw [this]
      exact Ev.step (f := fun _ => some false) (fun k => by simp only [impl_IsKernel.j2]; rw [if_pos trivial]) (Ev.now _)
    have hj := hj _ _ (rd_T68 l (i : Int)).f2 rfl rfl
    have hbad := hbad (rd_T68 l (i : Int)).f0 (rd_T68 l (i : Int)).f1 (rd_T68 l (i : Int)).f2
    refine Ev.step (fun k => by rw [impl_IsKernel.l0]) ?_
    refine Ev_pos (by omega) (Ev_pos (by omega) (Ev_pos (by omega) ?_))
    generalize rd_T68 l (i : Int) = p at hj hbad ⊢
    have bad : ¬ (-4 ≤ p.f0 ∧ p.f0 ≤ 4 ∧ 0 ≤ p.f1 ∧ p.f1 ≤ 4 ∧ ¬ (p.f1 = 0 ∧ p.f0 < 1) ∧ 1 ≤ p.f2 ∧ p.f2 ≤ 100) → Ev (fun k => impl_IsKernel.j2 k l (i : Int) l (l.length : Int) (i : Int) true p.f0 p.f1 p.f2) (kernFrom l i (d + 1)) := fun h => hbad (decide_eq_false h)
    by_cases c1 : p.f0 < -4
    · exact Ev_pos c1 (bad (by omega))
    refine Ev_neg c1 ?_
    by_cases c2 : p.f0 > 4
    · exact Ev_pos c2 (bad (by omega))
    refine Ev_neg c2 ?_
    by_cases c3 : p.f1 < 0
    · exact Ev_pos c3 (bad (by omega))
    refine Ev_neg c3 ?_
    by_cases c4 : p.f1 > 4
    · exact Ev_pos c4 (bad (by omega))
    refine Ev_neg c4 ?_
    have fin : ¬ (p.f1 = 0 ∧ p.f0 < 1) → Ev (fun k => if p.f2 < 1 then (impl_IsKernel.j2 k l (i : Int) l (l.length : Int) (i : Int) true p.f0 p.f1 p.f2) else (impl_IsKernel.j2 k l (i : Int) l (l.length : Int) (i : Int) (decide (p.f2 > 100)) p.f0 p.f1 p.f2)) (kernFrom l i (d + 1)) := by
      intro c5
      by_cases c6 : p.f2 < 1
      · exact Ev_pos c6 (bad (by omega))
      refine Ev_neg c6 ?_
      by_cases c7 : p.f2 > 100
      · rw [decide_eq_true c7]
        exact bad (by omega)
      · rw [decide_eq_false c7]
        exact hj (decide_eq_true (by omega))
    by_cases c5 : p.f1 = 0
    · refine Ev_pos c5 ?_
      by_cases c6 : p.f0 < 1
      · exact Ev_pos c6 (bad (by omega))
      · exact Ev_neg c6 (fin (by omega))
    · exact Ev_neg c5 (fin (by omega))
theorem specIsKernel_ev (l : List S68) (hl : l.length ≤ 1048576) : Ev (fun k => spec_IsKernel.f k l) (kernB l) := by
  unfold spec_IsKernel.f kernB
  rw [l1In_eq]
  simp only [Option.bind_some]
  by_cases h : 1 ≤ l.length ∧ l.length ≤ 12
  · rw [decide_eq_true h, Bool.true_and]
    exact Ev_pos (decide_eq_true (by omega)) (spec_outer l (by omega) l.length 0 (by omega))
  · rw [decide_eq_false h, Bool.false_and]
    exact Ev_neg (by rw [decide_eq_false (by omega)]; simp) (Ev.now _)
theorem implIsKernel_ev (l : List S68) (hl : l.length ≤ 1048576) : Ev (fun k => impl_IsKernel.f k l) (kernB l) := by
  unfold impl_IsKernel.f kernB
  have bad : ¬ (1 ≤ l.length ∧ l.length ≤ 12) → Ev (fun k => impl_IsKernel.j0 k l true) (decide (1 ≤ l.length ∧ l.length ≤ 12) && kernFrom l 0 l.length) := by
    intro h
    rw [decide_eq_false h, Bool.false_and]
    refine Ev.step (f := fun _ => some false) (fun k => ?_) (Ev.now _)
    simp only [impl_IsKernel.j0, if_true]
  by_cases c1 : (l.length : Int) < 1
  · exact Ev_pos c1 (bad (by omega))
  refine Ev_neg c1 ?_
  by_cases c2 : (l.length : Int) > 12
  · rw [decide_eq_true c2]
    exact bad (by omega)
  · rw [decide_eq_false c2, decide_eq_true (by omega), Bool.true_and]
    refine Ev.step (fun k => ?_) (impl_outer l (by omega) l.length 0 (by omega))
    simp only [impl_IsKernel.j0]
    rw [if_neg (by simp)]
    rfl
theorem kern_len {l : List S68} (h : kernB l = true) : 1 ≤ l.length ∧ l.length ≤ 12 := by
  unfold kernB at h
  rw [Bool.and_eq_true] at h
  exact of_decide_eq_true h.1
theorem kern_ok {l : List S68} (h : kernB l = true) (i : Nat) (hi : i < l.length) : okPart (rd_T68 l (i : Int)) = true := by
  unfold kernB kernFrom at h
  rw [Bool.and_eq_true, List.all_eq_true] at h
  have := h.2 i (by rw [List.mem_range']; exact ⟨i, by omega, by omega⟩)
  unfold kernAt at this
  rw [Bool.and_eq_true] at this
  exact this.1
def wtTo (l : List S68) (i : Nat) : Int := sumL ((l.take i).map (·.f2))
theorem wtTo_succ (l : List S68) (i : Nat) (h : i < l.length) : wtTo l (i + 1) = wtTo l i + (rd_T68 l (i : Int)).f2 := by
  unfold wtTo
  rw [List.take_succ_eq_append_getElem h, List.map_append, sumL_append, List.map_cons, List.map_nil, sumL_one, rdP_nat l i h]
theorem wtTo_bd {l : List S68} (h : kernB l = true) (i : Nat) (hi : i ≤ l.length) : (i : Int) ≤ wtTo l i ∧ wtTo l i ≤ 100 * (i : Int) := by
  induction i with
  | zero => simp [wtTo, sumL]
  | succ i ih =>
    have := ih (by omega)
    obtain ⟨_, _, _, _, _, q1, q2⟩ := of_decide_eq_true (kern_ok h i (by omega))
    rw [wtTo_succ l i (by omega)]
    omega
theorem impl_weight_ev (l : List S68) (h : kernB l = true) : Ev (fun k => impl_weight.l0 k 0 l (l.length : Int) 0) (wtTo l l.length) := by
  have hk := kern_len h
  have key : ∀ d i : Nat, i + d = l.length → Ev (fun k => impl_weight.l0 k (wtTo l i) l (l.length : Int) (i : Int)) (wtTo l l.length) := by
    intro d
    induction d with
    | zero =>
      intro i hi
      obtain rfl : i = l.length := by omega
      refine Ev.step (f := fun _ => some (wtTo l l.length)) (fun k => ?_) (Ev.now _)
      simp only [impl_weight.l0]
      rw [if_neg (by omega)]
    | succ d ih =>
      intro i hi
      have hb := wtTo_bd h (i + 1) (by omega)
      have hs := wtTo_succ l i (by omega)
      refine Ev.step (fun k => ?_) (ih (i + 1) (by omega))
      simp only [impl_weight.l0]
      rw [if_pos (by omega), if_pos (by omega), if_pos (by omega), ← hs, wid (wtTo l (i + 1)) (by omega) (by omega), wsucc i (by omega)]
  have := key l.length 0 (by omega)
  exact this
/-! The drawing of inputs. -/
theorem and255 (n : Int) : Go.bits .and .i64 n 255 = n % 256 := by
  have h127 : (BitVec.ofInt 64 255).toNat = 2 ^ 8 - 1 := by decide
  have key : (BitVec.ofInt 64 n &&& BitVec.ofInt 64 255).toNat = (n % ((2 ^ 64 : Nat) : Int)).toNat % 2 ^ 8 := by
    rw [BitVec.toNat_and, BitVec.toNat_ofInt, h127, Nat.and_two_pow_sub_one_eq_mod]
  show IntKind.i64.wrap ((BitVec.ofInt 64 n &&& BitVec.ofInt 64 255).toNat : Nat) = n % 256
  rw [key, IntKind.wrap_i64]
  omega
theorem byte_ok (s : List Int) (a b : Int) (ha : 0 ≤ a) (hl : s.length ≤ maxLen) : ∃ v a2 b2 : Int, spec_l01Byte.f s a b = some (v, a2, b2) ∧ 0 ≤ v ∧ v ≤ 255 ∧ 0 ≤ a2 := by
  unfold maxLen at hl
  unfold spec_l01Byte.f
  simp only [and255]
  by_cases h : a < (s.length : Int)
  · rw [if_pos h, if_pos ha, wid (a + 1) (by omega) (by omega)]
    exact ⟨_, _, _, rfl, by omega, by omega, by omega⟩
  · rw [if_neg h]
    exact ⟨_, _, _, rfl, by omega, by omega, by omega⟩
theorem below_ok (s : List Int) (a b n : Int) (ha : 0 ≤ a) (hl : s.length ≤ maxLen) (h1 : 1 ≤ n) (h2 : n ≤ 256) : ∃ v a2 b2 : Int, spec_l01Below.f s a b n = some (v, a2, b2) ∧ 0 ≤ v ∧ v < n ∧ 0 ≤ a2 := by
  obtain ⟨v, a2, b2, e, h3, h4, h5⟩ := byte_ok s a b ha hl
  unfold spec_l01Below.f
  rw [if_neg (by omega), if_pos h2, e, Option.bind_some, if_neg (by omega)]
  exact ⟨_, _, _, rfl, Int.tmod_nonneg _ h3, Int.tmod_lt_of_pos _ (by omega), h5⟩
theorem draw_ok (s : List Int) (a b : Int) (L : List Int) (ha : 0 ≤ a) (hl : s.length ≤ maxLen) (h1 : 1 ≤ L.length) (h2 : L.length ≤ 256) : ∃ v a2 b2 : Int, spec_l01Int.f s a b L = some (v, a2, b2) ∧ v ∈ L ∧ 0 ≤ a2 := by
  obtain ⟨v, a2, b2, e, h3, h4, h5⟩ := below_ok s a b (L.length : Int) ha hl (by omega) (by omega)
  unfold spec_l01Int.f
  rw [e, Option.bind_some, if_pos h3, if_pos h4]
  refine ⟨_, _, _, rfl, ?_, h5⟩
  obtain ⟨m, rfl⟩ : ∃ m : Nat, v = (m : Int) := ⟨v.toNat, by omega⟩
  rw [rd_nat]
  exact getD_mem L m (by omega)
theorem new_ok (s : List Int) (hl : s.length ≤ maxLen) : ∃ b : Int, Ev (fun k => spec_l01New.f k s) (s, 0, b) := by
  unfold maxLen at hl
  have key : ∀ (d i : Nat) (x : Int), i + d = s.length → ∃ b : Int, Ev (fun k => spec_l01New.l0 k s x (i : Int)) (s, 0, b) := by
    intro d
    induction d with
    | zero =>
      intro i x hi
      refine ⟨x, Ev.step (fun k => by rw [spec_l01New.l0]) ?_⟩
      exact Ev_neg (by omega) (Ev.now _)
    | succ d ih =>
      intro i x hi
      by_cases h : (i : Int) < 4000
      · obtain ⟨b, hb⟩ := ih (i + 1) (Go.bits .and .i64 (wrap64 ((wrap64 ((wrap64 (x * 1103)) + (wrap64 (rd s (i : Int))))) + 7)) 1073741823) (by omega)
        refine ⟨b, Ev.step (fun k => ?_) hb⟩
        simp only [spec_l01New.l0]
        rw [if_pos (by omega), if_pos h, if_pos (by omega), wsucc i (by omega)]
      · refine ⟨x, Ev.step (fun k => by rw [spec_l01New.l0]) ?_⟩
        exact Ev_pos (by omega) (Ev_neg h (Ev.now _))
  exact key s.length 0 _ (by omega)
theorem mem_set_bd {L : List Int} {p : Nat} {v lo hi : Int} (hL : ∀ x ∈ L, lo ≤ x ∧ x ≤ hi) (h0 : lo ≤ v) (h1 : v ≤ hi) : ∀ x ∈ L.set p v, lo ≤ x ∧ x ≤ hi := by
  intro x hx
  rcases List.mem_or_eq_of_mem_set hx with h | h
  · exact hL x h
  · subst h
    exact ⟨h0, h1⟩
theorem drawn_ok (s : List Int) (hl : s.length ≤ maxLen) (mode w h : Int) (hm : 0 ≤ mode) (hw : 1 ≤ w) (hw2 : w ≤ 64) (n : Nat) (hn : n ≤ 1048576) : ∀ (d i : Nat) (L : List Int) (a b : Int), i + d = n → L.length = n → (∀ x ∈ L, 0 ≤ x ∧ x ≤ 255) → 0 ≤ a →
    ∃ (L2 : List Int) (a2 b2 : Int), L2.length = n ∧ (∀ x ∈ L2, 0 ≤ x ∧ x ≤ 255) ∧ 0 ≤ a2 ∧ Ev (fun k => spec_l1Draw.l0 k mode (n : Int) (i : Int) s a b w h L) (w, h, L2, a2, b2) := by
  intro d
  induction d with
  | zero =>
    intro i L a b hi hL hx ha
    refine ⟨L, a, b, hL, hx, ha, Ev.step (fun k => by rw [spec_l1Draw.l0]) ?_⟩
    exact Ev_neg (by omega) (Ev.now _)
  | succ d ih =>
    intro i L a b hi hL hx ha
    have go : ∀ v a2 b2 : Int, 0 ≤ v → v ≤ 255 → 0 ≤ a2 → ∃ (L2 : List Int) (a3 b3 : Int), L2.length = n ∧ (∀ x ∈ L2, 0 ≤ x ∧ x ≤ 255) ∧ 0 ≤ a3 ∧ Ev (fun k => if 0 ≤ (i : Int) then (if (i : Int) < (L.length : Int) then (spec_l1Draw.l0 k mode (n : Int) (wrap64 ((i : Int) + 1)) s a2 b2 w h (L.set (i : Int).toNat v)) else none) else none) (w, h, L2, a3, b3) := by
      intro v a2 b2 v0 v1 ha2
      obtain ⟨L2, a3, b3, q1, q2, q3, q4⟩ := ih (i + 1) (L.set i v) a2 b2 (by omega) (by rw [List.length_set]; exact hL) (mem_set_bd hx v0 v1) ha2
      refine ⟨L2, a3, b3, q1, q2, q3, Ev_pos (by omega) (Ev_pos (by omega) ?_)⟩
      rw [wsucc i (by omega), Int.toNat_natCast]
      exact q4
    by_cases m0 : mode = 0
    · obtain ⟨v, a2, b2, e, v0, v1, ha2⟩ := below_ok s a b 256 ha hl (by omega) (by omega)
      obtain ⟨L2, a3, b3, q1, q2, q3, q4⟩ := go v a2 b2 v0 (by omega) ha2
      refine ⟨L2, a3, b3, q1, q2, q3, Ev.step (fun k => by rw [spec_l1Draw.l0]) (Ev_pos (by omega) (Ev_pos m0 ?_))⟩
      rw [e]
      exact q4
    by_cases m1 : mode = 1
    · obtain ⟨v, a2, b2, e, v0, ha2⟩ := draw_ok s a b [0, 255, 128, 127, 1, 254] ha hl (by simp) (by simp)
      have vb : 0 ≤ v ∧ v ≤ 255 := by
        simp only [List.mem_cons, List.not_mem_nil, or_false] at v0
        omega
      obtain ⟨L2, a3, b3, q1, q2, q3, q4⟩ := go v a2 b2 vb.1 vb.2 ha2
      refine ⟨L2, a3, b3, q1, q2, q3, Ev.step (fun k => by rw [spec_l1Draw.l0]) (Ev_pos (by omega) (Ev_neg m0 (Ev_pos m1 ?_)))⟩
      rw [e]
      exact q4
    by_cases m2 : mode = 2
    · obtain ⟨v, a2, b2, e, v0, v1, ha2⟩ := below_ok s a b 2 ha hl (by omega) (by omega)
      obtain ⟨L2, a3, b3, q1, q2, q3, q4⟩ := go v a2 b2 v0 (by omega) ha2
      refine ⟨L2, a3, b3, q1, q2, q3, Ev.step (fun k => by rw [spec_l1Draw.l0]) (Ev_pos (by omega) (Ev_neg m0 (Ev_neg m1 (Ev_pos m2 ?_))))⟩
      rw [e]
      exact q4
    · have hx1 : mx 1 (wrap64 (w - 1)) = if w = 1 then 1 else w - 1 := by
        rw [wid (w - 1) (by omega) (by omega)]
        unfold mx
        by_cases c : w = 1
        · subst c
          rfl
        · rw [if_neg c]
          by_cases c2 : 1 < w - 1
          · rw [if_pos c2]
          · rw [if_neg c2]
            omega
      have b0 := Int.emod_nonneg (i : Int) (b := w) (by omega)
      have b1 := Int.emod_lt_of_pos (i : Int) (b := w) (by omega)
      have hv : 0 ≤ wrap64 (Int.tdiv (wrap64 ((Int.tmod (i : Int) w) * 255)) (mx 1 (wrap64 (w - 1)))) ∧ wrap64 (Int.tdiv (wrap64 ((Int.tmod (i : Int) w) * 255)) (mx 1 (wrap64 (w - 1)))) ≤ 255 := by
        rw [hx1, tmod_nat, wid ((i : Int) % w * 255) (by omega) (by omega), Int.tdiv_eq_ediv_of_nonneg (by omega)]
        by_cases c : w = 1
        · subst c
          rw [if_pos rfl, show (i : Int) % 1 * 255 = 0 by omega, Int.zero_ediv]
          exact ⟨by unfold wrap64; omega, by unfold wrap64; omega⟩
        · rw [if_neg c]
          have d0 : 0 ≤ (i : Int) % w * 255 / (w - 1) := Int.ediv_nonneg (by omega) (by omega)
          have d1 : (i : Int) % w * 255 / (w - 1) ≤ 255 := by
            have : (i : Int) % w * 255 ≤ 255 * (w - 1) := by omega
            exact Int.ediv_le_of_le_mul (by omega) this
          rw [wid _ (by omega) (by omega)]
          exact ⟨d0, d1⟩
      obtain ⟨L2, a3, b3, q1, q2, q3, q4⟩ := go _ a b hv.1 hv.2 ha
      refine ⟨L2, a3, b3, q1, q2, q3, Ev.step (fun k => by rw [spec_l1Draw.l0]) (Ev_pos (by omega) (Ev_neg m0 (Ev_neg m1 (Ev_neg m2 (Ev_neg (by omega) (Ev_neg ?_ q4))))))⟩
      rw [hx1]
      split <;> omega
theorem rep_bd (n : Nat) (hi : Int) (h : 0 ≤ hi) : ∀ x ∈ List.replicate n (0 : Int), 0 ≤ x ∧ x ≤ hi := by
  intro x hx
  rw [(List.mem_replicate.1 hx).2]
  omega
theorem pic_mk {w h : Int} {l : List Int} {m : Int} (hs : sizedB w h = true) (hl : l.length = h.toNat * w.toNat) (hx : ∀ x ∈ l, 0 ≤ x ∧ x ≤ m) : picB w h l m = true := by
  obtain ⟨h0, h1, h2, h3, h4⟩ := sized_spec hs
  unfold picB withinB
  rw [Bool.and_eq_true, Bool.and_eq_true, List.all_eq_true]
  have := area_eq (w := w) (h := h) (by omega) (by omega)
  exact ⟨hs, decide_eq_true (by omega), fun x hxl => decide_eq_true (hx x hxl)⟩
theorem sized_small {w h : Int} (h0 : 1 ≤ w) (h1 : w ≤ 16) (h2 : 1 ≤ h) (h3 : h ≤ 16) : sizedB w h = true := by
  have e : w * h ≤ 16 * 16 := Int.le_trans (Int.mul_le_mul_of_nonneg_right h1 (by omega)) (Int.mul_le_mul_of_nonneg_left h3 (by omega))
  exact decide_eq_true ⟨h0, by omega, h2, by omega, by omega⟩
theorem l1Draw_ok (s : List Int) (a b m : Int) (ha : 0 ≤ a) (hl : s.length ≤ maxLen) (h1 : 1 ≤ m) (h2 : m ≤ 16) : ∃ (w h : Int) (l : List Int) (a2 b2 : Int), picB w h l 255 = true ∧ w ≤ m ∧ h ≤ m ∧ 0 ≤ a2 ∧ Ev (fun k => spec_l1Draw.f k s a b m) (w, h, l, a2, b2) := by
  obtain ⟨w, a2, b2, e1, w0, w1, ha2⟩ := below_ok s a b m ha hl h1 (by omega)
  obtain ⟨h, a3, b3, e2, v0, v1, ha3⟩ := below_ok s a2 b2 m ha2 hl h1 (by omega)
  obtain ⟨q, a4, b4, e3, q0, q1, ha4⟩ := below_ok s a3 b3 4 ha3 hl (by omega) (by omega)
  have hs : sizedB (1 + w) (1 + h) = true := sized_small (by omega) (by omega) (by omega) (by omega)
  obtain ⟨g0, g1, g2, g3, g4⟩ := sized_spec hs
  have hn := area_eq (w := 1 + w) (h := 1 + h) (by omega) (by omega)
  obtain ⟨L2, a5, b5, p1, p2, p3, p4⟩ := drawn_ok s hl q (1 + w) (1 + h) q0 (by omega) (by omega) ((1 + h).toNat * (1 + w).toNat) (by omega) ((1 + h).toNat * (1 + w).toNat) 0 (List.replicate ((1 + h).toNat * (1 + w).toNat) 0) a4 b4 (by omega) (by simp) (rep_bd _ _ (by omega)) ha4
  refine ⟨1 + w, 1 + h, L2, a5, b5, pic_mk hs p1 p2, by omega, by omega, p3, ?_⟩
  unfold spec_l1Draw.f
  simp only [e1, e2, Option.bind_some]
  rw [wid (1 + w) (by omega) (by omega), wid (1 + h) (by omega) (by omega), l1Empty_eq _ _ hs]
  simp only [e3, Option.bind_some, List.length_replicate]
  exact p4
theorem MakePicture_ok (s : List Int) (m : Int) (hl : s.length ≤ maxLen) (h1 : 1 ≤ m) (h2 : m ≤ 16) : ∃ (w h : Int) (l : List Int), picB w h l 255 = true ∧ w ≤ m ∧ h ≤ m ∧ Ev (fun k => spec_MakePicture.f k s m) (w, h, l) := by
  obtain ⟨b, hb⟩ := new_ok s hl
  have hm : mx 1 (mn m 16) = m := by
    unfold mx mn
    rw [show (if 16 < m then (16 : Int) else m) = m from if_neg (by omega)]
    by_cases c : 1 < m
    · rw [if_pos c]
    · rw [if_neg c]
      omega
  obtain ⟨w, h, l, a2, b2, p1, p2, p3, p4, p5⟩ := l1Draw_ok s 0 b m (by omega) hl h1 h2
  refine ⟨w, h, l, p1, p2, p3, ?_⟩
  unfold spec_MakePicture.f
  rw [hm]
  exact Ev.bind hb (Ev.bind p5 (Ev.now _))
theorem at_ok (s : List Int) (n : Int) (hl : s.length ≤ 1048576) (h0 : 0 ≤ n) (h1 : n ≤ 100) (hx : ∀ x ∈ s, 0 ≤ x ∧ x ≤ 255) : ∃ v : Int, laws_at.f s n = some v ∧ 0 ≤ v ∧ v ≤ 255 := by
  unfold laws_at.f
  by_cases h : n < (s.length : Int)
  · rw [if_pos h, if_pos h0]
    obtain ⟨m, rfl⟩ : ∃ m : Nat, n = (m : Int) := ⟨n.toNat, by omega⟩
    rw [rd_nat]
    have := hx _ (getD_mem s m (by omega))
    rw [wid _ (by omega) (by omega)]
    exact ⟨_, rfl, this.1, this.2⟩
  · rw [if_neg h, wid (n * 37) (by omega) (by omega), wid ((s.length : Int) * 11) (by omega) (by omega), wid _ (by omega) (by omega)]
    refine ⟨_, rfl, Int.tmod_nonneg _ (by omega), ?_⟩
    have := Int.tmod_lt_of_pos (n * 37 + (s.length : Int) * 11) (b := 256) (by omega)
    omega
theorem pic_small {w h : Int} {l : List Int} {m : Int} (hp : picB w h l m = true) : l.length ≤ 1024 := by
  obtain ⟨h0, h1, h2, h3, h4, h5, h6⟩ := pic_spec hp
  omega
theorem u8_bd {l : List Int} (h : ∀ x ∈ l, (Lit.int .u8 x).wf = true) : ∀ x ∈ l, 0 ≤ x ∧ x ≤ 255 := by
  intro x hx
  have := h x hx
  simp [Lit.wf] at this
  have e1 : IntKind.u8.min = 0 := rfl
  have e2 : IntKind.u8.max = 255 := rfl
  omega
theorem cells_ext {w h : Int} {a b : List Int} (h0 : 0 < w) (h1 : 0 < h) (ha : a.length = h.toNat * w.toNat) (hb : b.length = h.toNat * w.toNat) (e : ∀ x y : Int, 0 ≤ x → x < w → 0 ≤ y → y < h → rd a (y * w + x) = rd b (y * w + x)) : a = b := by
  have hn := area_eq (w := w) (h := h) (by omega) (by omega)
  refine ext_getD (by omega) (fun i hi => ?_)
  obtain ⟨b0, b1, b2, b3, b4⟩ := cell_bd (w := w) (h := h) i h0 h1 (by omega)
  have := e _ _ b0 b1 b2 b3
  rwa [b4, rd_nat, rd_nat] at this
theorem sumL_rep (n : Nat) (v : Int) : sumL (List.replicate n v) = n * v := by
  induction n with
  | zero => simp [sumL]
  | succ n ih =>
    rw [List.replicate_succ, sumL_cons, ih]
    push_cast
    rw [Int.add_mul, Int.one_mul, Int.add_comm]
def isV (v x : Int) : Int := if x = v then 1 else 0
theorem cnt_sum (l : List Int) (v : Int) : cntTo l v l.length = sumL (l.map (isV v)) := by
  unfold cntTo
  rw [List.take_length]
  induction l with
  | nil => rfl
  | cons a r ih =>
    rw [List.map_cons, sumL_cons, ← ih, List.filter_cons]
    unfold isV
    by_cases e : a = v
    · simp [e]
      omega
    · simp [e]
theorem pic_cnt {w h : Int} {l : List Int} (v : Int) (hp : picB w h l 255 = true) : Ev (fun k => impl_CountInk.f k w h l v) (sumL (l.map (isV v))) := by
  have hs := pic_small hp
  unfold impl_CountInk.f
  rw [impl_IsPicture.eq]
  simp only [Option.bind_some]
  refine Ev_pos hp ?_
  rw [← cnt_sum]
  have key : ∀ d i : Nat, i + d = l.length → Ev (fun k => impl_CountInk.l0 k v (cntTo l v i) l (l.length : Int) (i : Int)) (cntTo l v l.length) := by
    intro d
    induction d with
    | zero =>
      intro i hi
      obtain rfl : i = l.length := by omega
      refine Ev.step (f := fun _ => some (cntTo l v l.length)) (fun k => ?_) (Ev.now _)
      simp only [impl_CountInk.l0]
      rw [if_neg (by omega)]
    | succ d ih =>
      intro i hi
      have hb := cntTo_le l v i
      have hs := cntTo_succ l v i (by omega)
      refine Ev.step (fun k => ?_) (ih (i + 1) (by omega))
      simp only [impl_CountInk.l0]
      unfold impl_one.f
      rw [if_pos (by omega), if_pos (by omega), if_pos (by omega), rd_nat, wsucc i (by omega), hs]
      by_cases e : l.getD i 0 = v
      · rw [if_pos e, if_pos (beq_iff_eq.2 e), Option.bind_some, wid (cntTo l v i + 1) (by omega) (by omega)]
      · rw [if_neg e, if_neg (fun q => e (beq_iff_eq.1 q)), Option.bind_some, wid (cntTo l v i + 0) (by omega) (by omega), Int.add_zero]
  exact key l.length 0 (by omega)
/-! Kernels that are drawn, and the shares of an error. -/
theorem kern_one (b : Int) (h0 : 0 ≤ b) (h1 : b < 9) : kernB [(⟨0, 1, 1 + b⟩ : S68)] = true := by
  unfold kernB kernFrom
  rw [Bool.and_eq_true, List.all_eq_true]
  refine ⟨decide_eq_true ⟨by simp, by simp⟩, fun i hi => ?_⟩
  obtain rfl : i = 0 := by
    have := (List.mem_range'.1 hi)
    obtain ⟨j, hj, rfl⟩ := this
    simp at hj
    omega
  unfold kernAt
  rw [Bool.and_eq_true]
  refine ⟨decide_eq_true ?_, rfl⟩
  show -4 ≤ (0 : Int) ∧ (0 : Int) ≤ 4 ∧ 0 ≤ (1 : Int) ∧ (1 : Int) ≤ 4 ∧ ¬ ((1 : Int) = 0 ∧ (0 : Int) < 1) ∧ 1 ≤ 1 + b ∧ 1 + b ≤ 100
  omega
theorem MakeKernel_ok (s : List Int) (hl : s.length ≤ maxLen) : ∃ K : List S68, kernB K = true ∧ Ev (fun k => spec_MakeKernel.f k s) K := by
  obtain ⟨b, hb⟩ := new_ok s hl
  suffices h : ∃ (K : List S68) (a2 b2 : Int), kernB K = true ∧ Ev (fun k => spec_l4Draw.f k s 0 b) (K, a2, b2) by
    obtain ⟨K, a2, b2, h1, h2⟩ := h
    refine ⟨K, h1, ?_⟩
    unfold spec_MakeKernel.f
    exact Ev.bind hb (Ev.bind h2 (Ev.now _))
  obtain ⟨q, a2, b2, e1, q0, q1, ha2⟩ := below_ok s 0 b 4 (by omega) hl (by omega) (by omega)
  unfold spec_l4Draw.f
  simp only [e1, Option.bind_some]
  by_cases c0 : q = 0
  · exact ⟨_, _, _, by decide, Ev_pos c0 (Ev.now _)⟩
  by_cases c1 : q = 1
  · exact ⟨_, _, _, by decide, Ev_neg c0 (Ev_pos c1 (Ev.now _))⟩
  by_cases c2 : q = 2
  · exact ⟨_, _, _, by decide, Ev_neg c0 (Ev_neg c1 (Ev_pos c2 (Ev.now _)))⟩
  obtain ⟨v, a3, b3, e2, v0, v1, ha3⟩ := below_ok s a2 b2 9 ha2 hl (by omega) (by omega)
  obtain ⟨n, a4, b4, e3, n0, n1, ha4⟩ := below_ok s a3 b3 4 ha3 hl (by omega) (by omega)
  have key : ∀ (d : Nat) (n : Int) (K : List S68) (a b : Int), n ≤ d → 0 ≤ n ∧ n ≤ 100 → kernB K = true → 0 ≤ a → ∃ (K2 : List S68) (a2 b2 : Int), kernB K2 = true ∧ Ev (fun k => spec_l4Draw.l0 k K n s a b) (K2, a2, b2) := by
    intro d
    induction d with
    | zero =>
      intro n K a b hn _ hK ha
      exact ⟨K, a, b, hK, Ev.step (fun k => by rw [spec_l4Draw.l0]) (Ev_neg (by omega) (Ev.now _))⟩
    | succ d ih =>
      intro n K a b hn hn0 hK ha
      by_cases c : n > 0
      · obtain ⟨x, a2, b2, e1, x0, x1, ha2⟩ := below_ok s a b 9 ha hl (by omega) (by omega)
        obtain ⟨y, a3, b3, e2, y0, y1, ha3⟩ := below_ok s a2 b2 5 ha2 hl (by omega) (by omega)
        obtain ⟨z, a4, b4, e3, z0, z1, ha4⟩ := below_ok s a3 b3 30 ha3 hl (by omega) (by omega)
        have hk := kern_len hK
        have start : ∀ r : (List S68) × Int × Int, Ev (fun k => (spec_IsKernel.f k (K ++ [⟨wrap64 (x - 4), y, wrap64 (1 + z)⟩])).bind fun t => (if t = true then (spec_l4Draw.l0 k (K ++ [⟨wrap64 (x - 4), y, wrap64 (1 + z)⟩]) (wrap64 (n - 1)) s a4 b4) else (spec_l4Draw.l0 k K (wrap64 (n - 1)) s a4 b4))) r → Ev (fun k => spec_l4Draw.l0 k K n s a b) r := by
          intro r h
          refine Ev.step (fun k => by rw [spec_l4Draw.l0]) (Ev_pos c ?_)
          simp only [e1, e2, e3, Option.bind_some, List.nil_append]
          refine Ev_pos (by simp; omega) (Ev_pos (by simp; omega) h)
        rw [wid (n - 1) (by omega) (by omega)] at start
        have he := specIsKernel_ev (K ++ [⟨wrap64 (x - 4), y, wrap64 (1 + z)⟩]) (by rw [List.length_append]; simp; omega)
        by_cases hc : kernB (K ++ [⟨wrap64 (x - 4), y, wrap64 (1 + z)⟩]) = true
        · obtain ⟨K2, a5, b5, g1, g2⟩ := ih (n - 1) (K ++ [⟨wrap64 (x - 4), y, wrap64 (1 + z)⟩]) a4 b4 (by omega) (by omega) hc ha4
          exact ⟨K2, a5, b5, g1, start _ (Ev.bind he (Ev_pos hc g2))⟩
        · obtain ⟨K2, a5, b5, g1, g2⟩ := ih (n - 1) K a4 b4 (by omega) (by omega) hK ha4
          exact ⟨K2, a5, b5, g1, start _ (Ev.bind he (Ev_neg hc g2))⟩
      · exact ⟨K, a, b, hK, Ev.step (fun k => by rw [spec_l4Draw.l0]) (Ev_neg c (Ev.now _))⟩
  obtain ⟨K2, a5, b5, g1, g2⟩ := key 4 n [⟨0, 1, 1 + v⟩] a4 b4 (by omega) ⟨n0, by omega⟩ (kern_one v v0 v1) ha4
  refine ⟨K2, a5, b5, g1, Ev_neg c0 (Ev_neg c1 (Ev_neg c2 ?_))⟩
  simp only [e2, e3, Option.bind_some]
  rw [wid (1 + v) (by omega) (by omega)]
  exact g2
theorem mod_ev (x w : Int) (hw : 0 < w) (h0 : -9000000000000000000 ≤ x) (h1 : x ≤ 9000000000000000000) (hw2 : w ≤ 1000000000000) : impl_mod.f x w = some (x % w) := by
  have b0 := Int.emod_nonneg x (b := w) (by omega)
  have b1 := Int.emod_lt_of_pos x hw
  unfold impl_mod.f
  rw [if_neg (by omega)]
  by_cases hx : 0 ≤ x
  · rw [Int.tmod_eq_emod_of_nonneg hx, if_neg (by omega)]
  · have e : Int.tmod x w = -((-x) % w) := by
      rw [← Int.tmod_eq_emod_of_nonneg (by omega : 0 ≤ -x), Int.neg_tmod, Int.neg_neg]
    have c0 := Int.emod_nonneg (-x) (b := w) (by omega)
    have c1 := Int.emod_lt_of_pos (-x) hw
    rw [e]
    have d1 := Int.mul_ediv_add_emod x w
    have d2 := Int.mul_ediv_add_emod (-x) w
    by_cases hz : (-x) % w = 0
    · rw [hz, if_neg (by omega)]
      have : x % w = 0 := Int.emod_eq_zero_of_dvd ((Int.dvd_neg.1 (Int.dvd_of_emod_eq_zero hz)))
      rw [this]
      rfl
    · rw [if_pos (by omega), wid _ (by omega) (by omega)]
      congr 1
      have e3 : w * (x / w) + w * (-x / w) = w * (x / w + -x / w) := (Int.mul_add _ _ _).symm
      have k1 : x / w + -x / w < 0 := by
        by_cases k : 0 ≤ x / w + -x / w
        · have := Int.mul_nonneg (by omega : 0 ≤ w) k
          omega
        · omega
      have k2 : -2 < x / w + -x / w := by
        by_cases k : x / w + -x / w ≤ -2
        · have := Int.mul_le_mul_of_nonneg_left k (by omega : 0 ≤ w)
          omega
        · omega
      rw [show x / w + -x / w = -1 by omega] at e3
      omega
theorem down_ev (x w : Int) (hw : 0 < w) (h0 : -1000000000000 ≤ x) (h1 : x ≤ 1000000000000) (hw2 : w ≤ 1000000000000) : impl_down.f x w = some (x / w) := by
  have b0 := Int.emod_nonneg x (b := w) (by omega)
  have b1 := Int.emod_lt_of_pos x hw
  unfold impl_down.f
  rw [mod_ev x w hw (by omega) (by omega) hw2, Option.bind_some, if_neg (by omega), wid (x - x % w) (by omega) (by omega)]
  have d1 := Int.mul_ediv_add_emod x w
  have e : x - x % w = w * (x / w) := by omega
  rw [e, Int.mul_tdiv_cancel_left _ (by omega)]
  have q0 : x / w ≤ 1000000000000 := Int.ediv_le_of_le_mul hw (by
    have : 1000000000000 * 1 ≤ 1000000000000 * w := Int.mul_le_mul_of_nonneg_left (by omega) (by omega)
    omega)
  have q1 : -1000000000000 ≤ x / w := Int.le_ediv_of_mul_le hw (by
    have : 1000000000000 * 1 ≤ 1000000000000 * w := Int.mul_le_mul_of_nonneg_left (by omega) (by omega)
    rw [Int.neg_mul]
    omega)
  rw [wid _ (by omega) (by omega)]
def floP (a w : Int) (p : S68) : Int := a * p.f2 / w
def modP (a w : Int) (p : S68) : Int := a * p.f2 % w
theorem part_f2 {K : List S68} (h : kernB K = true) {p : S68} (hp : p ∈ K) : 1 ≤ p.f2 ∧ p.f2 ≤ 100 := by
  obtain ⟨i, hi, rfl⟩ := List.getElem_of_mem hp
  obtain ⟨_, _, _, _, _, q1, q2⟩ := of_decide_eq_true (kern_ok h i hi)
  rw [rdP_nat K i hi] at q1 q2
  exact ⟨q1, q2⟩
theorem wt_mem {K : List S68} (h : ∀ p ∈ K, 1 ≤ p.f2 ∧ p.f2 ≤ 100) : 0 ≤ sumL (K.map (·.f2)) ∧ ∀ p ∈ K, p.f2 ≤ sumL (K.map (·.f2)) := by
  induction K with
  | nil => exact ⟨by simp [sumL], fun p hp => by cases hp⟩
  | cons a r ih =>
    have ih := ih (fun p hp => h p (List.mem_cons_of_mem _ hp))
    have ha := h a List.mem_cons_self
    rw [List.map_cons, sumL_cons]
    refine ⟨by omega, fun p hp => ?_⟩
    rcases List.mem_cons.1 hp with rfl | hp
    · omega
    · have := ih.2 p hp
      omega
theorem wtTo_all (K : List S68) : wtTo K K.length = sumL (K.map (·.f2)) := by
  unfold wtTo
  rw [List.take_length]
theorem flo_bd {a w f : Int} (ha : -1000000 ≤ a) (hb : a ≤ 1000000) (h0 : 1 ≤ f) (h1 : f ≤ w) : -1000000 ≤ a * f / w ∧ a * f / w ≤ 1000000 ∧ -1000000 * f ≤ a * f ∧ a * f ≤ 1000000 * f := by
  have e0 : -1000000 * f ≤ a * f := Int.mul_le_mul_of_nonneg_right ha (by omega)
  have e1 : a * f ≤ 1000000 * f := Int.mul_le_mul_of_nonneg_right hb (by omega)
  have e2 : 1000000 * f ≤ 1000000 * w := by omega
  refine ⟨Int.le_ediv_of_mul_le (by omega) (by omega), Int.ediv_le_of_le_mul (by omega) (by omega), e0, e1⟩
def restL (a w : Int) (K : List S68) : Int := a - sumL (K.map (floP a w))
def shareL (a w : Int) (K : List S68) : List Int := (K.map (floP a w)).set 0 (rd (K.map (floP a w)) 0 + restL a w K)
theorem shareL_len (a w : Int) (K : List S68) : (shareL a w K).length = K.length := by unfold shareL; rw [List.length_set, List.length_map]
/-- What is left over: the sum of the remainders, in wholes. -/
theorem rest_mul {K : List S68} (a w : Int) : w * sumL (K.map (floP a w)) + sumL (K.map (modP a w)) = a * sumL (K.map (·.f2)) := by
  induction K with
  | nil => simp [sumL]
  | cons p r ih =>
    simp only [List.map_cons, sumL_cons, Int.mul_add]
    have : w * floP a w p + modP a w p = a * p.f2 := Int.mul_ediv_add_emod _ _
    omega
theorem rest_bd {K : List S68} (a w : Int) (hw : 0 < w) : 0 ≤ sumL (K.map (modP a w)) ∧ sumL (K.map (modP a w)) ≤ (w - 1) * K.length := by
  have := sumL_bd (K.map (modP a w)) 0 (w - 1) (by omega) (by omega) (fun x hx => by
    obtain ⟨p, _, rfl⟩ := List.mem_map.1 hx
    have b0 := Int.emod_nonneg (a * p.f2) (b := w) (by omega)
    have b1 := Int.emod_lt_of_pos (a * p.f2) hw
    unfold modP
    omega)
  rw [List.length_map] at this
  omega
theorem flo_sum_bd {K : List S68} (h : kernB K = true) (a : Int) (ha : -1000000 ≤ a) (hb : a ≤ 1000000) (i : Nat) (hi : i ≤ K.length) : -12000000 ≤ sumL ((K.take i).map (floP a (wtTo K K.length))) ∧ sumL ((K.take i).map (floP a (wtTo K K.length))) ≤ 12000000 := by
  have hk := kern_len h
  have hw := (wt_mem (fun p hp => part_f2 h hp)).2
  have := sumL_bd ((K.take i).map (floP a (wtTo K K.length))) (-1000000) 1000000 (by omega) (by omega) (fun x hx => by
    obtain ⟨p, hp, rfl⟩ := List.mem_map.1 hx
    have hp := List.mem_of_mem_take hp
    have := flo_bd ha hb (part_f2 h hp).1 (hw p hp)
    rw [wtTo_all]
    exact ⟨this.1, this.2.1⟩)
  rw [List.length_map, List.length_take] at this
  omega
theorem rest_small {K : List S68} (h : kernB K = true) (a : Int) : 0 ≤ restL a (wtTo K K.length) K ∧ restL a (wtTo K K.length) K ≤ 12 ∧ wtTo K K.length * restL a (wtTo K K.length) K = sumL (K.map (modP a (wtTo K K.length))) := by
  have hk := kern_len h
  have hw := wtTo_bd h K.length (Nat.le_refl _)
  have e := rest_mul (K := K) a (wtTo K K.length)
  have b := rest_bd (K := K) a (wtTo K K.length) (by omega)
  rw [← wtTo_all] at e
  have m : wtTo K K.length * restL a (wtTo K K.length) K = sumL (K.map (modP a (wtTo K K.length))) := by
    unfold restL
    rw [Int.mul_sub, Int.mul_comm _ a]
    omega
  have l1 : (wtTo K K.length - 1) * (K.length : Int) ≤ (wtTo K K.length - 1) * 12 := Int.mul_le_mul_of_nonneg_left (by omega) (by omega)
  refine ⟨?_, ?_, m⟩
  · by_cases c : 0 ≤ restL a (wtTo K K.length) K
    · exact c
    · have := Int.mul_le_mul_of_nonneg_left (by omega : restL a (wtTo K K.length) K ≤ -1) (by omega : 0 ≤ wtTo K K.length)
      omega
  · by_cases c : restL a (wtTo K K.length) K ≤ 12
    · exact c
    · have := Int.mul_le_mul_of_nonneg_left (by omega : 13 ≤ restL a (wtTo K K.length) K) (by omega : 0 ≤ wtTo K K.length)
      omega
theorem shares_ev {K : List S68} (h : kernB K = true) (a : Int) (ha : -1000000 ≤ a) (hb : a ≤ 1000000) : Ev (fun k => impl_shares.f k K a) (shareL a (wtTo K K.length) K) := by
  have hk := kern_len h
  have hw := wtTo_bd h K.length (Nat.le_refl _)
  have hwm := (wt_mem (fun p hp => part_f2 h hp)).2
  have key : ∀ d i : Nat, i + d = K.length → Ev (fun k => impl_shares.l0 k a (wtTo K K.length) ((K.take i).map (floP a (wtTo K K.length))) (a - sumL ((K.take i).map (floP a (wtTo K K.length)))) K (K.length : Int) (i : Int)) (shareL a (wtTo K K.length) K) := by
    intro d
    induction d with
    | zero =>
      intro i hi
      obtain rfl : i = K.length := by omega
      have r := rest_small h a
      have f0 := flo_bd ha hb (part_f2 h (List.getElem_mem (l := K) (n := 0) (by omega))).1 (hwm _ (List.getElem_mem (l := K) (n := 0) (by omega)))
      have e0 : rd (K.map (floP a (wtTo K K.length))) 0 = floP a (wtTo K K.length) K[0] := by
        show (K.map (floP a (wtTo K K.length))).getD 0 0 = _
        rw [getD_of_lt _ 0 0 (by rw [List.length_map]; omega), List.getElem_map]
      rw [← wtTo_all] at f0
      refine Ev.step (fun k => by rw [impl_shares.l0]) (Ev_neg (by omega) ?_)
      rw [List.take_length]
      refine Ev_pos (by rw [List.length_map]; omega) ?_
      show Ev (fun _ => some ((K.map (floP a (wtTo K K.length))).set (0 : Int).toNat (wrap64 (rd (K.map (floP a (wtTo K K.length))) 0 + restL a (wtTo K K.length) K)))) _
      have : -1000000 ≤ floP a (wtTo K K.length) K[0] ∧ floP a (wtTo K K.length) K[0] ≤ 1000000 := ⟨f0.1, f0.2.1⟩
      rw [wid (rd (K.map (floP a (wtTo K K.length))) 0 + restL a (wtTo K K.length) K) (by omega) (by omega)]
      exact Ev.now _
    | succ d ih =>
      intro i hi
      have hm : K[i] ∈ K := List.getElem_mem (by omega)
      have f0 := flo_bd ha hb (part_f2 h hm).1 (hwm _ hm)
      rw [← wtTo_all] at f0
      have pf := part_f2 h hm
      have s0 := flo_sum_bd h a ha hb i (by omega)
      have s1 := flo_sum_bd h a ha hb (i + 1) (by omega)
      have st : sumL ((K.take (i + 1)).map (floP a (wtTo K K.length))) = sumL ((K.take i).map (floP a (wtTo K K.length))) + a * K[i].f2 / wtTo K K.length := by
        rw [List.take_succ_eq_append_getElem (by omega), List.map_append, sumL_append, List.map_cons, List.map_nil, sumL_one]
        rfl
      refine Ev.step (fun k => ?_) (ih (i + 1) (by omega))
      have hlen : ((K.take i).map (floP a (wtTo K K.length))).length = i := by rw [List.length_map, List.length_take]; omega
      simp only [impl_shares.l0]
      rw [if_pos (by omega), if_pos (by omega), if_pos (by omega), rdP_nat K i (by omega), wid (a * K[i].f2) (by omega) (by omega), down_ev (a * K[i].f2) (wtTo K K.length) (by omega) (by omega) (by omega) (by omega), Option.bind_some, if_pos (by omega), wsucc i (by omega), wid (a - sumL ((K.take i).map (floP a (wtTo K K.length))) - a * K[i].f2 / wtTo K K.length) (by omega) (by omega), st]
      rw [List.take_succ_eq_append_getElem (by omega), List.map_append, Int.sub_sub]
      rfl
  unfold impl_shares.f impl_weight.f
  refine Ev.bind (impl_weight_ev K h) ?_
  have := key K.length 0 (by omega)
  simpa [sumL] using this
theorem share_at {K : List S68} (a w : Int) (i : Nat) (hi : i < K.length) : rd (shareL a w K) (i : Int) = if i = 0 then floP a w K[i] + restL a w K else floP a w K[i] := by
  unfold shareL
  rw [rd_nat, getD_set _ _ _ _ (by rw [List.length_map]; omega)]
  by_cases c : i = 0
  · subst c
    rw [if_pos rfl, if_pos rfl]
    show (K.map (floP a w)).getD 0 0 + _ = _
    rw [getD_of_lt _ 0 0 (by rw [List.length_map]; omega), List.getElem_map]
  · rw [if_neg c, if_neg c, getD_of_lt _ 0 i (by rw [List.length_map]; omega), List.getElem_map]
/-! Sums round about. -/
theorem Ev_eq {α : Type} {x : Option α} {a : α} (h : x = some a) : Ev (fun _ => x) a := ⟨0, fun _ _ => h⟩
theorem tab_const (n : Nat) (v : Int) (f : Nat → Int) (h : ∀ i, i < n → f i = v) : (List.range n).map f = List.replicate n v := by
  rw [tab_congr n f (fun _ => v) h]
  simp [List.map_const']
/-! Diffusion, cell by cell. -/
def dfS (w h way x y : Int) (K : List S68) (S : List Int) (q : Nat) (s : List Int × Int) : List Int × Int :=
  if x + way * (rd_T68 K (q : Int)).f0 < 0 ∨ w ≤ x + way * (rd_T68 K (q : Int)).f0 ∨ h ≤ y + (rd_T68 K (q : Int)).f1 then (s.1, s.2 + rd S (q : Int))
  else (s.1.set ((y + (rd_T68 K (q : Int)).f1) * w + (x + way * (rd_T68 K (q : Int)).f0)).toNat (rd s.1 ((y + (rd_T68 K (q : Int)).f1) * w + (x + way * (rd_T68 K (q : Int)).f0)) + rd S (q : Int)), s.2)
def dfT (w h way x y : Int) (K : List S68) (S : List Int) : Nat → Nat → List Int × Int → List Int × Int
  | 0, _, s => s
  | d + 1, q, s => dfT w h way x y K S d (q + 1) (dfS w h way x y K S q s)
def dfB (c : Int) (n : Nat) (s : List Int × Int) : Prop := s.1.length = n ∧ (∀ v ∈ s.1, -c ≤ v ∧ v ≤ c) ∧ -c ≤ s.2 ∧ s.2 ≤ c
theorem rd_bd {l : List Int} {c : Int} (hc : 0 ≤ c) (h : ∀ v ∈ l, -c ≤ v ∧ v ≤ c) (i : Int) : -c ≤ rd l i ∧ rd l i ≤ c := by
  unfold rd
  by_cases hi : i.toNat < l.length
  · exact h _ (getD_mem l _ hi)
  · rw [List.getD_eq_getElem?_getD, List.getElem?_eq_none (by omega)]
    exact ⟨by simpa using hc, by simpa using hc⟩
theorem dfS_bd {w h way x y c M : Int} {K : List S68} {S : List Int} {q n : Nat} {s : List Int × Int} (hc : 0 ≤ c) (hM : 0 ≤ M) (hb : dfB c n s) (hS : -M ≤ rd S (q : Int) ∧ rd S (q : Int) ≤ M) : dfB (c + M) n (dfS w h way x y K S q s) := by
  obtain ⟨b0, b1, b2, b3⟩ := hb
  unfold dfS
  split
  · exact ⟨b0, fun v hv => by have := b1 v hv; omega, by show -(c + M) ≤ s.2 + _; omega, by show s.2 + _ ≤ c + M; omega⟩
  · refine ⟨by rw [List.length_set]; exact b0, fun v hv => ?_, by show -(c + M) ≤ s.2; omega, by show s.2 ≤ c + M; omega⟩
    have r := rd_bd hc b1 ((y + (rd_T68 K (q : Int)).f1) * w + (x + way * (rd_T68 K (q : Int)).f0))
    rcases List.mem_or_eq_of_mem_set hv with e | e
    · have := b1 v e
      omega
    · omega
theorem dif_l2 {w h way x y : Int} {K : List S68} (hK : kernB K = true) (hx0 : 0 ≤ x) (hx1 : x < w) (hy0 : 0 ≤ y) (hy1 : y < h) (hw : w ≤ 64) (hh : h ≤ 64) (hway : way = 1 ∨ way = -1) (S : List Int) (hSl : S.length = K.length) (hS : ∀ q : Nat, -2000000 ≤ rd S (q : Int) ∧ rd S (q : Int) ≤ 2000000) (both : Bool) (E p D : List Int) (a1 a2 a3 a4 dw dh : Int) (n : Nat) (hn : (n : Int) = w * h) (R : Int × Int × List Int × List Int × Int) :
    ∀ (d q : Nat) (V : List Int) (L : Int), q + d = K.length → dfB (1000000000000 + 2000000 * (q : Int)) n (V, L) → Ev (fun k => impl_diffused.l1 k K both (dfT w h way x y K S d q (V, L)).1 E (dfT w h way x y K S d q (V, L)).2 y way a1 a2 a3 (wrap64 (a4 + 1)) w h p dw dh D) R → Ev (fun k => impl_diffused.l2 k K both V E L y way x a1 a2 a3 a4 S (S.length : Int) (q : Int) w h p dw dh D) R := by
  intro d
  have kl := kern_len hK
  induction d with
  | zero =>
    intro q V L hq hb hev
    exact Ev.step (fun k => impl_diffused.l2.eq_2 ..) (Ev_neg (by omega) hev)
  | succ d ih =>
    intro q V L hq hb hev
    have hb' := dfS_bd (w := w) (h := h) (way := way) (x := x) (y := y) (K := K) (S := S) (q := q) (by omega) (by omega) hb (hS q)
    have nx := ih (q + 1) (dfS w h way x y K S q (V, L)).1 (dfS w h way x y K S q (V, L)).2 (by omega) (by
      have e : (1000000000000 : Int) + 2000000 * (q : Int) + 2000000 = 1000000000000 + 2000000 * ((q + 1 : Nat) : Int) := by omega
      rw [e] at hb'
      exact hb') hev
    obtain ⟨b0, b1, b2, b3⟩ := hb
    dsimp only at b0 b1 b2 b3
    have sq := hS q
    have ok := of_decide_eq_true (kern_ok hK q (by omega))
    rw [← wsucc q (by omega)] at nx
    refine Ev.step (fun k => impl_diffused.l2.eq_2 ..) (Ev_pos (by omega) (Ev_pos (by omega) (Ev_pos (by omega) (Ev_pos (by omega) ?_))))
    have hwf : way * (rd_T68 K (q : Int)).f0 = (rd_T68 K (q : Int)).f0 ∨ way * (rd_T68 K (q : Int)).f0 = -(rd_T68 K (q : Int)).f0 := by
      rcases hway with rfl | rfl
      · left; omega
      · right; omega
    unfold dfS at nx
    rw [wid (way * (rd_T68 K (q : Int)).f0) (by omega) (by omega), wid (x + way * (rd_T68 K (q : Int)).f0) (by omega) (by omega), wid (y + (rd_T68 K (q : Int)).f1) (by omega) (by omega), wid (L + rd S (q : Int)) (by omega) (by omega)]
    generalize hU : x + way * (rd_T68 K (q : Int)).f0 = U at nx ⊢
    generalize hT : y + (rd_T68 K (q : Int)).f1 = T at nx ⊢
    by_cases c1 : U < 0
    · rw [if_pos (Or.inl c1)] at nx
      exact Ev_pos c1 nx
    · refine Ev_neg c1 ?_
      by_cases c2 : w ≤ U
      · rw [if_pos (Or.inr (Or.inl c2))] at nx
        exact Ev_pos c2 nx
      · refine Ev_neg (by omega) ?_
        by_cases c3 : h ≤ T
        · rw [if_pos (Or.inr (Or.inr c3))] at nx
          exact Ev_pos c3 nx
        · refine Ev_neg (by omega) ?_
          rw [if_neg (by omega)] at nx
          have ix := idx_lt (w := w) (h := h) (x := U) (y := T) (by omega) (by omega) (by omega) (by omega)
          have m0 : 0 ≤ T * w := Int.mul_nonneg (by omega) (by omega)
          have m1 : w * h ≤ 64 * 64 := Int.le_trans (Int.mul_le_mul_of_nonneg_right hw (by omega)) (Int.mul_le_mul_of_nonneg_left hh (by omega))
          have r := rd_bd (by omega) b1 (T * w + U)
          rw [wid (T * w) (by omega) (by omega), wid (T * w + U) (by omega) (by omega), wid (rd V (T * w + U) + rd S (q : Int)) (by omega) (by omega)]
          exact Ev_pos (by omega) (Ev_pos (by omega) nx)
/-- The values, the errors, the dots and what is lost, behind one more cell. -/
def dfC (w h way x y : Int) (K : List S68) (st : List Int × List Int × List Int × Int) : List Int × List Int × List Int × Int :=
  ((dfT w h way x y K (shareL (if rd st.1 (y * w + x) ≥ 128 then rd st.1 (y * w + x) - 255 else rd st.1 (y * w + x)) (wtTo K K.length) K) K.length 0 (st.1, st.2.2.2)).1,
   st.2.1.set (y * w + x).toNat (if rd st.1 (y * w + x) ≥ 128 then rd st.1 (y * w + x) - 255 else rd st.1 (y * w + x)),
   (if rd st.1 (y * w + x) ≥ 128 then st.2.2.1.set (y * w + x).toNat 1 else st.2.2.1),
   (dfT w h way x y K (shareL (if rd st.1 (y * w + x) ≥ 128 then rd st.1 (y * w + x) - 255 else rd st.1 (y * w + x)) (wtTo K K.length) K) K.length 0 (st.1, st.2.2.2)).2)
def wayN (both : Bool) (y : Nat) : Int := if both = true ∧ y % 2 = 1 then -1 else 1
def colN (both : Bool) (w : Int) (y c : Nat) : Int := if both = true ∧ y % 2 = 1 then w - 1 - (c : Int) else (c : Int)
def dfGood (w : Int) (n : Nat) (i : Int) (st : List Int × List Int × List Int × Int) : Prop := dfB 1000000000000 n (st.1, st.2.2.2) ∧ st.2.1.length = n ∧ st.2.2.1.length = n ∧ -1000000 ≤ (if rd st.1 i ≥ 128 then rd st.1 i - 255 else rd st.1 i) ∧ (if rd st.1 i ≥ 128 then rd st.1 i - 255 else rd st.1 i) ≤ 1000000
theorem share_bd {K : List S68} (hK : kernB K = true) (e : Int) (e0 : -1000000 ≤ e) (e1 : e ≤ 1000000) (q : Nat) : -2000000 ≤ rd (shareL e (wtTo K K.length) K) (q : Int) ∧ rd (shareL e (wtTo K K.length) K) (q : Int) ≤ 2000000 := by
  by_cases hq : q < K.length
  · rw [share_at _ _ q hq]
    have hwm := (wt_mem (fun p hp => part_f2 hK hp)).2 _ (List.getElem_mem hq)
    have f := flo_bd (a := e) e0 e1 (part_f2 hK (List.getElem_mem hq)).1 hwm
    rw [← wtTo_all] at f
    have f1 : -1000000 ≤ floP e (wtTo K K.length) K[q] ∧ floP e (wtTo K K.length) K[q] ≤ 1000000 := ⟨f.1, f.2.1⟩
    have r := rest_small hK e
    split <;> omega
  · rw [rd_nat, List.getD_eq_getElem?_getD, List.getElem?_eq_none (by rw [shareL_len]; omega)]
    simp
theorem dif_cell {w h : Int} {K : List S68} (hK : kernB K = true) (hw0 : 1 ≤ w) (hw : w ≤ 64) (hh0 : 1 ≤ h) (hh : h ≤ 64) (both : Bool) (p : List Int) (dw dh : Int) (n : Nat) (hn : (n : Int) = w * h) (R : Int × Int × List Int × List Int × Int) (y c : Nat) (hy : (y : Int) < h) (hc : (c : Int) < w) (st : List Int × List Int × List Int × Int) (hg : dfGood w n ((y : Int) * w + colN both w y c) st)
    (nx : Ev (fun k => impl_diffused.l1 k K both (dfC w h (wayN both y) (colN both w y c) y K st).1 (dfC w h (wayN both y) (colN both w y c) y K st).2.1 (dfC w h (wayN both y) (colN both w y c) y K st).2.2.2 (y : Int) (wayN both y) h (y : Int) w (wrap64 ((c : Int) + 1)) w h p dw dh (dfC w h (wayN both y) (colN both w y c) y K st).2.2.1) R) :
    Ev (fun k => impl_diffused.l1 k K both st.1 st.2.1 st.2.2.2 (y : Int) (wayN both y) h (y : Int) w (c : Int) w h p dw dh st.2.2.1) R := by
  have hx : 0 ≤ colN both w y c ∧ colN both w y c < w := by
    unfold colN
    split <;> omega
  have hway : wayN both y = 1 ∨ wayN both y = -1 := by
    unfold wayN
    split
    · exact Or.inr rfl
    · exact Or.inl rfl
  obtain ⟨gB, gE, gD, ge0, ge1⟩ := hg
  have ix := idx_lt (w := w) (h := h) (x := colN both w y c) (y := (y : Int)) hx.1 hx.2 (by omega) hy
  have m0 : 0 ≤ (y : Int) * w := Int.mul_nonneg (by omega) (by omega)
  have m1 : w * h ≤ 64 * 64 := Int.le_trans (Int.mul_le_mul_of_nonneg_right hw (by omega)) (Int.mul_le_mul_of_nonneg_left hh (by omega))
  have gl := gB.1
  dsimp only at gl
  have rb := rd_bd (by omega) gB.2.1 ((y : Int) * w + colN both w y c)
  dsimp only at rb
  have j5 : ∀ D' : List Int, D' = (dfC w h (wayN both y) (colN both w y c) y K st).2.2.1 → Ev (fun k => impl_diffused.j5 k K both st.1 st.2.1 st.2.2.2 (y : Int) (wayN both y) (colN both w y c) ((y : Int) * w + colN both w y c) (if rd st.1 ((y : Int) * w + colN both w y c) ≥ 128 then rd st.1 ((y : Int) * w + colN both w y c) - 255 else rd st.1 ((y : Int) * w + colN both w y c)) h (y : Int) w (c : Int) w h p dw dh D') R := by
    intro D' hD'
    subst hD'
    refine Ev.step (fun k => impl_diffused.j5.eq_2 ..) (Ev_pos (by omega) (Ev_pos (by omega) (Ev.bind (shares_ev hK _ ge0 ge1) ?_)))
    refine dif_l2 hK hx.1 hx.2 (by omega) hy hw hh hway _ (shareL_len _ _ _) (share_bd hK _ ge0 ge1) both _ p _ h (y : Int) w (c : Int) dw dh n hn R K.length 0 _ _ (by omega) ?_ ?_
    · show dfB (1000000000000 + 2000000 * ((0 : Nat) : Int)) n (st.1, st.2.2.2)
      rw [show (1000000000000 : Int) + 2000000 * ((0 : Nat) : Int) = 1000000000000 by omega]
      exact gB
    · exact nx
  have j4 : Ev (fun k => impl_diffused.j4 k K both st.1 st.2.1 st.2.2.2 (y : Int) (wayN both y) (colN both w y c) h (y : Int) w (c : Int) w h p dw dh st.2.2.1) R := by
    refine Ev.step (fun k => impl_diffused.j4.eq_2 ..) ?_
    rw [wid ((y : Int) * w) (by omega) (by omega), wid ((y : Int) * w + colN both w y c) (by omega) (by omega)]
    refine Ev_pos (by omega) (Ev_pos (by omega) ?_)
    by_cases cv : rd st.1 ((y : Int) * w + colN both w y c) ≥ 128
    · rw [wid (rd st.1 ((y : Int) * w + colN both w y c) - 255) (by omega) (by omega)]
      have := j5 (st.2.2.1.set ((y : Int) * w + colN both w y c).toNat 1) (if_pos cv).symm
      rw [if_pos cv] at this
      exact Ev_pos cv (Ev_pos (by omega) this)
    · have := j5 st.2.2.1 (if_neg cv).symm
      rw [if_neg cv] at this
      exact Ev_neg cv this
  refine Ev.step (fun k => impl_diffused.l1.eq_2 ..) (Ev_pos hc ?_)
  by_cases cb : both = true ∧ y % 2 = 1
  · have e1 : wayN both y = -1 := if_pos cb
    have e2 : colN both w y c = w - 1 - (c : Int) := if_pos cb
    refine Ev_pos (by omega) ?_
    rw [wid (w - 1) (by omega) (by omega), wid (w - 1 - (c : Int)) (by omega) (by omega), ← e2]
    exact j4
  · have e1 : wayN both y = 1 := if_neg cb
    have e2 : colN both w y c = (c : Int) := if_neg cb
    refine Ev_neg (by omega) ?_
    rw [e2] at j4
    exact j4
theorem dif_rows {w h : Int} {K : List S68} (hK : kernB K = true) (hw0 : 1 ≤ w) (hw : w ≤ 64) (hh0 : 1 ≤ h) (hh : h ≤ 64) (both : Bool) (p : List Int) (dw dh : Int) (n : Nat) (hn : (n : Int) = w * h) (Inv : Nat → (List Int × List Int × List Int × Int) → Prop)
    (hI : ∀ (y c : Nat) (st : List Int × List Int × List Int × Int), (y : Int) < h → (c : Int) < w → Inv (y * w.toNat + c) st → dfGood w n ((y : Int) * w + colN both w y c) st ∧ Inv (y * w.toNat + c + 1) (dfC w h (wayN both y) (colN both w y c) y K st))
    (st0 : List Int × List Int × List Int × Int) (h0 : Inv 0 st0) : ∃ st : List Int × List Int × List Int × Int, Inv (h.toNat * w.toNat) st ∧ Ev (fun k => impl_diffused.l0 k K both st0.1 st0.2.1 st0.2.2.2 h 0 w h p dw dh st0.2.2.1) (dw, dh, st.2.2.1, st.2.1, st.2.2.2) := by
  have outer : ∀ d y : Nat, y + d = h.toNat → ∀ st, Inv (y * w.toNat) st → ∃ st2, Inv (h.toNat * w.toNat) st2 ∧ Ev (fun k => impl_diffused.l0 k K both st.1 st.2.1 st.2.2.2 h (y : Int) w h p dw dh st.2.2.1) (dw, dh, st2.2.2.1, st2.2.1, st2.2.2.2) := by
    intro d
    induction d with
    | zero =>
      intro y hy st hst
      obtain rfl : y = h.toNat := by omega
      exact ⟨st, hst, Ev.step (fun k => impl_diffused.l0.eq_2 ..) (Ev_neg (by omega) (Ev.now _))⟩
    | succ d ih =>
      intro y hy st hst
      have inner : ∀ e c : Nat, c + e = w.toNat → ∀ st, Inv (y * w.toNat + c) st → ∃ st2, Inv (h.toNat * w.toNat) st2 ∧ Ev (fun k => impl_diffused.l1 k K both st.1 st.2.1 st.2.2.2 (y : Int) (wayN both y) h (y : Int) w (c : Int) w h p dw dh st.2.2.1) (dw, dh, st2.2.2.1, st2.2.1, st2.2.2.2) := by
        intro e
        induction e with
        | zero =>
          intro c hc st hst
          obtain rfl : c = w.toNat := by omega
          rw [← Nat.succ_mul] at hst
          obtain ⟨st2, i2, ev⟩ := ih (y + 1) (by omega) st hst
          rw [← wsucc y (by omega)] at ev
          exact ⟨st2, i2, Ev.step (fun k => impl_diffused.l1.eq_2 ..) (Ev_neg (by omega) ev)⟩
        | succ e ih2 =>
          intro c hc st hst
          obtain ⟨hg, hn'⟩ := hI y c st (by omega) (by omega) hst
          obtain ⟨st2, i2, ev⟩ := ih2 (c + 1) (by omega) _ hn'
          rw [← wsucc c (by omega)] at ev
          exact ⟨st2, i2, dif_cell hK hw0 hw hh0 hh both p dw dh n hn _ y c (by omega) (by omega) st hg ev⟩
      obtain ⟨st2, i2, ev⟩ := inner w.toNat 0 (by omega) st hst
      refine ⟨st2, i2, Ev.step (fun k => impl_diffused.l0.eq_2 ..) (Ev_pos (by omega) ?_)⟩
      have j2 : Ev (fun k => impl_diffused.j2 k K both st.1 st.2.1 st.2.2.2 (y : Int) (wayN both y) h (y : Int) w h p dw dh st.2.2.1) (dw, dh, st2.2.2.1, st2.2.1, st2.2.2.2) := Ev.step (fun k => impl_diffused.j2.eq_2 ..) ev
      have et : Int.tmod (y : Int) 2 = (y : Int) % 2 := tmod_nat y 2
      rw [et]
      by_cases cb : both = true
      · refine Ev_pos cb (Ev.step (fun k => impl_diffused.j1.eq_2 ..) ?_)
        by_cases cy : y % 2 = 1
        · have e1 : wayN both y = -1 := if_pos ⟨cb, cy⟩
          rw [e1] at j2
          exact Ev_pos (by rw [beq_iff_eq]; omega) j2
        · have e1 : wayN both y = 1 := if_neg (fun q => cy q.2)
          rw [e1] at j2
          exact Ev_neg (by rw [beq_iff_eq]; omega) j2
      · have e1 : wayN both y = 1 := if_neg (fun q => cb q.1)
        rw [e1] at j2
        exact Ev_neg cb (Ev.step (fun k => impl_diffused.j1.eq_2 ..) (Ev_neg (by simp) j2))
  have := outer h.toNat 0 (by omega) st0 (by rw [Nat.zero_mul]; exact h0)
  exact this
/-! What diffusion tells. -/
theorem rep_zero (w : Int) (n : Nat) : gridL w (fun _ _ => (0 : Int)) n = List.replicate n 0 := by
  rw [gridL_tab]
  exact tab_const n 0 _ (fun _ _ => rfl)
theorem dif_ev {w h : Int} {p : List Int} {K : List S68} (hK : kernB K = true) (hp : picB w h p 255 = true) (both : Bool) (Inv : Nat → (List Int × List Int × List Int × Int) → Prop)
    (hI : ∀ (y c : Nat) (st : List Int × List Int × List Int × Int), (y : Int) < h → (c : Int) < w → Inv (y * w.toNat + c) st → dfGood w p.length ((y : Int) * w + colN both w y c) st ∧ Inv (y * w.toNat + c + 1) (dfC w h (wayN both y) (colN both w y c) y K st))
    (h0 : Inv 0 (p, List.replicate p.length 0, List.replicate p.length 0, 0)) : ∃ st : List Int × List Int × List Int × Int, Inv p.length st ∧ Ev (fun k => impl_diffused.f k K w h p both) (w, h, st.2.2.1, st.2.1, st.2.2.2) := by
  obtain ⟨g0, g1, g2, g3, g4, g5, g6⟩ := pic_spec hp
  have hl := pic_small hp
  have hpl := pic_len hp
  obtain ⟨st, i2, ev⟩ := dif_rows hK g0 g1 g2 g3 both p w h p.length g5 Inv hI _ h0
  rw [hpl] at i2
  refine ⟨st, i2, ?_⟩
  unfold impl_diffused.f
  have ec : impl_copied.f w h p = some (w, h, p) := if_pos (by omega)
  refine Ev.bind (Ev_eq ec) (Ev.bind (Ev_eq (if_pos ⟨by omega, by omega, by omega, by omega, rfl⟩)) (Ev_pos (by omega) (Ev_pos (by omega) ?_)))
  dsimp only
  rw [hpl, rep_zero, Int.toNat_natCast]
  exact ev
theorem set_same (V : List Int) (T : Int) (z : Int) (hz : z = 0) : V.set T.toNat (rd V T + z) = V := by
  subst hz
  apply ext_getD (by rw [List.length_set])
  intro i hi
  rw [List.length_set] at hi
  by_cases c : T.toNat < V.length
  · rw [getD_set _ _ _ _ c]
    by_cases e : i = T.toNat
    · rw [if_pos e, e, Int.add_zero]
      rfl
    · rw [if_neg e]
  · rw [List.set_eq_of_length_le (by omega)]
theorem dfS_zero {w h way x y : Int} {K : List S68} {S : List Int} {q : Nat} (s : List Int × Int) (hS : rd S (q : Int) = 0) : dfS w h way x y K S q s = s := by
  unfold dfS
  split
  · rw [hS, Int.add_zero]
  · rw [set_same _ _ _ hS]
theorem dfT_zero {w h way x y : Int} {K : List S68} {S : List Int} (hS : ∀ q : Nat, rd S (q : Int) = 0) (d : Nat) : ∀ (q : Nat) (s : List Int × Int), dfT w h way x y K S d q s = s := by
  induction d with
  | zero => intro q s; rfl
  | succ d ih =>
    intro q s
    show dfT w h way x y K S d (q + 1) (dfS w h way x y K S q s) = s
    rw [dfS_zero s (hS q), ih]
theorem share_zero (w : Int) (K : List S68) (q : Nat) : rd (shareL 0 w K) (q : Int) = 0 := by
  have hf : ∀ p : S68, floP 0 w p = 0 := fun p => by
    unfold floP
    rw [Int.zero_mul, Int.zero_ediv]
  have hs : sumL (K.map (floP 0 w)) = 0 := by
    have : K.map (floP 0 w) = List.replicate K.length 0 := by
      rw [List.map_congr_left (fun p _ => hf p), List.map_const']
    rw [this, sumL_rep]
    omega
  by_cases hq : q < K.length
  · rw [share_at _ _ q hq, hf]
    unfold restL
    rw [hs]
    split <;> rfl
  · rw [rd_nat, List.getD_eq_getElem?_getD, List.getElem?_eq_none (by rw [shareL_len]; omega)]
    rfl
theorem rd_rep (n : Nat) (a i : Int) (h0 : 0 ≤ i) (h1 : i < (n : Int)) : rd (List.replicate n a) i = a := by
  unfold rd
  rw [getD_of_lt _ 0 _ (by rw [List.length_replicate]; omega), List.getElem_replicate]
theorem col_in {w : Int} (both : Bool) (y c : Nat) (hc : (c : Int) < w) : 0 ≤ colN both w y c ∧ colN both w y c < w := by
  unfold colN
  split <;> omega
theorem col_back {w : Int} (both : Bool) (y : Nat) (x : Int) (h0 : 0 ≤ x) (h1 : x < w) : ∃ c : Nat, (c : Int) < w ∧ colN both w y c = x := by
  by_cases cb : both = true ∧ y % 2 = 1
  · refine ⟨(w - 1 - x).toNat, by omega, ?_⟩
    unfold colN
    rw [if_pos cb]
    omega
  · refine ⟨x.toNat, by omega, ?_⟩
    unfold colN
    rw [if_neg cb]
    omega
theorem cell_ne {w a b : Int} {y y2 : Int} (h0 : 0 < w) (a0 : 0 ≤ a) (a1 : a < w) (b0 : 0 ≤ b) (b1 : b < w) (e : y * w + a = y2 * w + b) : y = y2 ∧ a = b := by
  have d1 := cell_of (w := w) a y h0 a0 a1
  have d2 := cell_of (w := w) b y2 h0 b0 b1
  rw [e] at d1
  exact ⟨d1.2.symm.trans d2.2, d1.1.symm.trans d2.1⟩
theorem dif_flat {w h : Int} {p : List Int} {K : List S68} (hK : kernB K = true) (hp : picB w h p 255 = true) (both : Bool) (a : Int) (ha : a = 0 ∨ a = 255) (hpa : p = List.replicate p.length a) : ∃ E : List Int, Ev (fun k => impl_diffused.f k K w h p both) (w, h, List.replicate p.length (if a = 255 then 1 else 0), E, 0) := by
  obtain ⟨g0, g1, g2, g3, g4, g5, g6⟩ := pic_spec hp
  have hl := pic_small hp
  have hpl := pic_len hp
  have hwn : ((w.toNat : Nat) : Int) = w := Int.toNat_of_nonneg (by omega)
  obtain ⟨st, i2, ev⟩ := dif_ev hK hp both (fun m st => st.1 = List.replicate p.length a ∧ st.2.1.length = p.length ∧ st.2.2.2 = 0 ∧ st.2.2.1.length = p.length ∧ (a = 0 → st.2.2.1 = List.replicate p.length 0) ∧ (a = 255 → ∀ y c : Nat, (y : Int) < h → (c : Int) < w → y * w.toNat + c < m → rd st.2.2.1 ((y : Int) * w + colN both w y c) = 1)) (fun y c st hy hc hst => by
    obtain ⟨i0, i1, i2, i3, i4, i5⟩ := hst
    have hx := col_in both y c hc
    have ix := idx_lt (w := w) (h := h) (x := colN both w y c) (y := (y : Int)) hx.1 hx.2 (by omega) hy
    have hv : rd st.1 ((y : Int) * w + colN both w y c) = a := by
      rw [i0]
      exact rd_rep _ _ _ (by omega) (by omega)
    have he : (if rd st.1 ((y : Int) * w + colN both w y c) ≥ 128 then rd st.1 ((y : Int) * w + colN both w y c) - 255 else rd st.1 ((y : Int) * w + colN both w y c)) = 0 := by
      rw [hv]
      rcases ha with rfl | rfl <;> decide
    refine ⟨⟨⟨by rw [i0, List.length_replicate], fun v hv2 => ?_, by show _ ≤ st.2.2.2; omega, by show st.2.2.2 ≤ _; omega⟩, i1, i3, by rw [he]; omega, by rw [he]; omega⟩, ?_⟩
    · dsimp only at hv2
      rw [i0] at hv2
      have := (List.mem_replicate.1 hv2).2
      omega
    · have hz := dfT_zero (w := w) (h := h) (way := wayN both y) (x := colN both w y c) (y := (y : Int)) (K := K) (fun q => share_zero (wtTo K K.length) K q) K.length 0 (st.1, st.2.2.2)
      unfold dfC
      rw [he, hz]
      refine ⟨i0, by rw [List.length_set]; exact i1, i2, ?_, fun h0 => ?_, fun h1 y2 c2 hy2 hc2 hm => ?_⟩
      · split
        · rw [List.length_set]
          exact i3
        · exact i3
      · rw [if_neg (by rw [hv, h0]; decide)]
        exact i4 h0
      · have hx2 := col_in both y2 c2 hc2
        have ix2 := idx_lt (w := w) (h := h) (x := colN both w y2 c2) (y := (y2 : Int)) hx2.1 hx2.2 (by omega) hy2
        rw [if_pos (by rw [hv, h1]; decide)]
        unfold rd
        rw [getD_set _ _ _ _ (by omega)]
        by_cases e : ((y2 : Int) * w + colN both w y2 c2).toNat = ((y : Int) * w + colN both w y c).toNat
        · rw [if_pos e]
        · rw [if_neg e]
          refine i5 h1 y2 c2 hy2 hc2 ?_
          by_cases c3 : y2 * w.toNat + c2 = y * w.toNat + c
          · exfalso
            have c4 : (y2 : Int) * w + (c2 : Int) = (y : Int) * w + (c : Int) := by
              rw [← hwn, ← Int.natCast_mul, ← Int.natCast_mul]
              omega
            obtain ⟨e1, e2⟩ := cell_ne (by omega) (by omega) hc2 (by omega) hc c4
            have e1' : y2 = y := by omega
            have e2' : c2 = c := by omega
            subst e1'
            subst e2'
            exact e rfl
          · omega) ⟨hpa, List.length_replicate, rfl, List.length_replicate, fun _ => rfl, fun _ y c _ _ hm => by omega⟩
  obtain ⟨i0, i1, i3, i4, i5, i6⟩ := i2
  refine ⟨st.2.1, ?_⟩
  have hD : st.2.2.1 = List.replicate p.length (if a = 255 then 1 else 0) := by
    rcases ha with h0 | h1
    · rw [i5 h0, h0]
      rfl
    · refine cells_ext (w := w) (h := h) (by omega) (by omega) (by omega) (by rw [List.length_replicate]; omega) (fun x y x0 x1 y0 y1 => ?_)
      have ix := idx_lt (w := w) (h := h) (x := x) (y := y) x0 x1 y0 y1
      rw [rd_rep _ _ _ (by omega) (by omega), if_pos h1]
      obtain ⟨c, hc, ec⟩ := col_back both y.toNat x x0 x1
      have ey : ((y.toNat : Nat) : Int) = y := Int.toNat_of_nonneg y0
      have := i6 h1 y.toNat c (by omega) hc (by
        have q1 := idx_lt (w := w) (h := h) (x := (c : Int)) (y := y) (by omega) hc y0 y1
        have q2 : ((y.toNat * w.toNat + c : Nat) : Int) = y * w + (c : Int) := by rw [Int.natCast_add, Int.natCast_mul, ey, hwn]
        omega)
      rw [ey, ec] at this
      exact this
  rw [hD, i3] at ev
  exact ev
theorem diffuse_ev {w h : Int} {p : List Int} {K : List S68} (hK : kernB K = true) (hp : picB w h p 255 = true) {both : Bool} {D E : List Int} {L : Int} (ev : Ev (fun k => impl_diffused.f k K w h p both) (w, h, D, E, L)) : Ev (fun k => impl_DiffusePicture.f k K w h p both) (w, h, D, L, true) := by
  have kl := kern_len hK
  have hk := implIsKernel_ev K (by omega)
  rw [hK] at hk
  unfold impl_DiffusePicture.f
  exact Ev.bind hk (Ev_pos rfl (Ev.bind (Ev_eq (impl_IsPicture.eq w h p)) (Ev_pos hp (Ev.bind ev (Ev.now _)))))
/-- The law FnEmpty: a picture without ink gets no dots and a full one all, and nothing is lost of them; for the inputs that the law draws. -/
theorem FnEmpty (l0 : List Int) (h0_ : l0.length ≤ maxLen) (h1_ : l0.length * 1 ≤ 140737488351232) (h2_ : (∀ x ∈ l0, (Lit.int .u8 x).wf = true)) :
    ∃ k, P.laws_FnEmpty.f k l0 = some true := by
  refine Ev.rounds ?_
  unfold laws_FnEmpty.f
  by_cases hl : (l0.length : Int) > 1048576
  · exact Ev_pos hl (Ev.now _)
  refine Ev_neg hl ?_
  obtain ⟨K, hK, HK⟩ := MakeKernel_ok l0 h0_
  obtain ⟨w, h, p, hp, hw, hh, HP⟩ := MakePicture_ok l0 9 h0_ (by omega) (by omega)
  obtain ⟨a, ea, a0, a1⟩ := at_ok l0 1 (by omega) (by omega) (by omega) (u8_bd h2_)
  obtain ⟨b, eb, b0, b1⟩ := at_ok l0 2 (by omega) (by omega) (by omega) (u8_bd h2_)
  obtain ⟨g0, g1, g2, g3, g4, g5, g6⟩ := pic_spec hp
  have hsz : sizedB w h = true := decide_eq_true ⟨g0, g1, g2, g3, g4⟩
  have hpl := pic_len hp
  have hsp := pic_small hp
  have go : ∀ ink dot : Int, (ink = 0 ∧ dot = 0) ∨ (ink = 255 ∧ dot = 1) → Ev (fun k => laws_FnEmpty.j0 k l0 K ink dot w h p) true := by
    intro ink dot hid
    have hi : ink = 0 ∨ ink = 255 := by omega
    have hfl : impl_FlatPicture.f w h ink = some (w, h, List.replicate p.length ink, true) := by
      refine (if_pos ⟨hsz, by omega, by omega⟩).trans ?_
      rw [hpl, gridL_tab, tab_const p.length ink (fun i => cellAt w (fun _ _ => ink) i) (fun _ _ => rfl)]
    have hF : picB w h (List.replicate p.length ink) 255 = true := pic_mk hsz (by rw [List.length_replicate]; omega) (fun x hx => by
      have := (List.mem_replicate.1 hx).2
      omega)
    obtain ⟨E, ev⟩ := dif_flat hK hF (Int.tmod b 2 == 1) ink hi (by rw [List.length_replicate])
    rw [List.length_replicate] at ev
    have hd : (if ink = 255 then (1 : Int) else 0) = dot := by
      rcases hid with ⟨h1, h2⟩ | ⟨h1, h2⟩
      · rw [if_neg (by omega), h2]
      · rw [if_pos h1, h2]
    rw [hd] at ev
    have hD : picB w h (List.replicate p.length dot) 255 = true := pic_mk hsz (by rw [List.length_replicate]; omega) (fun x hx => by
      have := (List.mem_replicate.1 hx).2
      omega)
    have hcnt : sumL ((List.replicate p.length dot).map (isV dot)) = (p.length : Int) := by
      have : (List.replicate p.length dot).map (isV dot) = List.replicate p.length 1 := by
        rw [List.map_replicate]
        unfold isV
        rw [if_pos rfl]
      rw [this, sumL_rep]
      omega
    refine Ev.step (fun k => laws_FnEmpty.j0.eq_2 ..) (Ev.bind (Ev_eq hfl) (Ev.bind (Ev_eq eb) (Ev.bind (diffuse_ev hK hF ev) (Ev_pos rfl (Ev_pos rfl (Ev_pos rfl (Ev.bind (pic_cnt dot hD) ?_)))))))
    rw [hcnt, beq_self_eq_true]
    exact Ev.now _
  refine Ev.bind HK (Ev.bind HP (Ev.bind (Ev_eq ea) ?_))
  by_cases c : Int.tmod a 2 = 1
  · exact Ev_pos c (go 255 1 (Or.inr ⟨rfl, rfl⟩))
  · exact Ev_neg c (go 0 0 (Or.inl ⟨rfl, rfl⟩))
end Go.Proofs.Ytndnklicfibkeaa.Q
