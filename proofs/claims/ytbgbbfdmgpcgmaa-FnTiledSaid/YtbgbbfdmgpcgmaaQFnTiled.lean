/- The law FnTiled: a picture tiled holds its amounts as often as it is laid, and gives the picture back where it is cut; for the inputs that the law draws. -/
import Derived.Laws.BitsLemmas
import Derived.Test.YtbgbbfdmgpcgmaaFimplCropPicture
import Derived.Test.YtbgbbfdmgpcgmaaFimplIsPicture
import Derived.Test.YtbgbbfdmgpcgmaaFimplSumInk
import Derived.Test.YtbgbbfdmgpcgmaaFimplTilePicture
import Derived.Test.YtbgbbfdmgpcgmaaFlawsFnTiled
import Derived.Test.YtbgbbfdmgpcgmaaFlawsat
import Derived.Test.YtbgbbfdmgpcgmaaFlawsints
import Derived.Test.YtbgbbfdmgpcgmaaFlawssame
import Derived.Test.YtbgbbfdmgpcgmaaFlawstotal
import Derived.Test.YtbgbbfdmgpcgmaaFpre
import Derived.Test.YtbgbbfdmgpcgmaaFspecMakePicture
import Derived.Test.YtbgbbfdmgpcgmaaFspecl01Below
import Derived.Test.YtbgbbfdmgpcgmaaFspecl01Byte
import Derived.Test.YtbgbbfdmgpcgmaaFspecl01Int
import Derived.Test.YtbgbbfdmgpcgmaaFspecl01New
import Derived.Test.YtbgbbfdmgpcgmaaFspecl1Draw
import Derived.Test.YtbgbbfdmgpcgmaaFspecl1Empty
import Derived.Test.YtbgbbfdmgpcgmaaP0
namespace Go.Proofs.Ytbgbbfdmgpcgmaa.Q
open Go.RowKit Go.Proofs.Ytbgbbfdmgpcgmaa.P Go.Proofs.YtbgbbfdmgpcgmaaW.PrintWords
set_option linter.unusedVariables false
set_option linter.unusedSimpArgs false
theorem wsucc (i : Nat) (h : i < 9223372036854775807) : wrap64 ((i : Int) + 1) = ((i + 1 : Nat) : Int) := by unfold wrap64; omega
theorem wid (x : Int) (h0 : -9223372036854775808 ≤ x) (h1 : x ≤ 9223372036854775807) : wrap64 x = x := by unfold wrap64; omega
theorem rd_nat (l : List Int) (i : Nat) : rd l (i : Int) = l.getD i 0 := by unfold rd; rw [Int.toNat_natCast]
theorem getD_of_lt {α : Type} (l : List α) (d : α) (i : Nat) (h : i < l.length) : l.getD i d = l[i] := by simp [List.getD_eq_getElem?_getD, List.getElem?_eq_getElem h]
theorem getD_mem (l : List Int) (i : Nat) (h : i < l.length) : l.getD i 0 ∈ l := by rw [getD_of_lt l 0 i h]; exact List.getElem_mem h
theorem ext_getD {a b : List Int} (hl : a.length = b.length) (h : ∀ i, i < a.length → a.getD i 0 = b.getD i 0) : a = b := by
  apply List.ext_getElem hl
  intro i h1 h2
  have := h i h1
  rwa [getD_of_lt a 0 i h1, getD_of_lt b 0 i h2] at this
theorem getD_tab (n : Nat) (f : Nat → Int) (j : Nat) (h : j < n) : ((List.range n).map f).getD j 0 = f j := by
  simp [List.getD_eq_getElem?_getD, List.getElem?_map, List.getElem?_range h]
theorem len_tab (n : Nat) (f : Nat → Int) : ((List.range n).map f).length = n := by simp
theorem tab_congr (n : Nat) (f g : Nat → Int) (h : ∀ i, i < n → f i = g i) : (List.range n).map f = (List.range n).map g :=
  List.map_congr_left (fun i hi => h i (List.mem_range.1 hi))
theorem tab_self (l : List Int) : (List.range l.length).map (fun i => l.getD i 0) = l := by
  apply ext_getD (by simp)
  intro i hi
  rw [len_tab] at hi
  rw [getD_tab _ _ _ hi]
/-! Sums. -/
def sumTo (l : List Int) (i : Nat) : Int := (l.take i).foldl (· + ·) 0
theorem foldl_add (l : List Int) (a : Int) : l.foldl (· + ·) a = a + l.foldl (· + ·) 0 := by
  induction l generalizing a with
  | nil => simp
  | cons x r ih => simp only [List.foldl_cons]; rw [ih (a + x), ih (0 + x)]; omega
def sumL (l : List Int) : Int := l.foldl (· + ·) 0
theorem sumL_append (a b : List Int) : sumL (a ++ b) = sumL a + sumL b := by unfold sumL; rw [List.foldl_append, foldl_add]
theorem sumL_one (x : Int) : sumL [x] = x := by simp [sumL]
theorem sumTo_succ (l : List Int) (i : Nat) (h : i < l.length) : sumTo l (i + 1) = sumTo l i + l.getD i 0 := by
  unfold sumTo
  rw [List.take_succ_eq_append_getElem h, List.foldl_append, getD_of_lt l 0 i h]
  simp
theorem sumTo_zero (l : List Int) : sumTo l 0 = 0 := by simp [sumTo]
theorem sumTo_all (l : List Int) : sumTo l l.length = sumL l := by simp [sumTo, sumL]
theorem sumTo_bd (l : List Int) (lo hi : Int) (h0 : lo ≤ 0) (h1 : 0 ≤ hi) (h : ∀ x ∈ l, lo ≤ x ∧ x ≤ hi) (i : Nat) (hi' : i ≤ l.length) : lo * i ≤ sumTo l i ∧ sumTo l i ≤ hi * i := by
  induction i with
  | zero => simp [sumTo_zero]
  | succ i ih =>
    have ih := ih (by omega)
    have hm := h _ (getD_mem l i (by omega))
    rw [sumTo_succ l i (by omega)]
    push_cast
    rw [Int.mul_add, Int.mul_add]
    omega
theorem Ev_pos {α : Type} {c : Prop} [Decidable c] {f g : Nat → Option α} {r : α} (hc : c) (h : Ev f r) : Ev (fun k => if c then f k else g k) r := Ev.congr (fun k => if_pos hc) h
theorem Ev_neg {α : Type} {c : Prop} [Decidable c] {f g : Nat → Option α} {r : α} (hc : ¬ c) (h : Ev g r) : Ev (fun k => if c then f k else g k) r := Ev.congr (fun k => if_neg hc) h
theorem l1Empty_eq (w h : Int) (hs : sizedB w h = true) : spec_l1Empty.f w h = some (w, h, List.replicate (h.toNat * w.toNat) 0) := by
  obtain ⟨h0, h1, h2, h3, h4⟩ := sized_spec hs
  have e0 : 0 ≤ w * h := Int.mul_nonneg (by omega) (by omega)
  unfold spec_l1Empty.f
  rw [wid (w * h) (by omega) (by omega), if_pos e0, if_pos (by omega)]
  have : (w * h).toNat = h.toNat * w.toNat := by rw [Int.toNat_mul (by omega) (by omega), Nat.mul_comm]
  rw [this]
theorem gridL_tab (w : Int) (f : Int → Int → Int) (n : Nat) : gridL w f n = (List.range n).map fun i => cellAt w f i := rfl
theorem area_eq {w h : Int} (h0 : 0 ≤ w) (h1 : 0 ≤ h) : ((h.toNat * w.toNat : Nat) : Int) = w * h := by
  rw [Int.natCast_mul, Int.toNat_of_nonneg h0, Int.toNat_of_nonneg h1, Int.mul_comm]
theorem tmod_nat (i : Nat) (w : Int) : Int.tmod (i : Int) w = (i : Int) % w := Int.tmod_eq_emod_of_nonneg (by omega)
theorem cell_bd {w h : Int} (i : Nat) (h0 : 0 < w) (h1 : 0 < h) (hi : (i : Int) < w * h) : 0 ≤ (i : Int) % w ∧ (i : Int) % w < w ∧ 0 ≤ (i : Int) / w ∧ (i : Int) / w < h ∧ (i : Int) / w * w + (i : Int) % w = i := by
  refine ⟨Int.emod_nonneg _ (by omega), Int.emod_lt_of_pos _ h0, Int.ediv_nonneg (by omega) (by omega), ?_, ?_⟩
  · exact Int.ediv_lt_of_lt_mul h0 (by rw [Int.mul_comm]; exact hi)
  · have := Int.mul_ediv_add_emod (i : Int) w
    rw [Int.mul_comm] at this
    exact this
theorem cell_of {w : Int} (x y : Int) (h0 : 0 < w) (hx0 : 0 ≤ x) (hx : x < w) : (y * w + x) % w = x ∧ (y * w + x) / w = y := by
  constructor
  · rw [Int.add_comm, Int.add_mul_emod_self_right, Int.emod_eq_of_lt hx0 hx]
  · rw [Int.add_comm, Int.add_mul_ediv_right _ _ (by omega), Int.ediv_eq_zero_of_lt hx0 hx, Int.zero_add]
theorem cell_id (w : Int) (f : Int → Int → Int) (l : List Int) (n : Nat) (hn : l.length = n) (h0 : 0 < w) (h : ∀ x y, 0 ≤ x → x < w → f x y = rd l (y * w + x)) : gridL w f n = l := by
  subst hn
  rw [gridL_tab]
  conv => rhs; rw [← tab_self l]
  refine tab_congr _ _ _ (fun i hi => ?_)
  unfold cellAt
  rw [h _ _ (Int.emod_nonneg _ (by omega)) (Int.emod_lt_of_pos _ h0)]
  have := Int.mul_ediv_add_emod (i : Int) w
  rw [Int.mul_comm] at this
  rw [this, rd_nat]
theorem implSum_ev (w h : Int) (l : List Int) (hl : l.length ≤ 1048576) : Ev (fun k => impl_SumInk.f k w h l) (if picB w h l 255 = true then sumL l else 0) := by
  unfold impl_SumInk.f
  rw [impl_IsPicture.eq]
  simp only [Option.bind_some]
  by_cases hp : picB w h l 255 = true
  · obtain ⟨h0, h1, h2, h3, h4, h5, h6⟩ := pic_spec hp
    simp only [if_pos hp]
    have key : ∀ d i : Nat, i + d = l.length → Ev (fun k => impl_SumInk.l0 k (sumTo l i) l (l.length : Int) (i : Int)) (sumL l) := by
      intro d
      induction d with
      | zero =>
        intro i hi
        obtain rfl : i = l.length := by omega
        refine Ev.step (f := fun _ => some (sumL l)) (fun k => ?_) (Ev.now _)
        simp only [impl_SumInk.l0]
        rw [if_neg (by omega), sumTo_all]
      | succ d ih =>
        intro i hi
        have hb := sumTo_bd l 0 255 (by omega) (by omega) h6 (i + 1) (by omega)
        have hs := sumTo_succ l i (by omega)
        refine Ev.step (fun k => ?_) (ih (i + 1) (by omega))
        simp only [impl_SumInk.l0]
        rw [if_pos (by omega), if_pos (by omega), if_pos (by omega), rd_nat, ← hs, wid (sumTo l (i + 1)) (by omega) (by omega), wsucc i (by omega)]
    have := key l.length 0 (by omega)
    rw [sumTo_zero] at this
    exact this
  · simp only [if_neg hp]
    exact Ev.now _
/-! Pairs of functions that answer alike. -/
theorem pic_rd {w h : Int} {l : List Int} {m : Int} (hp : picB w h l m = true) (x y : Int) (hx0 : 0 ≤ x) (hx : x < w) (hy0 : 0 ≤ y) (hy : y < h) : 0 ≤ y * w + x ∧ y * w + x < (l.length : Int) ∧ wrap64 (wrap64 (y * w) + x) = y * w + x := by
  obtain ⟨h0, h1, h2, h3, h4, h5, h6⟩ := pic_spec hp
  have e0 : 0 ≤ y * w := Int.mul_nonneg hy0 (by omega)
  have e1 : y * w ≤ (h - 1) * w := Int.mul_le_mul_of_nonneg_right (by omega) (by omega)
  have e2 : (h - 1) * w = w * h - w := by rw [Int.sub_mul, Int.one_mul, Int.mul_comm]
  rw [wid (y * w) (by omega) (by omega), wid _ (by omega) (by omega)]
  exact ⟨by omega, by omega, rfl⟩
theorem sumL_bd (l : List Int) (lo hi : Int) (h0 : lo ≤ 0) (h1 : 0 ≤ hi) (h : ∀ x ∈ l, lo ≤ x ∧ x ≤ hi) : lo * l.length ≤ sumL l ∧ sumL l ≤ hi * l.length := by
  rw [← sumTo_all]
  exact sumTo_bd l lo hi h0 h1 h l.length (Nat.le_refl _)
/-! Pictures made from a picture. -/
theorem pic_len {w h : Int} {l : List Int} {m : Int} (hp : picB w h l m = true) : h.toNat * w.toNat = l.length := by
  obtain ⟨h0, h1, h2, h3, h4, h5, h6⟩ := pic_spec hp
  have := area_eq (w := w) (h := h) (by omega) (by omega)
  omega
/-! The drawing of inputs. -/
theorem and255 (n : Int) : Go.bits .and .i64 n 255 = n % 256 := by
  have h127 : (BitVec.ofInt 64 255).toNat = 2 ^ 8 - 1 := by decide
  have key : (BitVec.ofInt 64 n &&& BitVec.ofInt 64 255).toNat = (n % ((2 ^ 64 : Nat) : Int)).toNat % 2 ^ 8 := by
    rw [BitVec.toNat_and, BitVec.toNat_ofInt, h127, Nat.and_two_pow_sub_one_eq_mod]
  show IntKind.i64.wrap ((BitVec.ofInt 64 n &&& BitVec.ofInt 64 255).toNat : Nat) = n % 256
  rw [key, IntKind.wrap_i64]
  omega
theorem byte_ok (s : List Int) (a b : Int) (ha : 0 ≤ a) (hl : s.length ≤ maxLen) : ∃ v a2 b2 : Int, spec_l01Byte.f s a b = some (v, a2, b2) ∧ 0 ≤ v ∧ v ≤ 255 ∧ 0 ≤ a2 := by
  unfold maxLen at hl
  unfold spec_l01Byte.f
  simp only [and255]
  by_cases h : a < (s.length : Int)
  · rw [if_pos h, if_pos ha, wid (a + 1) (by omega) (by omega)]
    exact ⟨_, _, _, rfl, by omega, by omega, by omega⟩
  · rw [if_neg h]
    exact ⟨_, _, _, rfl, by omega, by omega, by omega⟩
theorem below_ok (s : List Int) (a b n : Int) (ha : 0 ≤ a) (hl : s.length ≤ maxLen) (h1 : 1 ≤ n) (h2 : n ≤ 256) : ∃ v a2 b2 : Int, spec_l01Below.f s a b n = some (v, a2, b2) ∧ 0 ≤ v ∧ v < n ∧ 0 ≤ a2 := by
  obtain ⟨v, a2, b2, e, h3, h4, h5⟩ := byte_ok s a b ha hl
  unfold spec_l01Below.f
  rw [if_neg (by omega), if_pos h2, e, Option.bind_some, if_neg (by omega)]
  exact ⟨_, _, _, rfl, Int.tmod_nonneg _ h3, Int.tmod_lt_of_pos _ (by omega), h5⟩
theorem draw_ok (s : List Int) (a b : Int) (L : List Int) (ha : 0 ≤ a) (hl : s.length ≤ maxLen) (h1 : 1 ≤ L.length) (h2 : L.length ≤ 256) : ∃ v a2 b2 : Int, spec_l01Int.f s a b L = some (v, a2, b2) ∧ v ∈ L ∧ 0 ≤ a2 := by
  obtain ⟨v, a2, b2, e, h3, h4, h5⟩ := below_ok s a b (L.length : Int) ha hl (by omega) (by omega)
  unfold spec_l01Int.f
  rw [e, Option.bind_some, if_pos h3, if_pos h4]
  refine ⟨_, _, _, rfl, ?_, h5⟩
  obtain ⟨m, rfl⟩ : ∃ m : Nat, v = (m : Int) := ⟨v.toNat, by omega⟩
  rw [rd_nat]
  exact getD_mem L m (by omega)
theorem new_ok (s : List Int) (hl : s.length ≤ maxLen) : ∃ b : Int, Ev (fun k => spec_l01New.f k s) (s, 0, b) := by
  unfold maxLen at hl
  have key : ∀ (d i : Nat) (x : Int), i + d = s.length → ∃ b : Int, Ev (fun k => spec_l01New.l0 k s x (i : Int)) (s, 0, b) := by
    intro d
    induction d with
    | zero =>
      intro i x hi
      refine ⟨x, Ev.step (fun k => by rw [spec_l01New.l0]) ?_⟩
      exact Ev_neg (by omega) (Ev.now _)
    | succ d ih =>
      intro i x hi
      by_cases h : (i : Int) < 4000
      · obtain ⟨b, hb⟩ := ih (i + 1) (Go.bits .and .i64 (wrap64 ((wrap64 ((wrap64 (x * 1103)) + (wrap64 (rd s (i : Int))))) + 7)) 1073741823) (by omega)
        refine ⟨b, Ev.step (fun k => ?_) hb⟩
        simp only [spec_l01New.l0]
        rw [if_pos (by omega), if_pos h, if_pos (by omega), wsucc i (by omega)]
      · refine ⟨x, Ev.step (fun k => by rw [spec_l01New.l0]) ?_⟩
        exact Ev_pos (by omega) (Ev_neg h (Ev.now _))
  exact key s.length 0 _ (by omega)
theorem mem_set_bd {L : List Int} {p : Nat} {v lo hi : Int} (hL : ∀ x ∈ L, lo ≤ x ∧ x ≤ hi) (h0 : lo ≤ v) (h1 : v ≤ hi) : ∀ x ∈ L.set p v, lo ≤ x ∧ x ≤ hi := by
  intro x hx
  rcases List.mem_or_eq_of_mem_set hx with h | h
  · exact hL x h
  · subst h
    exact ⟨h0, h1⟩
theorem drawn_ok (s : List Int) (hl : s.length ≤ maxLen) (mode w h : Int) (hm : 0 ≤ mode) (hw : 1 ≤ w) (hw2 : w ≤ 64) (n : Nat) (hn : n ≤ 1048576) : ∀ (d i : Nat) (L : List Int) (a b : Int), i + d = n → L.length = n → (∀ x ∈ L, 0 ≤ x ∧ x ≤ 255) → 0 ≤ a →
    ∃ (L2 : List Int) (a2 b2 : Int), L2.length = n ∧ (∀ x ∈ L2, 0 ≤ x ∧ x ≤ 255) ∧ 0 ≤ a2 ∧ Ev (fun k => spec_l1Draw.l0 k mode (n : Int) (i : Int) s a b w h L) (w, h, L2, a2, b2) := by
  intro d
  induction d with
  | zero =>
    intro i L a b hi hL hx ha
    refine ⟨L, a, b, hL, hx, ha, Ev.step (fun k => by rw [spec_l1Draw.l0]) ?_⟩
    exact Ev_neg (by omega) (Ev.now _)
  | succ d ih =>
    intro i L a b hi hL hx ha
    have go : ∀ v a2 b2 : Int, 0 ≤ v → v ≤ 255 → 0 ≤ a2 → ∃ (L2 : List Int) (a3 b3 : Int), L2.length = n ∧ (∀ x ∈ L2, 0 ≤ x ∧ x ≤ 255) ∧ 0 ≤ a3 ∧ Ev (fun k => if 0 ≤ (i : Int) then (if (i : Int) < (L.length : Int) then (spec_l1Draw.l0 k mode (n : Int) (wrap64 ((i : Int) + 1)) s a2 b2 w h (L.set (i : Int).toNat v)) else none) else none) (w, h, L2, a3, b3) := by
      intro v a2 b2 v0 v1 ha2
      obtain ⟨L2, a3, b3, q1, q2, q3, q4⟩ := ih (i + 1) (L.set i v) a2 b2 (by omega) (by rw [List.length_set]; exact hL) (mem_set_bd hx v0 v1) ha2
      refine ⟨L2, a3, b3, q1, q2, q3, Ev_pos (by omega) (Ev_pos (by omega) ?_)⟩
      rw [wsucc i (by omega), Int.toNat_natCast]
      exact q4
    by_cases m0 : mode = 0
    · obtain ⟨v, a2, b2, e, v0, v1, ha2⟩ := below_ok s a b 256 ha hl (by omega) (by omega)
      obtain ⟨L2, a3, b3, q1, q2, q3, q4⟩ := go v a2 b2 v0 (by omega) ha2
      refine ⟨L2, a3, b3, q1, q2, q3, Ev.step (fun k => by rw [spec_l1Draw.l0]) (Ev_pos (by omega) (Ev_pos m0 ?_))⟩
      rw [e]
      exact q4
    by_cases m1 : mode = 1
    · obtain ⟨v, a2, b2, e, v0, ha2⟩ := draw_ok s a b [0, 255, 128, 127, 1, 254] ha hl (by simp) (by simp)
      have vb : 0 ≤ v ∧ v ≤ 255 := by
        simp only [List.mem_cons, List.not_mem_nil, or_false] at v0
        omega
      obtain ⟨L2, a3, b3, q1, q2, q3, q4⟩ := go v a2 b2 vb.1 vb.2 ha2
      refine ⟨L2, a3, b3, q1, q2, q3, Ev.step (fun k => by rw [spec_l1Draw.l0]) (Ev_pos (by omega) (Ev_neg m0 (Ev_pos m1 ?_)))⟩
      rw [e]
      exact q4
    by_cases m2 : mode = 2
    · obtain ⟨v, a2, b2, e, v0, v1, ha2⟩ := below_ok s a b 2 ha hl (by omega) (by omega)
      obtain ⟨L2, a3, b3, q1, q2, q3, q4⟩ := go v a2 b2 v0 (by omega) ha2
      refine ⟨L2, a3, b3, q1, q2, q3, Ev.step (fun k => by rw [spec_l1Draw.l0]) (Ev_pos (by omega) (Ev_neg m0 (Ev_neg m1 (Ev_pos m2 ?_))))⟩
      rw [e]
      exact q4
    · have hx1 : mx 1 (wrap64 (w - 1)) = if w = 1 then 1 else w - 1 := by
        rw [wid (w - 1) (by omega) (by omega)]
        unfold mx
        by_cases c : w = 1
        · subst c
          rfl
        · rw [if_neg c]
          by_cases c2 : 1 < w - 1
          · rw [if_pos c2]
          · rw [if_neg c2]
            omega
      have b0 := Int.emod_nonneg (i : Int) (b := w) (by omega)
      have b1 := Int.emod_lt_of_pos (i : Int) (b := w) (by omega)
      have hv : 0 ≤ wrap64 (Int.tdiv (wrap64 ((Int.tmod (i : Int) w) * 255)) (mx 1 (wrap64 (w - 1)))) ∧ wrap64 (Int.tdiv (wrap64 ((Int.tmod (i : Int) w) * 255)) (mx 1 (wrap64 (w - 1)))) ≤ 255 := by
        rw [hx1, tmod_nat, wid ((i : Int) % w * 255) (by omega) (by omega), Int.tdiv_eq_ediv_of_nonneg (by omega)]
        by_cases c : w = 1
        · subst c
          rw [if_pos rfl, show (i : Int) % 1 * 255 = 0 by omega, Int.zero_ediv]
          exact ⟨by unfold wrap64; omega, by unfold wrap64; omega⟩
        · rw [if_neg c]
          have d0 : 0 ≤ (i : Int) % w * 255 / (w - 1) := Int.ediv_nonneg (by omega) (by omega)
          have d1 : (i : Int) % w * 255 / (w - 1) ≤ 255 := by
            have : (i : Int) % w * 255 ≤ 255 * (w - 1) := by omega
            exact Int.ediv_le_of_le_mul (by omega) this
          rw [wid _ (by omega) (by omega)]
          exact ⟨d0, d1⟩
      obtain ⟨L2, a3, b3, q1, q2, q3, q4⟩ := go _ a b hv.1 hv.2 ha
      refine ⟨L2, a3, b3, q1, q2, q3, Ev.step (fun k => by rw [spec_l1Draw.l0]) (Ev_pos (by omega) (Ev_neg m0 (Ev_neg m1 (Ev_neg m2 (Ev_neg (by omega) (Ev_neg ?_ q4))))))⟩
      rw [hx1]
      split <;> omega
theorem rep_bd (n : Nat) (hi : Int) (h : 0 ≤ hi) : ∀ x ∈ List.replicate n (0 : Int), 0 ≤ x ∧ x ≤ hi := by
  intro x hx
  rw [(List.mem_replicate.1 hx).2]
  omega
theorem pic_mk {w h : Int} {l : List Int} {m : Int} (hs : sizedB w h = true) (hl : l.length = h.toNat * w.toNat) (hx : ∀ x ∈ l, 0 ≤ x ∧ x ≤ m) : picB w h l m = true := by
  obtain ⟨h0, h1, h2, h3, h4⟩ := sized_spec hs
  unfold picB withinB
  rw [Bool.and_eq_true, Bool.and_eq_true, List.all_eq_true]
  have := area_eq (w := w) (h := h) (by omega) (by omega)
  exact ⟨hs, decide_eq_true (by omega), fun x hxl => decide_eq_true (hx x hxl)⟩
theorem sized_small {w h : Int} (h0 : 1 ≤ w) (h1 : w ≤ 16) (h2 : 1 ≤ h) (h3 : h ≤ 16) : sizedB w h = true := by
  have e : w * h ≤ 16 * 16 := Int.le_trans (Int.mul_le_mul_of_nonneg_right h1 (by omega)) (Int.mul_le_mul_of_nonneg_left h3 (by omega))
  exact decide_eq_true ⟨h0, by omega, h2, by omega, by omega⟩
theorem l1Draw_ok (s : List Int) (a b m : Int) (ha : 0 ≤ a) (hl : s.length ≤ maxLen) (h1 : 1 ≤ m) (h2 : m ≤ 16) : ∃ (w h : Int) (l : List Int) (a2 b2 : Int), picB w h l 255 = true ∧ w ≤ m ∧ h ≤ m ∧ 0 ≤ a2 ∧ Ev (fun k => spec_l1Draw.f k s a b m) (w, h, l, a2, b2) := by
  obtain ⟨w, a2, b2, e1, w0, w1, ha2⟩ := below_ok s a b m ha hl h1 (by omega)
  obtain ⟨h, a3, b3, e2, v0, v1, ha3⟩ := below_ok s a2 b2 m ha2 hl h1 (by omega)
  obtain ⟨q, a4, b4, e3, q0, q1, ha4⟩ := below_ok s a3 b3 4 ha3 hl (by omega) (by omega)
  have hs : sizedB (1 + w) (1 + h) = true := sized_small (by omega) (by omega) (by omega) (by omega)
  obtain ⟨g0, g1, g2, g3, g4⟩ := sized_spec hs
  have hn := area_eq (w := 1 + w) (h := 1 + h) (by omega) (by omega)
  obtain ⟨L2, a5, b5, p1, p2, p3, p4⟩ := drawn_ok s hl q (1 + w) (1 + h) q0 (by omega) (by omega) ((1 + h).toNat * (1 + w).toNat) (by omega) ((1 + h).toNat * (1 + w).toNat) 0 (List.replicate ((1 + h).toNat * (1 + w).toNat) 0) a4 b4 (by omega) (by simp) (rep_bd _ _ (by omega)) ha4
  refine ⟨1 + w, 1 + h, L2, a5, b5, pic_mk hs p1 p2, by omega, by omega, p3, ?_⟩
  unfold spec_l1Draw.f
  simp only [e1, e2, Option.bind_some]
  rw [wid (1 + w) (by omega) (by omega), wid (1 + h) (by omega) (by omega), l1Empty_eq _ _ hs]
  simp only [e3, Option.bind_some, List.length_replicate]
  exact p4
theorem MakePicture_ok (s : List Int) (m : Int) (hl : s.length ≤ maxLen) (h1 : 1 ≤ m) (h2 : m ≤ 16) : ∃ (w h : Int) (l : List Int), picB w h l 255 = true ∧ w ≤ m ∧ h ≤ m ∧ Ev (fun k => spec_MakePicture.f k s m) (w, h, l) := by
  obtain ⟨b, hb⟩ := new_ok s hl
  have hm : mx 1 (mn m 16) = m := by
    unfold mx mn
    rw [show (if 16 < m then (16 : Int) else m) = m from if_neg (by omega)]
    by_cases c : 1 < m
    · rw [if_pos c]
    · rw [if_neg c]
      omega
  obtain ⟨w, h, l, a2, b2, p1, p2, p3, p4, p5⟩ := l1Draw_ok s 0 b m (by omega) hl h1 h2
  refine ⟨w, h, l, p1, p2, p3, ?_⟩
  unfold spec_MakePicture.f
  rw [hm]
  exact Ev.bind hb (Ev.bind p5 (Ev.now _))
/-! The laws' own reckoning. -/
theorem total_ev (l : List Int) (hl : l.length ≤ 1048576) (hx : ∀ x ∈ l, -1000000 ≤ x ∧ x ≤ 1000000) : Ev (fun k => laws_total.f k l) (sumL l) := by
  have key : ∀ d i : Nat, i + d = l.length → Ev (fun k => laws_total.l0 k (sumTo l i) l (l.length : Int) (i : Int)) (sumL l) := by
    intro d
    induction d with
    | zero =>
      intro i hi
      obtain rfl : i = l.length := by omega
      refine Ev.step (f := fun _ => some (sumL l)) (fun k => ?_) (Ev.now _)
      simp only [laws_total.l0]
      rw [if_neg (by omega), sumTo_all]
    | succ d ih =>
      intro i hi
      have hb := sumTo_bd l (-1000000) 1000000 (by omega) (by omega) hx (i + 1) (by omega)
      have hs := sumTo_succ l i (by omega)
      refine Ev.step (fun k => ?_) (ih (i + 1) (by omega))
      simp only [laws_total.l0]
      rw [if_pos (by omega), if_pos (by omega), if_pos (by omega), rd_nat, ← hs, wid (sumTo l (i + 1)) (by omega) (by omega), wsucc i (by omega)]
  have := key l.length 0 (by omega)
  rw [sumTo_zero] at this
  exact this
theorem at_ok (s : List Int) (n : Int) (hl : s.length ≤ 1048576) (h0 : 0 ≤ n) (h1 : n ≤ 100) (hx : ∀ x ∈ s, 0 ≤ x ∧ x ≤ 255) : ∃ v : Int, laws_at.f s n = some v ∧ 0 ≤ v ∧ v ≤ 255 := by
  unfold laws_at.f
  by_cases h : n < (s.length : Int)
  · rw [if_pos h, if_pos h0]
    obtain ⟨m, rfl⟩ : ∃ m : Nat, n = (m : Int) := ⟨n.toNat, by omega⟩
    rw [rd_nat]
    have := hx _ (getD_mem s m (by omega))
    rw [wid _ (by omega) (by omega)]
    exact ⟨_, rfl, this.1, this.2⟩
  · rw [if_neg h, wid (n * 37) (by omega) (by omega), wid ((s.length : Int) * 11) (by omega) (by omega), wid _ (by omega) (by omega)]
    refine ⟨_, rfl, Int.tmod_nonneg _ (by omega), ?_⟩
    have := Int.tmod_lt_of_pos (n * 37 + (s.length : Int) * 11) (b := 256) (by omega)
    omega
/-! Equal pictures, sums over pictures. -/
theorem laws_ints_ev (a b : List Int) (ha : a.length ≤ maxLen) : Ev (fun k => laws_ints.f k a b) (decide (a = b)) := by
  unfold maxLen at ha
  by_cases hl : a.length = b.length
  · have key : ∀ d i : Nat, i + d = a.length → (∀ j, j < i → a.getD j 0 = b.getD j 0) → Ev (fun k => laws_ints.l0 k a b (a.length : Int) (i : Int)) (decide (a = b)) := by
      intro d
      induction d with
      | zero =>
        intro i hi hj
        have : a = b := ext_getD hl (fun j h => hj j (by omega))
        rw [decide_eq_true this]
        refine Ev.step (f := fun _ => some true) (fun k => ?_) (Ev.now _)
        simp only [laws_ints.l0]
        rw [if_neg (by omega)]
      | succ d ih =>
        intro i hi hj
        by_cases e : a.getD i 0 = b.getD i 0
        · refine Ev.step (fun k => ?_) (ih (i + 1) (by omega) (fun j h => if hji : j = i then hji ▸ e else hj j (by omega)))
          simp only [laws_ints.l0]
          rw [if_pos (by omega), if_pos (by omega), if_pos (by omega), if_pos (by omega), rd_nat, rd_nat, if_pos e, wsucc i (by omega)]
        · rw [decide_eq_false (fun h => e (by rw [h]))]
          refine Ev.step (f := fun _ => some false) (fun k => ?_) (Ev.now _)
          simp only [laws_ints.l0]
          rw [if_pos (by omega), if_pos (by omega), if_pos (by omega), if_pos (by omega), rd_nat, rd_nat, if_neg e]
    unfold laws_ints.f
    exact Ev_pos (by omega) (key a.length 0 (by omega) (fun j h => absurd h (by omega)))
  · rw [decide_eq_false (fun h => hl (by rw [h]))]
    unfold laws_ints.f
    exact Ev_neg (by omega) (Ev.now _)
theorem same_ev (w h : Int) (l : List Int) (w2 h2 : Int) (l2 : List Int) (hl : l.length ≤ 1048576) : Ev (fun k => laws_same.f k w h l w2 h2 l2) (decide (w = w2 ∧ h = h2 ∧ l = l2)) := by
  unfold laws_same.f
  by_cases e1 : w = w2
  · refine Ev_pos e1 ?_
    by_cases e2 : h = h2
    · refine Ev_pos e2 ?_
      refine Ev.bind (laws_ints_ev l l2 (by unfold maxLen; omega)) ?_
      rw [show decide (w = w2 ∧ h = h2 ∧ l = l2) = decide (l = l2) by rw [decide_eq_decide]; simp [e1, e2]]
      exact Ev.now _
    · refine Ev_neg e2 ?_
      rw [decide_eq_false (by simp [e2])]
      exact Ev.now _
  · refine Ev_neg e1 ?_
    rw [decide_eq_false (by simp [e1])]
    exact Ev.now _
theorem same_self (w h : Int) (l : List Int) (w2 h2 : Int) (l2 : List Int) (hl : l.length ≤ 1048576) (e : w = w2 ∧ h = h2 ∧ l = l2) : Ev (fun k => laws_same.f k w h l w2 h2 l2) true := by
  have := same_ev w h l w2 h2 l2 hl
  rwa [decide_eq_true e] at this
theorem pic_small {w h : Int} {l : List Int} {m : Int} (hp : picB w h l m = true) : l.length ≤ 1024 := by
  obtain ⟨h0, h1, h2, h3, h4, h5, h6⟩ := pic_spec hp
  omega
theorem pic_total {w h : Int} {l : List Int} {m : Int} (hp : picB w h l m = true) (hm : m ≤ 255) : Ev (fun k => laws_total.f k l) (sumL l) := by
  have := pic_small hp
  obtain ⟨h0, h1, h2, h3, h4, h5, h6⟩ := pic_spec hp
  exact total_ev l (by omega) (fun x hx => by have := h6 x hx; omega)
theorem pic_sum {w h : Int} {l : List Int} (hp : picB w h l 255 = true) : Ev (fun k => impl_SumInk.f k w h l) (sumL l) := by
  have := implSum_ev w h l (by have := pic_small hp; omega)
  rwa [if_pos hp] at this
theorem pic_sum_bd {w h : Int} {l : List Int} (hp : picB w h l 255 = true) : 0 ≤ sumL l ∧ sumL l ≤ 262144 := by
  have := pic_small hp
  obtain ⟨h0, h1, h2, h3, h4, h5, h6⟩ := pic_spec hp
  have := sumL_bd l 0 255 (by omega) (by omega) h6
  omega
theorem u8_bd {l : List Int} (h : ∀ x ∈ l, (Lit.int .u8 x).wf = true) : ∀ x ∈ l, 0 ≤ x ∧ x ≤ 255 := by
  intro x hx
  have := h x hx
  simp [Lit.wf] at this
  have e1 : IntKind.u8.min = 0 := rfl
  have e2 : IntKind.u8.max = 255 := rfl
  omega
theorem cells_ext {w h : Int} {a b : List Int} (h0 : 0 < w) (h1 : 0 < h) (ha : a.length = h.toNat * w.toNat) (hb : b.length = h.toNat * w.toNat) (e : ∀ x y : Int, 0 ≤ x → x < w → 0 ≤ y → y < h → rd a (y * w + x) = rd b (y * w + x)) : a = b := by
  have hn := area_eq (w := w) (h := h) (by omega) (by omega)
  refine ext_getD (by omega) (fun i hi => ?_)
  obtain ⟨b0, b1, b2, b3, b4⟩ := cell_bd (w := w) (h := h) i h0 h1 (by omega)
  have := e _ _ b0 b1 b2 b3
  rwa [b4, rd_nat, rd_nat] at this
theorem rd_grid {w h : Int} (f : Int → Int → Int) (x y : Int) (h0 : 0 < w) (h1 : 0 < h) (hx0 : 0 ≤ x) (hx : x < w) (hy0 : 0 ≤ y) (hy : y < h) : rd (gridL w f (h.toNat * w.toNat)) (y * w + x) = f x y := by
  have hn := area_eq (w := w) (h := h) (by omega) (by omega)
  have e0 : 0 ≤ y * w := Int.mul_nonneg hy0 (by omega)
  have e1 : y * w ≤ (h - 1) * w := Int.mul_le_mul_of_nonneg_right (by omega) (by omega)
  have e2 : (h - 1) * w = w * h - w := by rw [Int.sub_mul, Int.one_mul, Int.mul_comm]
  obtain ⟨m, hm⟩ : ∃ m : Nat, y * w + x = (m : Int) := ⟨(y * w + x).toNat, by omega⟩
  obtain ⟨c0, c1⟩ := cell_of x y h0 hx0 hx
  rw [hm, rd_nat, gridL_tab, getD_tab _ _ _ (by omega)]
  unfold cellAt
  rw [← hm, c0, c1]
theorem grid_mem {w h : Int} {f : Int → Int → Int} {lo hi : Int} (h0 : 0 < w) (h1 : 0 < h) (hf : ∀ x y : Int, 0 ≤ x → x < w → 0 ≤ y → y < h → lo ≤ f x y ∧ f x y ≤ hi) : ∀ v ∈ gridL w f (h.toNat * w.toNat), lo ≤ v ∧ v ≤ hi := by
  intro v hv
  rw [gridL_tab] at hv
  obtain ⟨i, hi, rfl⟩ := List.mem_map.1 hv
  have hn := area_eq (w := w) (h := h) (by omega) (by omega)
  obtain ⟨b0, b1, b2, b3, b4⟩ := cell_bd (w := w) (h := h) i h0 h1 (by have := List.mem_range.1 hi; omega)
  exact hf _ _ b0 b1 b2 b3
theorem rd_pic {w h : Int} {l : List Int} {m : Int} (hp : picB w h l m = true) (x y : Int) (hx0 : 0 ≤ x) (hx : x < w) (hy0 : 0 ≤ y) (hy : y < h) : 0 ≤ rd l (y * w + x) ∧ rd l (y * w + x) ≤ m := by
  obtain ⟨h0, h1, h2, h3, h4, h5, h6⟩ := pic_spec hp
  obtain ⟨e0, e1, e2⟩ := pic_rd hp x y hx0 hx hy0 hy
  obtain ⟨k, hk⟩ : ∃ k : Nat, y * w + x = (k : Int) := ⟨(y * w + x).toNat, by omega⟩
  rw [hk, rd_nat]
  exact h6 _ (getD_mem l k (by omega))
/-! Sums over grids. -/
def sumN (n : Nat) (g : Nat → Int) : Int := sumL ((List.range n).map g)
theorem sumN_zero (g : Nat → Int) : sumN 0 g = 0 := rfl
theorem sumN_succ (n : Nat) (g : Nat → Int) : sumN (n + 1) g = sumN n g + g n := by
  unfold sumN
  rw [List.range_succ, List.map_append, sumL_append, List.map_cons, List.map_nil, sumL_one]
theorem sumN_congr (n : Nat) (f g : Nat → Int) (h : ∀ i, i < n → f i = g i) : sumN n f = sumN n g := by
  unfold sumN
  rw [tab_congr n f g h]
theorem sumN_add (m n : Nat) (g : Nat → Int) : sumN (m + n) g = sumN m g + sumN n (fun i => g (m + i)) := by
  induction n with
  | zero => rw [sumN_zero]; simp
  | succ n ih => rw [← Nat.add_assoc, sumN_succ, sumN_succ, ih, Int.add_assoc]
theorem sumN_mul (n : Nat) (c : Int) (g : Nat → Int) : sumN n (fun i => c * g i) = c * sumN n g := by
  induction n with
  | zero => rw [sumN_zero, sumN_zero]; simp
  | succ n ih => rw [sumN_succ, sumN_succ, ih, Int.mul_add]
theorem sumN_per (m n : Nat) (g : Nat → Int) : sumN (m * n) (fun i => g (i % n)) = m * sumN n g := by
  induction m with
  | zero => rw [Nat.zero_mul, sumN_zero]; simp
  | succ m ih =>
    rw [Nat.add_mul, Nat.one_mul, sumN_add, ih]
    rw [sumN_congr n (fun i => g ((m * n + i) % n)) g (fun i hi => by show g ((m * n + i) % n) = g i; rw [Nat.mul_comm, Nat.mul_add_mod, Nat.mod_eq_of_lt hi])]
    push_cast
    rw [Int.add_mul, Int.one_mul]
theorem sum_grid (w : Int) (f : Int → Int → Int) (n : Nat) (h0 : 0 < w) : sumL (gridL w f (n * w.toNat)) = sumN n (fun y => sumN w.toNat (fun x => f (x : Int) (y : Int))) := by
  have e : ∀ m : Nat, sumL (gridL w f m) = sumN m (cellAt w f) := fun m => rfl
  rw [e]
  induction n with
  | zero => rw [Nat.zero_mul]; rfl
  | succ n ih =>
    rw [Nat.add_mul, Nat.one_mul, sumN_add, ih, sumN_succ]
    congr 1
    refine sumN_congr _ _ _ (fun x hx => ?_)
    show cellAt w f (n * w.toNat + x) = _
    unfold cellAt
    obtain ⟨c0, c1⟩ := cell_of (x : Int) (n : Int) h0 (by omega) (by omega)
    have : ((n * w.toNat + x : Nat) : Int) = (n : Int) * w + (x : Int) := by rw [Int.natCast_add, Int.natCast_mul, Int.toNat_of_nonneg (by omega)]
    rw [this, c0, c1]
def tileL (w h : Int) (l : List Int) (a b : Int) : List Int := gridL a (fun x y => rd l (y % h * w + x % w)) (b.toNat * a.toNat)
theorem tile_sum {w h : Int} {l : List Int} {m : Int} (hp : picB w h l m = true) (p q : Nat) : sumL (tileL w h l ((p : Int) * w) ((q : Int) * h)) = p * (q * sumL l) := by
  obtain ⟨h0, h1, h2, h3, h4, h5, h6⟩ := pic_spec hp
  by_cases hp0 : p = 0
  · subst hp0
    unfold tileL
    simp [gridL, sumL]
  have hw : w = (w.toNat : Int) := by omega
  have hh : h = (h.toNat : Int) := by omega
  have ew : ((p : Int) * w).toNat = p * w.toNat := by rw [Int.toNat_mul (by omega) (by omega), Int.toNat_natCast]
  have eh : ((q : Int) * h).toNat = q * h.toNat := by rw [Int.toNat_mul (by omega) (by omega), Int.toNat_natCast]
  unfold tileL
  have hpos : 0 < (p : Int) * w := Int.mul_pos (by omega) (by omega)
  rw [sum_grid _ _ _ hpos, ew, eh]
  have inner : ∀ y : Nat, sumN (p * w.toNat) (fun x => rd l ((y : Int) % h * w + (x : Int) % w)) = p * sumN w.toNat (fun x => rd l (((y % h.toNat : Nat) : Int) * w + (x : Int))) := by
    intro y
    rw [← sumN_per p w.toNat (fun x => rd l (((y % h.toNat : Nat) : Int) * w + (x : Int)))]
    refine sumN_congr _ _ _ (fun x _ => ?_)
    show rd l _ = rd l _
    rw [Int.natCast_emod, Int.natCast_emod, ← hw, ← hh]
  rw [sumN_congr (q * h.toNat) _ (fun y => (p : Int) * sumN w.toNat (fun x => rd l (((y % h.toNat : Nat) : Int) * w + (x : Int)))) (fun y _ => inner y), sumN_mul]
  rw [sumN_per q h.toNat (fun y => sumN w.toNat (fun x => rd l ((y : Int) * w + (x : Int))))]
  congr 2
  rw [← sum_grid w (fun x y => rd l (y * w + x)) h.toNat (by omega)]
  congr 1
  exact cell_id w _ l _ (pic_len hp).symm (by omega) (fun x y _ _ => rfl)
/-- The law FnTiled: a picture tiled holds its amounts as often as it is laid, and gives the picture back where it is cut; for the inputs that the law draws. -/
theorem FnTiled (l0 : List Int) (h0_ : l0.length ≤ maxLen) (h1_ : l0.length * 1 ≤ 140737488351232) (h2_ : (∀ x ∈ l0, (Lit.int .u8 x).wf = true)) :
    ∃ k, P.laws_FnTiled.f k l0 = some true := by
  refine Ev.rounds ?_
  unfold laws_FnTiled.f
  by_cases hl : (l0.length : Int) > 1048576
  · exact Ev_pos hl (Ev.now _)
  refine Ev_neg hl ?_
  obtain ⟨w, h, l, hp, hw, hh, HM⟩ := MakePicture_ok l0 8 h0_ (by omega) (by omega)
  obtain ⟨g0, g1, g2, g3, g4, g5, g6⟩ := pic_spec hp
  obtain ⟨a, ha, a0, a1⟩ := at_ok l0 1 (by omega) (by omega) (by omega) (u8_bd h2_)
  obtain ⟨b, hb, b0, b1⟩ := at_ok l0 2 (by omega) (by omega) (by omega) (u8_bd h2_)
  refine Ev.bind HM ?_
  simp only [ha, hb, Option.bind_some]
  have x0 := Int.emod_nonneg a (b := 3) (by omega)
  have x1 := Int.emod_lt_of_pos a (b := 3) (by omega)
  have y0 := Int.emod_nonneg b (b := 3) (by omega)
  have y1 := Int.emod_lt_of_pos b (b := 3) (by omega)
  rw [Int.tmod_eq_emod_of_nonneg a0, Int.tmod_eq_emod_of_nonneg b0, wid (1 + a % 3) (by omega) (by omega), wid (1 + b % 3) (by omega) (by omega)]
  obtain ⟨p, hpn⟩ : ∃ p : Nat, 1 + a % 3 = (p : Int) := ⟨(1 + a % 3).toNat, by omega⟩
  obtain ⟨q, hqn⟩ : ∃ q : Nat, 1 + b % 3 = (q : Int) := ⟨(1 + b % 3).toNat, by omega⟩
  rw [hpn, hqn]
  have p1 : 1 ≤ p ∧ p ≤ 3 := by omega
  have q1 : 1 ≤ q ∧ q ≤ 3 := by omega
  clear hpn hqn x0 x1 y0 y1 ha hb a0 a1 b0 b1
  have pw0 : 1 * w ≤ (p : Int) * w := Int.mul_le_mul_of_nonneg_right (by omega) (by omega)
  have pw1 : (p : Int) * w ≤ 3 * w := Int.mul_le_mul_of_nonneg_right (by omega) (by omega)
  have qh0 : 1 * h ≤ (q : Int) * h := Int.mul_le_mul_of_nonneg_right (by omega) (by omega)
  have qh1 : (q : Int) * h ≤ 3 * h := Int.mul_le_mul_of_nonneg_right (by omega) (by omega)
  have pq0 : (p : Int) * q ≤ 3 * 3 := Int.le_trans (Int.mul_le_mul_of_nonneg_right (by omega) (by omega)) (Int.mul_le_mul_of_nonneg_left (by omega) (by omega))
  have pq1 : 0 ≤ (p : Int) * q := Int.mul_nonneg (by omega) (by omega)
  have e1 : ((p : Int) - 1) * w = (p : Int) * w - w := by rw [Int.sub_mul, Int.one_mul]
  have e2 : ((q : Int) - 1) * h = (q : Int) * h - h := by rw [Int.sub_mul, Int.one_mul]
  have area : (p : Int) * w * ((q : Int) * h) ≤ 24 * 24 := Int.le_trans (Int.mul_le_mul_of_nonneg_right (by omega) (by omega)) (Int.mul_le_mul_of_nonneg_left (by omega) (by omega))
  rw [wid ((p : Int) * w) (by omega) (by omega), wid ((q : Int) * h) (by omega) (by omega)]
  have hs : sizedB ((p : Int) * w) ((q : Int) * h) = true := decide_eq_true ⟨by omega, by omega, by omega, by omega, by omega⟩
  have ht : impl_TilePicture.f w h l ((p : Int) * w) ((q : Int) * h) = some ((p : Int) * w, (q : Int) * h, tileL w h l ((p : Int) * w) ((q : Int) * h), true) := if_pos ⟨hp, hs⟩
  have tp : picB ((p : Int) * w) ((q : Int) * h) (tileL w h l ((p : Int) * w) ((q : Int) * h)) 255 = true := by
    refine pic_mk hs (gridL_len _ _ _) (grid_mem (by omega) (by omega) (fun x y _ _ _ _ => ?_))
    exact rd_pic hp (x % w) (y % h) (Int.emod_nonneg _ (by omega)) (Int.emod_lt_of_pos _ (by omega)) (Int.emod_nonneg _ (by omega)) (Int.emod_lt_of_pos _ (by omega))
  have tsum := tile_sum hp p q
  have sb := pic_sum_bd hp
  have sp := pic_small hp
  simp only [ht, Option.bind_some]
  refine Ev_pos (by trivial) (Ev.bind (pic_sum tp) (Ev.bind (pic_total hp (by omega)) ?_))
  have sq : (p : Int) * q * sumL l ≤ 9 * 262144 := Int.le_trans (Int.mul_le_mul_of_nonneg_right (by omega) (by omega)) (Int.mul_le_mul_of_nonneg_left (by omega) (by omega))
  have sq0 : 0 ≤ (p : Int) * q * sumL l := Int.mul_nonneg pq1 (by omega)
  rw [wid ((p : Int) * q) (by omega) (by omega), wid ((p : Int) * q * sumL l) (by omega) (by omega), tsum, ← Int.mul_assoc, bne_self_eq_false]
  refine Ev.step (fun k => by rw [laws_FnTiled.j0]) (Ev_neg (by simp) ?_)
  rw [wid ((p : Int) - 1) (by omega) (by omega), wid ((q : Int) - 1) (by omega) (by omega), wid (((p : Int) - 1) * w) (by omega) (by omega), wid (((q : Int) - 1) * h) (by omega) (by omega), wid (((p : Int) - 1) * w + 1) (by omega) (by omega)]
  have hsw : sizedB w h = true := decide_eq_true ⟨g0, g1, g2, g3, g4⟩
  have c1 : impl_CropPicture.f ((p : Int) * w) ((q : Int) * h) (tileL w h l ((p : Int) * w) ((q : Int) * h)) (((p : Int) - 1) * w) (((q : Int) - 1) * h) w h = some (w, h, l, true) := by
    unfold impl_CropPicture.f
    rw [if_pos ⟨tp, hsw, by omega, by omega, by omega, by omega⟩]
    have : gridL w (fun x y => rd (tileL w h l ((p : Int) * w) ((q : Int) * h)) ((((q : Int) - 1) * h + y) * ((p : Int) * w) + ((p : Int) - 1) * w + x)) (h.toNat * w.toNat) = l := by
      refine cells_ext (w := w) (h := h) (by omega) (by omega) (gridL_len _ _ _) (pic_len hp).symm (fun x y a b c d => ?_)
      rw [rd_grid _ x y (by omega) (by omega) a b c d]
      show rd _ ((((q : Int) - 1) * h + y) * ((p : Int) * w) + ((p : Int) - 1) * w + x) = _
      rw [Int.add_assoc]
      unfold tileL
      rw [rd_grid _ (((p : Int) - 1) * w + x) (((q : Int) - 1) * h + y) (by omega) (by omega) (by omega) (by omega) (by omega) (by omega)]
      show rd l ((((q : Int) - 1) * h + y) % h * w + (((p : Int) - 1) * w + x) % w) = _
      rw [(cell_of x ((p : Int) - 1) (w := w) (by omega) a b).1, (cell_of y ((q : Int) - 1) (w := h) (by omega) c d).1]
    rw [this]
  have c2 : impl_CropPicture.f ((p : Int) * w) ((q : Int) * h) (tileL w h l ((p : Int) * w) ((q : Int) * h)) (((p : Int) - 1) * w + 1) 0 w h = some (0, 0, [], false) := by
    unfold impl_CropPicture.f
    rw [if_neg (fun c => by have := c.2.2.2.2.1; omega)]
  simp only [c1, c2, Option.bind_some]
  exact Ev_pos (by trivial) (Ev.bind (same_self w h l w h l (by omega) ⟨rfl, rfl, rfl⟩) (Ev_pos rfl (Ev.now _)))
end Go.Proofs.Ytbgbbfdmgpcgmaa.Q
