/- The law FnTiles: every tile of a screened level, at whole tiles from any place of the matrix on, has as many dots as the level says; for the inputs that the law draws. -/
import Derived.Laws.BitsLemmas
import Derived.Test.YtdlehfnlibddcaaFimplBlurPicture
import Derived.Test.YtdlehfnlibddcaaFimplDoubleMatrix
import Derived.Test.YtdlehfnlibddcaaFimplIsMatrix
import Derived.Test.YtdlehfnlibddcaaFimplIsPicture
import Derived.Test.YtdlehfnlibddcaaFimplIsPlate
import Derived.Test.YtdlehfnlibddcaaFimplScreenLevel
import Derived.Test.YtdlehfnlibddcaaFimplTileSums
import Derived.Test.YtdlehfnlibddcaaFimplcelled
import Derived.Test.YtdlehfnlibddcaaFimplmod
import Derived.Test.YtdlehfnlibddcaaFimplrank
import Derived.Test.YtdlehfnlibddcaaFlawsFnTiles
import Derived.Test.YtdlehfnlibddcaaFlawsat
import Derived.Test.YtdlehfnlibddcaaFlawsequals
import Derived.Test.YtdlehfnlibddcaaFlawsints
import Derived.Test.YtdlehfnlibddcaaFpre
import Derived.Test.YtdlehfnlibddcaaFspecBayerMatrix
import Derived.Test.YtdlehfnlibddcaaFspecIsMatrix
import Derived.Test.YtdlehfnlibddcaaFspecMakeMatrix
import Derived.Test.YtdlehfnlibddcaaFspecRowMatrix
import Derived.Test.YtdlehfnlibddcaaFspecShiftMatrix
import Derived.Test.YtdlehfnlibddcaaFspecSpiralMatrix
import Derived.Test.YtdlehfnlibddcaaFspecl01Below
import Derived.Test.YtdlehfnlibddcaaFspecl01Byte
import Derived.Test.YtdlehfnlibddcaaFspecl01New
import Derived.Test.YtdlehfnlibddcaaFspecl1In
import Derived.Test.YtdlehfnlibddcaaFspecl2Double
import Derived.Test.YtdlehfnlibddcaaFspecl2Draw
import Derived.Test.YtdlehfnlibddcaaFspecl2Mod
import Derived.Test.YtdlehfnlibddcaaFspecl2Rank
import Derived.Test.YtdlehfnlibddcaaFspecl2Shape
import Derived.Test.YtdlehfnlibddcaaP0
namespace Go.Proofs.Ytdlehfnlibddcaa.Q
open Go.RowKit Go.Proofs.Ytdlehfnlibddcaa.P Go.Proofs.YtdlehfnlibddcaaW.PrintWords
set_option linter.unusedVariables false
set_option linter.unusedSimpArgs false
theorem wsucc (i : Nat) (h : i < 9223372036854775807) : wrap64 ((i : Int) + 1) = ((i + 1 : Nat) : Int) := by unfold wrap64; omega
theorem wid (x : Int) (h0 : -9223372036854775808 ≤ x) (h1 : x ≤ 9223372036854775807) : wrap64 x = x := by unfold wrap64; omega
theorem rd_nat (l : List Int) (i : Nat) : rd l (i : Int) = l.getD i 0 := by unfold rd; rw [Int.toNat_natCast]
theorem getD_of_lt {α : Type} (l : List α) (d : α) (i : Nat) (h : i < l.length) : l.getD i d = l[i] := by simp [List.getD_eq_getElem?_getD, List.getElem?_eq_getElem h]
theorem getD_mem (l : List Int) (i : Nat) (h : i < l.length) : l.getD i 0 ∈ l := by rw [getD_of_lt l 0 i h]; exact List.getElem_mem h
theorem ext_getD {a b : List Int} (hl : a.length = b.length) (h : ∀ i, i < a.length → a.getD i 0 = b.getD i 0) : a = b := by
  apply List.ext_getElem hl
  intro i h1 h2
  have := h i h1
  rwa [getD_of_lt a 0 i h1, getD_of_lt b 0 i h2] at this
theorem getD_set (l : List Int) (i j : Nat) (x : Int) (hi : i < l.length) : (l.set i x).getD j 0 = if j = i then x else l.getD j 0 := by
  simp only [List.getD_eq_getElem?_getD, List.getElem?_set]
  by_cases h : i = j
  · subst h; simp [hi]
  · rw [if_neg h, if_neg (fun e => h e.symm)]
theorem getD_tab (n : Nat) (f : Nat → Int) (j : Nat) (h : j < n) : ((List.range n).map f).getD j 0 = f j := by
  simp [List.getD_eq_getElem?_getD, List.getElem?_map, List.getElem?_range h]
theorem len_tab (n : Nat) (f : Nat → Int) : ((List.range n).map f).length = n := by simp
theorem tab_congr (n : Nat) (f g : Nat → Int) (h : ∀ i, i < n → f i = g i) : (List.range n).map f = (List.range n).map g :=
  List.map_congr_left (fun i hi => h i (List.mem_range.1 hi))
theorem tab_self (l : List Int) : (List.range l.length).map (fun i => l.getD i 0) = l := by
  apply ext_getD (by simp)
  intro i hi
  rw [len_tab] at hi
  rw [getD_tab _ _ _ hi]
theorem foldl_add (l : List Int) (a : Int) : l.foldl (· + ·) a = a + l.foldl (· + ·) 0 := by
  induction l generalizing a with
  | nil => simp
  | cons x r ih => simp only [List.foldl_cons]; rw [ih (a + x), ih (0 + x)]; omega
def sumL (l : List Int) : Int := l.foldl (· + ·) 0
theorem sumL_append (a b : List Int) : sumL (a ++ b) = sumL a + sumL b := by unfold sumL; rw [List.foldl_append, foldl_add]
theorem sumL_one (x : Int) : sumL [x] = x := by simp [sumL]
theorem sumL_cons (x : Int) (l : List Int) : sumL (x :: l) = x + sumL l := by rw [show x :: l = [x] ++ l from rfl, sumL_append, sumL_one]
theorem Ev_pos {α : Type} {c : Prop} [Decidable c] {f g : Nat → Option α} {r : α} (hc : c) (h : Ev f r) : Ev (fun k => if c then f k else g k) r := Ev.congr (fun k => if_pos hc) h
theorem Ev_neg {α : Type} {c : Prop} [Decidable c] {f g : Nat → Option α} {r : α} (hc : ¬ c) (h : Ev g r) : Ev (fun k => if c then f k else g k) r := Ev.congr (fun k => if_neg hc) h
/-! The reference's pictures. -/
theorem l1In_eq (x a b : Int) : spec_l1In.f x a b = some (decide (a ≤ x ∧ x ≤ b)) := by
  unfold spec_l1In.f
  by_cases h : x ≥ a
  · rw [if_pos h]
    congr 1
    rw [decide_eq_decide]
    omega
  · rw [if_neg h, decide_eq_false (by omega)]
theorem within_le (l : List Int) (a b : Int) (h : a ≤ b) (hw : withinB l a = true) : withinB l b = true := by
  unfold withinB at hw ⊢
  rw [List.all_eq_true] at hw ⊢
  intro x hx
  have := of_decide_eq_true (hw x hx)
  exact decide_eq_true (by omega)
theorem plateB_eq (w h : Int) (l : List Int) : plateB w h l = picB w h l 1 := by
  unfold plateB picB
  cases sizedB w h <;> simp only [Bool.false_and, Bool.true_and]
  cases decide ((l.length : Int) = w * h) <;> simp only [Bool.false_and, Bool.true_and]
  cases hb : withinB l 1 with
  | false => rw [Bool.and_false]
  | true => rw [within_le l 1 255 (by omega) hb, Bool.and_true]
theorem gridL_tab (w : Int) (f : Int → Int → Int) (n : Nat) : gridL w f n = (List.range n).map fun i => cellAt w f i := rfl
theorem area_eq {w h : Int} (h0 : 0 ≤ w) (h1 : 0 ≤ h) : ((h.toNat * w.toNat : Nat) : Int) = w * h := by
  rw [Int.natCast_mul, Int.toNat_of_nonneg h0, Int.toNat_of_nonneg h1, Int.mul_comm]
theorem tdiv_nat (i : Nat) (w : Int) (h : 0 < w) : Int.tdiv (i : Int) w = (i : Int) / w := Int.tdiv_eq_ediv_of_nonneg (by omega)
theorem tmod_nat (i : Nat) (w : Int) : Int.tmod (i : Int) w = (i : Int) % w := Int.tmod_eq_emod_of_nonneg (by omega)
theorem cell_bd {w h : Int} (i : Nat) (h0 : 0 < w) (h1 : 0 < h) (hi : (i : Int) < w * h) : 0 ≤ (i : Int) % w ∧ (i : Int) % w < w ∧ 0 ≤ (i : Int) / w ∧ (i : Int) / w < h ∧ (i : Int) / w * w + (i : Int) % w = i := by
  refine ⟨Int.emod_nonneg _ (by omega), Int.emod_lt_of_pos _ h0, Int.ediv_nonneg (by omega) (by omega), ?_, ?_⟩
  · exact Int.ediv_lt_of_lt_mul h0 (by rw [Int.mul_comm]; exact hi)
  · have := Int.mul_ediv_add_emod (i : Int) w
    rw [Int.mul_comm] at this
    exact this
theorem cell_of {w : Int} (x y : Int) (h0 : 0 < w) (hx0 : 0 ≤ x) (hx : x < w) : (y * w + x) % w = x ∧ (y * w + x) / w = y := by
  constructor
  · rw [Int.add_comm, Int.add_mul_emod_self_right, Int.emod_eq_of_lt hx0 hx]
  · rw [Int.add_comm, Int.add_mul_ediv_right _ _ (by omega), Int.ediv_eq_zero_of_lt hx0 hx, Int.zero_add]
/-! Pairs of functions that answer alike. -/
theorem pic_rd {w h : Int} {l : List Int} {m : Int} (hp : picB w h l m = true) (x y : Int) (hx0 : 0 ≤ x) (hx : x < w) (hy0 : 0 ≤ y) (hy : y < h) : 0 ≤ y * w + x ∧ y * w + x < (l.length : Int) ∧ wrap64 (wrap64 (y * w) + x) = y * w + x := by
  obtain ⟨h0, h1, h2, h3, h4, h5, h6⟩ := pic_spec hp
  have e0 : 0 ≤ y * w := Int.mul_nonneg hy0 (by omega)
  have e1 : y * w ≤ (h - 1) * w := Int.mul_le_mul_of_nonneg_right (by omega) (by omega)
  have e2 : (h - 1) * w = w * h - w := by rw [Int.sub_mul, Int.one_mul, Int.mul_comm]
  rw [wid (y * w) (by omega) (by omega), wid _ (by omega) (by omega)]
  exact ⟨by omega, by omega, rfl⟩
/-! The drawing of inputs. -/
theorem and255 (n : Int) : Go.bits .and .i64 n 255 = n % 256 := by
  have h127 : (BitVec.ofInt 64 255).toNat = 2 ^ 8 - 1 := by decide
  have key : (BitVec.ofInt 64 n &&& BitVec.ofInt 64 255).toNat = (n % ((2 ^ 64 : Nat) : Int)).toNat % 2 ^ 8 := by
    rw [BitVec.toNat_and, BitVec.toNat_ofInt, h127, Nat.and_two_pow_sub_one_eq_mod]
  show IntKind.i64.wrap ((BitVec.ofInt 64 n &&& BitVec.ofInt 64 255).toNat : Nat) = n % 256
  rw [key, IntKind.wrap_i64]
  omega
theorem byte_ok (s : List Int) (a b : Int) (ha : 0 ≤ a) (hl : s.length ≤ maxLen) : ∃ v a2 b2 : Int, spec_l01Byte.f s a b = some (v, a2, b2) ∧ 0 ≤ v ∧ v ≤ 255 ∧ 0 ≤ a2 := by
  unfold maxLen at hl
  unfold spec_l01Byte.f
  simp only [and255]
  by_cases h : a < (s.length : Int)
  · rw [if_pos h, if_pos ha, wid (a + 1) (by omega) (by omega)]
    exact ⟨_, _, _, rfl, by omega, by omega, by omega⟩
  · rw [if_neg h]
    exact ⟨_, _, _, rfl, by omega, by omega, by omega⟩
theorem below_ok (s : List Int) (a b n : Int) (ha : 0 ≤ a) (hl : s.length ≤ maxLen) (h1 : 1 ≤ n) (h2 : n ≤ 256) : ∃ v a2 b2 : Int, spec_l01Below.f s a b n = some (v, a2, b2) ∧ 0 ≤ v ∧ v < n ∧ 0 ≤ a2 := by
  obtain ⟨v, a2, b2, e, h3, h4, h5⟩ := byte_ok s a b ha hl
  unfold spec_l01Below.f
  rw [if_neg (by omega), if_pos h2, e, Option.bind_some, if_neg (by omega)]
  exact ⟨_, _, _, rfl, Int.tmod_nonneg _ h3, Int.tmod_lt_of_pos _ (by omega), h5⟩
theorem new_ok (s : List Int) (hl : s.length ≤ maxLen) : ∃ b : Int, Ev (fun k => spec_l01New.f k s) (s, 0, b) := by
  unfold maxLen at hl
  have key : ∀ (d i : Nat) (x : Int), i + d = s.length → ∃ b : Int, Ev (fun k => spec_l01New.l0 k s x (i : Int)) (s, 0, b) := by
    intro d
    induction d with
    | zero =>
      intro i x hi
      refine ⟨x, Ev.step (fun k => by rw [spec_l01New.l0]) ?_⟩
      exact Ev_neg (by omega) (Ev.now _)
    | succ d ih =>
      intro i x hi
      by_cases h : (i : Int) < 4000
      · obtain ⟨b, hb⟩ := ih (i + 1) (Go.bits .and .i64 (wrap64 ((wrap64 ((wrap64 (x * 1103)) + (wrap64 (rd s (i : Int))))) + 7)) 1073741823) (by omega)
        refine ⟨b, Ev.step (fun k => ?_) hb⟩
        simp only [spec_l01New.l0]
        rw [if_pos (by omega), if_pos h, if_pos (by omega), wsucc i (by omega)]
      · refine ⟨x, Ev.step (fun k => by rw [spec_l01New.l0]) ?_⟩
        exact Ev_pos (by omega) (Ev_neg h (Ev.now _))
  exact key s.length 0 _ (by omega)
theorem pic_mk {w h : Int} {l : List Int} {m : Int} (hs : sizedB w h = true) (hl : l.length = h.toNat * w.toNat) (hx : ∀ x ∈ l, 0 ≤ x ∧ x ≤ m) : picB w h l m = true := by
  obtain ⟨h0, h1, h2, h3, h4⟩ := sized_spec hs
  unfold picB withinB
  rw [Bool.and_eq_true, Bool.and_eq_true, List.all_eq_true]
  have := area_eq (w := w) (h := h) (by omega) (by omega)
  exact ⟨hs, decide_eq_true (by omega), fun x hxl => decide_eq_true (hx x hxl)⟩
theorem sized_small {w h : Int} (h0 : 1 ≤ w) (h1 : w ≤ 16) (h2 : 1 ≤ h) (h3 : h ≤ 16) : sizedB w h = true := by
  have e : w * h ≤ 16 * 16 := Int.le_trans (Int.mul_le_mul_of_nonneg_right h1 (by omega)) (Int.mul_le_mul_of_nonneg_left h3 (by omega))
  exact decide_eq_true ⟨h0, by omega, h2, by omega, by omega⟩
theorem at_ok (s : List Int) (n : Int) (hl : s.length ≤ 1048576) (h0 : 0 ≤ n) (h1 : n ≤ 100) (hx : ∀ x ∈ s, 0 ≤ x ∧ x ≤ 255) : ∃ v : Int, laws_at.f s n = some v ∧ 0 ≤ v ∧ v ≤ 255 := by
  unfold laws_at.f
  by_cases h : n < (s.length : Int)
  · rw [if_pos h, if_pos h0]
    obtain ⟨m, rfl⟩ : ∃ m : Nat, n = (m : Int) := ⟨n.toNat, by omega⟩
    rw [rd_nat]
    have := hx _ (getD_mem s m (by omega))
    rw [wid _ (by omega) (by omega)]
    exact ⟨_, rfl, this.1, this.2⟩
  · rw [if_neg h, wid (n * 37) (by omega) (by omega), wid ((s.length : Int) * 11) (by omega) (by omega), wid _ (by omega) (by omega)]
    refine ⟨_, rfl, Int.tmod_nonneg _ (by omega), ?_⟩
    have := Int.tmod_lt_of_pos (n * 37 + (s.length : Int) * 11) (b := 256) (by omega)
    omega
/-! Equal pictures, sums over pictures. -/
theorem laws_ints_ev (a b : List Int) (ha : a.length ≤ maxLen) : Ev (fun k => laws_ints.f k a b) (decide (a = b)) := by
  unfold maxLen at ha
  by_cases hl : a.length = b.length
  · have key : ∀ d i : Nat, i + d = a.length → (∀ j, j < i → a.getD j 0 = b.getD j 0) → Ev (fun k => laws_ints.l0 k a b (a.length : Int) (i : Int)) (decide (a = b)) := by
      intro d
      induction d with
      | zero =>
        intro i hi hj
        have : a = b := ext_getD hl (fun j h => hj j (by omega))
        rw [decide_eq_true this]
        refine Ev.step (f := fun _ => some true) (fun k => ?_) (Ev.now _)
        simp only [laws_ints.l0]
        rw [if_neg (by omega)]
      | succ d ih =>
        intro i hi hj
        by_cases e : a.getD i 0 = b.getD i 0
        · refine Ev.step (fun k => ?_) (ih (i + 1) (by omega) (fun j h => if hji : j = i then hji ▸ e else hj j (by omega)))
          simp only [laws_ints.l0]
          rw [if_pos (by omega), if_pos (by omega), if_pos (by omega), if_pos (by omega), rd_nat, rd_nat, if_pos e, wsucc i (by omega)]
        · rw [decide_eq_false (fun h => e (by rw [h]))]
          refine Ev.step (f := fun _ => some false) (fun k => ?_) (Ev.now _)
          simp only [laws_ints.l0]
          rw [if_pos (by omega), if_pos (by omega), if_pos (by omega), if_pos (by omega), rd_nat, rd_nat, if_neg e]
    unfold laws_ints.f
    exact Ev_pos (by omega) (key a.length 0 (by omega) (fun j h => absurd h (by omega)))
  · rw [decide_eq_false (fun h => hl (by rw [h]))]
    unfold laws_ints.f
    exact Ev_neg (by omega) (Ev.now _)
theorem plate_pic {w h : Int} {l : List Int} (hp : plateB w h l = true) : picB w h l 255 = true := by
  unfold plateB at hp
  rw [Bool.and_eq_true] at hp
  exact hp.1
theorem grid_map (w : Int) (g : Int → Int) (l : List Int) (n : Nat) (hn : l.length = n) (h0 : 0 < w) : gridL w (fun x y => g (rd l (y * w + x))) n = l.map g := by
  subst hn
  rw [gridL_tab]
  have : l.map g = ((List.range l.length).map (fun i => l.getD i 0)).map g := by rw [tab_self]
  rw [this, List.map_map]
  refine List.map_congr_left (fun i hi => ?_)
  show g (rd l ((i : Int) / w * w + (i : Int) % w)) = g (l.getD i 0)
  have := Int.mul_ediv_add_emod (i : Int) w
  rw [Int.mul_comm] at this
  rw [this, rd_nat]
theorem u8_bd {l : List Int} (h : ∀ x ∈ l, (Lit.int .u8 x).wf = true) : ∀ x ∈ l, 0 ≤ x ∧ x ≤ 255 := by
  intro x hx
  have := h x hx
  simp [Lit.wf] at this
  have e1 : IntKind.u8.min = 0 := rfl
  have e2 : IntKind.u8.max = 255 := rfl
  omega
theorem rd_grid {w h : Int} (f : Int → Int → Int) (x y : Int) (h0 : 0 < w) (h1 : 0 < h) (hx0 : 0 ≤ x) (hx : x < w) (hy0 : 0 ≤ y) (hy : y < h) : rd (gridL w f (h.toNat * w.toNat)) (y * w + x) = f x y := by
  have hn := area_eq (w := w) (h := h) (by omega) (by omega)
  have e0 : 0 ≤ y * w := Int.mul_nonneg hy0 (by omega)
  have e1 : y * w ≤ (h - 1) * w := Int.mul_le_mul_of_nonneg_right (by omega) (by omega)
  have e2 : (h - 1) * w = w * h - w := by rw [Int.sub_mul, Int.one_mul, Int.mul_comm]
  obtain ⟨m, hm⟩ : ∃ m : Nat, y * w + x = (m : Int) := ⟨(y * w + x).toNat, by omega⟩
  obtain ⟨c0, c1⟩ := cell_of x y h0 hx0 hx
  rw [hm, rd_nat, gridL_tab, getD_tab _ _ _ (by omega)]
  unfold cellAt
  rw [← hm, c0, c1]
theorem grid_mem {w h : Int} {f : Int → Int → Int} {lo hi : Int} (h0 : 0 < w) (h1 : 0 < h) (hf : ∀ x y : Int, 0 ≤ x → x < w → 0 ≤ y → y < h → lo ≤ f x y ∧ f x y ≤ hi) : ∀ v ∈ gridL w f (h.toNat * w.toNat), lo ≤ v ∧ v ≤ hi := by
  intro v hv
  rw [gridL_tab] at hv
  obtain ⟨i, hi, rfl⟩ := List.mem_map.1 hv
  have hn := area_eq (w := w) (h := h) (by omega) (by omega)
  obtain ⟨b0, b1, b2, b3, b4⟩ := cell_bd (w := w) (h := h) i h0 h1 (by have := List.mem_range.1 hi; omega)
  exact hf _ _ b0 b1 b2 b3
theorem rd_pic {w h : Int} {l : List Int} {m : Int} (hp : picB w h l m = true) (x y : Int) (hx0 : 0 ≤ x) (hx : x < w) (hy0 : 0 ≤ y) (hy : y < h) : 0 ≤ rd l (y * w + x) ∧ rd l (y * w + x) ≤ m := by
  obtain ⟨h0, h1, h2, h3, h4, h5, h6⟩ := pic_spec hp
  obtain ⟨e0, e1, e2⟩ := pic_rd hp x y hx0 hx hy0 hy
  obtain ⟨k, hk⟩ : ∃ k : Nat, y * w + x = (k : Int) := ⟨(y * w + x).toNat, by omega⟩
  rw [hk, rd_nat]
  exact h6 _ (getD_mem l k (by omega))
/-! Sums over grids. -/
def sumN (n : Nat) (g : Nat → Int) : Int := sumL ((List.range n).map g)
theorem sumN_zero (g : Nat → Int) : sumN 0 g = 0 := rfl
theorem sumN_succ (n : Nat) (g : Nat → Int) : sumN (n + 1) g = sumN n g + g n := by
  unfold sumN
  rw [List.range_succ, List.map_append, sumL_append, List.map_cons, List.map_nil, sumL_one]
theorem sumN_congr (n : Nat) (f g : Nat → Int) (h : ∀ i, i < n → f i = g i) : sumN n f = sumN n g := by
  unfold sumN
  rw [tab_congr n f g h]
theorem sumN_add (m n : Nat) (g : Nat → Int) : sumN (m + n) g = sumN m g + sumN n (fun i => g (m + i)) := by
  induction n with
  | zero => rw [sumN_zero]; simp
  | succ n ih => rw [← Nat.add_assoc, sumN_succ, sumN_succ, ih, Int.add_assoc]
theorem sum_grid (w : Int) (f : Int → Int → Int) (n : Nat) (h0 : 0 < w) : sumL (gridL w f (n * w.toNat)) = sumN n (fun y => sumN w.toNat (fun x => f (x : Int) (y : Int))) := by
  have e : ∀ m : Nat, sumL (gridL w f m) = sumN m (cellAt w f) := fun m => rfl
  rw [e]
  induction n with
  | zero => rw [Nat.zero_mul]; rfl
  | succ n ih =>
    rw [Nat.add_mul, Nat.one_mul, sumN_add, ih, sumN_succ]
    congr 1
    refine sumN_congr _ _ _ (fun x hx => ?_)
    show cellAt w f (n * w.toNat + x) = _
    unfold cellAt
    obtain ⟨c0, c1⟩ := cell_of (x : Int) (n : Int) h0 (by omega) (by omega)
    have : ((n * w.toNat + x : Nat) : Int) = (n : Int) * w + (x : Int) := by rw [Int.natCast_add, Int.natCast_mul, Int.toNat_of_nonneg (by omega)]
    rw [this, c0, c1]
/-! Matrices. -/
theorem l2Shape_eq (a b : Int) : spec_l2Shape.f a b = some (celledB a b) := by
  unfold spec_l2Shape.f celledB
  rw [l1In_eq, Option.bind_some]
  by_cases h0 : 1 ≤ a ∧ a ≤ 256
  · rw [decide_eq_true h0, if_pos rfl, l1In_eq, Option.bind_some]
    by_cases h1 : 1 ≤ b ∧ b ≤ 256
    · rw [decide_eq_true h1, if_pos rfl]
      have e0 : 0 ≤ a * b := Int.mul_nonneg (by omega) (by omega)
      have e1 : a * b ≤ 256 * 256 := Int.le_trans (Int.mul_le_mul_of_nonneg_right h0.2 (by omega)) (Int.mul_le_mul_of_nonneg_left h1.2 (by omega))
      rw [wid (a * b) (by omega) (by omega)]
      congr 1
      rw [decide_eq_decide]
      exact ⟨fun h => ⟨h0.1, h0.2, h1.1, h1.2, h⟩, fun h => h.2.2.2.2⟩
    · rw [decide_eq_false h1, if_neg (by simp), decide_eq_false (fun h => h1 ⟨h.2.2.1, h.2.2.2.1⟩)]
  · rw [decide_eq_false h0, if_neg (by simp), decide_eq_false (fun h => h0 ⟨h.1, h.2.1⟩)]
theorem rows_tab {w : Int} (n : Nat) (h0 : 0 < w) : gridL w (fun x y => y * w + x) n = (List.range n).map (fun i : Nat => (i : Int)) := by
  rw [gridL_tab]
  refine tab_congr _ _ _ (fun i _ => ?_)
  show (i : Int) / w * w + (i : Int) % w = i
  have := Int.mul_ediv_add_emod (i : Int) w
  rw [Int.mul_comm] at this
  exact this
theorem specRow_ev (w h : Int) : Ev (fun k => spec_RowMatrix.f k w h) (if celledB w h = true then (w, h, gridL w (fun x y => y * w + x) (Int.toNat h * Int.toNat w), true) else (0, 0, [], false)) := by
  unfold spec_RowMatrix.f
  rw [l2Shape_eq]
  simp only [Option.bind_some]
  by_cases hc : celledB w h = true
  · obtain ⟨h0, h1, h2, h3, h4⟩ := celled_spec hc
    have hn := area_eq (w := w) (h := h) (by omega) (by omega)
    have hp : 0 ≤ w * h := Int.mul_nonneg (by omega) (by omega)
    rw [if_pos hc, rows_tab _ (by omega)]
    refine Ev_pos hc ?_
    have key : ∀ d i : Nat, i + d = h.toNat * w.toNat → Ev (fun k => spec_RowMatrix.l0 k w h (i : Int) w h ((List.range i).map (fun i : Nat => (i : Int)))) (w, h, (List.range (h.toNat * w.toNat)).map (fun i : Nat => (i : Int)), true) := by
      intro d
      induction d with
      | zero =>
        intro i hi
        obtain rfl : i = h.toNat * w.toNat := by omega
        refine Ev.step (fun k => by rw [spec_RowMatrix.l0]) ?_
        exact Ev_neg (by rw [wid (w * h) (by omega) (by omega)]; omega) (Ev.now _)
      | succ d ih =>
        intro i hi
        have := ih (i + 1) (by omega)
        rw [List.range_succ, List.map_append, ← wsucc i (by omega)] at this
        refine Ev.step (fun k => by rw [spec_RowMatrix.l0]) ?_
        exact Ev_pos (by rw [wid (w * h) (by omega) (by omega)]; omega) (Ev_pos (by rw [List.length_map, List.length_range]; omega) this)
    exact key (h.toNat * w.toNat) 0 (by omega)
  · rw [if_neg hc]
    exact Ev_neg hc (Ev.now _)
theorem specIsMatrix_ev (w h : Int) (l : List Int) (hl : l.length ≤ 1048576) : ∃ r : Bool, Ev (fun k => spec_IsMatrix.f k w h l) r ∧ Ev (fun _ => impl_IsMatrix.f w h l) r := by
  unfold spec_IsMatrix.f impl_IsMatrix.f
  rw [l2Shape_eq, impl_celled.eq]
  simp only [Option.bind_some]
  have bad : Ev (fun k => spec_IsMatrix.j0 k true w h l) false := by
    refine Ev.step (f := fun _ => some false) (fun k => ?_) (Ev.now _)
    simp only [spec_IsMatrix.j0, if_true]
  by_cases hc : celledB w h = true
  · by_cases hn : ((l.length : Int) != wrap64 (w * h)) = true
    · exact ⟨false, Ev_pos hc (by rw [hn]; exact bad), Ev_pos hc (Ev_pos hn (Ev.now _))⟩
    · rw [Bool.not_eq_true] at hn
      obtain ⟨h0, h1, h2, h3, h4⟩ := celled_spec hc
      have e0 : 0 ≤ w * h := Int.mul_nonneg (by omega) (by omega)
      have hln : (l.length : Int) = w * h := by
        have : (l.length : Int) = wrap64 (w * h) := by simpa using hn
        rw [this, wid (w * h) (by omega) (by omega)]
      have hsm : l.length ≤ 256 := by omega
      have key : ∀ (d i : Nat) (s : List Bool) (s2 : List Bool), i + d = l.length → s.length = l.length → s2.length = 256 → (∀ j, j < l.length → s.getD j false = s2.getD j false) → Ev (fun k => spec_IsMatrix.l0 k s l (l.length : Int) (i : Int) w h l) (seenB (l.drop i) (l.length : Int) s2) := by
        intro d
        induction d with
        | zero =>
          intro i s s2 hi hs hs2 he
          rw [List.drop_eq_nil_of_le (by omega)]
          refine Ev.step (fun k => by rw [spec_IsMatrix.l0]) ?_
          exact Ev_neg (by omega) (Ev.now true)
        | succ d ih =>
          intro i s s2 hi hs hs2 he
          have hr : rd l (i : Int) = l[i] := by rw [rd_nat, getD_of_lt]
          rw [List.drop_eq_getElem_cons (by omega)]
          unfold seenB
          refine Ev.step (fun k => by rw [spec_IsMatrix.l0]) ?_
          refine Ev_pos (by omega) (Ev_pos (by omega) (Ev_pos (by omega) ?_))
          rw [hr, wid ((l.length : Int) - 1) (by omega) (by omega), l1In_eq]
          simp only [Option.bind_some]
          generalize l[i] = x
          by_cases c : 0 ≤ x ∧ x ≤ (l.length : Int) - 1
          · refine Ev_pos (decide_eq_true c) (Ev_pos c.1 (Ev_pos (by omega) ?_))
            rw [if_neg (by omega), if_neg (by omega)]
            have hx := he x.toNat (by omega)
            have hrd : rdOf false s x = s2.getD x.toNat false := by rw [← hx]; rfl
            rw [hrd]
            by_cases b : s2.getD x.toNat false = true
            · rw [if_pos b]
              exact Ev_pos b (Ev.now _)
            · rw [if_neg b]
              refine Ev_neg b ?_
              rw [wsucc i (by omega)]
              refine ih (i + 1) _ _ (by omega) (by rw [List.length_set]; exact hs) (by rw [List.length_set]; exact hs2) (fun j hj => ?_)
              simp only [List.getD_eq_getElem?_getD, List.getElem?_set]
              have hj' := he j hj
              simp only [List.getD_eq_getElem?_getD] at hj'
              by_cases q : x.toNat = j
              · rw [if_pos q, if_pos q, if_pos (by omega), if_pos (by omega)]
              · rw [if_neg q, if_neg q]
                exact hj'
          · refine Ev_neg (by rw [decide_eq_false c]; simp) ?_
            by_cases c1 : x < 0
            · rw [if_pos c1]
              exact Ev.now _
            · rw [if_neg c1, if_pos (by omega)]
              exact Ev.now _
      refine ⟨seenB l (l.length : Int) (List.replicate 256 false), Ev_pos hc ?_, Ev_pos hc (Ev_neg (by rw [hn]; simp) (Ev.now _))⟩
      rw [hn]
      refine Ev.step (fun k => by rw [spec_IsMatrix.j0]) ?_
      refine Ev_neg (by simp) (Ev_pos (by omega) (Ev_pos (by omega) ?_))
      have := key l.length 0 (List.replicate l.length false) (List.replicate 256 false) (by omega) List.length_replicate List.length_replicate (fun j hj => by
        rw [getD_of_lt _ false j (by rw [List.length_replicate]; exact hj), getD_of_lt _ false j (by rw [List.length_replicate]; omega), List.getElem_replicate, List.getElem_replicate])
      rw [Int.toNat_natCast]
      exact this
  · exact ⟨false, Ev_neg hc bad, Ev_neg hc (Ev.now _)⟩
/-! Ranks. -/
theorem specMod_ev (x w : Int) (hw : 0 < w) (hw2 : w ≤ 1000000000000) : spec_l2Mod.f x w = some (x % w) := by
  have b0 := Int.emod_nonneg x (b := w) (by omega)
  have b1 := Int.emod_lt_of_pos x hw
  unfold spec_l2Mod.f
  rw [if_neg (by omega)]
  by_cases hx : 0 ≤ x
  · rw [Int.tmod_eq_emod_of_nonneg hx, if_neg (by omega)]
  · have e : Int.tmod x w = -((-x) % w) := by
      rw [← Int.tmod_eq_emod_of_nonneg (by omega : 0 ≤ -x), Int.neg_tmod, Int.neg_neg]
    have c0 := Int.emod_nonneg (-x) (b := w) (by omega)
    have c1 := Int.emod_lt_of_pos (-x) hw
    rw [e]
    have d1 := Int.mul_ediv_add_emod x w
    have d2 := Int.mul_ediv_add_emod (-x) w
    by_cases hz : (-x) % w = 0
    · rw [hz, if_neg (by omega)]
      have : x % w = 0 := Int.emod_eq_zero_of_dvd ((Int.dvd_neg.1 (Int.dvd_of_emod_eq_zero hz)))
      rw [this]
      rfl
    · rw [if_pos (by omega), wid _ (by omega) (by omega)]
      congr 1
      have e3 : w * (x / w) + w * (-x / w) = w * (x / w + -x / w) := (Int.mul_add _ _ _).symm
      have k1 : x / w + -x / w < 0 := by
        by_cases k : 0 ≤ x / w + -x / w
        · have := Int.mul_nonneg (by omega : 0 ≤ w) k
          omega
        · omega
      have k2 : -2 < x / w + -x / w := by
        by_cases k : x / w + -x / w ≤ -2
        · have := Int.mul_le_mul_of_nonneg_left k (by omega : 0 ≤ w)
          omega
        · omega
      rw [show x / w + -x / w = -1 by omega] at e3
      omega
theorem specIsMat_ev (w h : Int) (l : List Int) (hl : l.length ≤ 1048576) : Ev (fun k => spec_IsMatrix.f k w h l) (matB w h l) := by
  obtain ⟨r, h1, K, h2⟩ := specIsMatrix_ev w h l hl
  have := h2 K (Nat.le_refl _)
  rw [impl_IsMatrix.eq] at this
  rw [Option.some.inj this]
  exact h1
theorem rank_eq {w h : Int} {l : List Int} (hm : matB w h l = true) (x y : Int) : spec_l2Rank.f w h l x y = some (rd l (y % h * w + x % w)) ∧ impl_rank.f w h l x y = some (rd l (y % h * w + x % w)) := by
  obtain ⟨h0, h1, h2, h3, h4, h5, _⟩ := mat_spec hm
  have bx := Int.emod_nonneg x (b := w) (by omega)
  have bx' := Int.emod_lt_of_pos x (b := w) (by omega)
  have by_ := Int.emod_nonneg y (b := h) (by omega)
  have by' := Int.emod_lt_of_pos y (b := h) (by omega)
  have hb := idx_lt (w := w) (h := h) (x := x % w) (y := y % h) bx bx' by_ by'
  have hm0 : 0 ≤ y % h * w := Int.mul_nonneg (by omega) (by omega)
  unfold spec_l2Rank.f impl_rank.f
  rw [specMod_ev y h (by omega) (by omega), specMod_ev x w (by omega) (by omega), impl_mod.eq y h (by omega) (by omega), impl_mod.eq x w (by omega) (by omega)]
  simp only [Option.bind_some]
  rw [wid (y % h * w) (by omega) (by omega), wid (y % h * w + x % w) (by omega) (by omega), if_pos hb.1, if_pos (by omega)]
  exact ⟨rfl, rfl⟩
theorem sumN_bd (n : Nat) (f : Nat → Int) (b : Int) (hb : 0 ≤ b) (h : ∀ i, i < n → 0 ≤ f i ∧ f i ≤ b) : 0 ≤ sumN n f ∧ sumN n f ≤ b * n := by
  induction n with
  | zero => rw [sumN_zero]; simp
  | succ n ih =>
    rw [sumN_succ]
    have h1 := ih (fun i hi => h i (by omega))
    have h2 := h n (by omega)
    push_cast
    rw [Int.mul_add, Int.mul_one]
    omega
/-! Matrices reversed. -/
theorem mat_len {w h : Int} {l : List Int} (hm : matB w h l = true) : h.toNat * w.toNat = l.length := by
  obtain ⟨h0, h1, h2, h3, h4, h5, _⟩ := mat_spec hm
  have := area_eq (w := w) (h := h) (by omega) (by omega)
  omega
theorem grid_modmap {w h : Int} {l : List Int} (g : Int → Int) (hm : matB w h l = true) : gridL w (fun x y => g (rd l (y % h * w + x % w))) (h.toNat * w.toNat) = l.map g := by
  obtain ⟨h0, h1, h2, h3, h4, h5, _⟩ := mat_spec hm
  rw [mat_len hm, ← grid_map w g l l.length rfl (by omega), gridL_tab, gridL_tab]
  refine tab_congr _ _ _ (fun i hi => ?_)
  obtain ⟨b0, b1, b2, b3, b4⟩ := cell_bd (w := w) (h := h) i (by omega) (by omega) (by omega)
  show g (rd l ((i : Int) / w % h * w + (i : Int) % w % w)) = g (rd l ((i : Int) / w * w + (i : Int) % w))
  rw [Int.emod_eq_of_lt b2 b3, Int.emod_eq_of_lt b0 b1]
theorem specShift_ev (w h : Int) (l : List Int) (dx dy : Int) (hl : l.length ≤ 1048576) : Ev (fun k => spec_ShiftMatrix.f k w h l dx dy) (if matB w h l = true ∧ -1000 ≤ dx ∧ dx ≤ 1000 ∧ -1000 ≤ dy ∧ dy ≤ 1000 then (w, h, gridL w (fun x y => rd l ((y - dy) % h * w + (x - dx) % w)) (Int.toNat h * Int.toNat w)) else (0, 0, [])) := by
  have bad : Ev (fun k => spec_ShiftMatrix.j0 k dx dy true w h l) (0, 0, []) := by
    refine Ev.step (f := fun _ => some (0, 0, [])) (fun k => ?_) (Ev.now _)
    simp only [spec_ShiftMatrix.j0, if_true]
  unfold spec_ShiftMatrix.f
  refine Ev.bind (specIsMat_ev w h l hl) ?_
  rw [l1In_eq, l1In_eq]
  simp only [Option.bind_some]
  by_cases hm : matB w h l = true
  · refine Ev_pos hm ?_
    obtain ⟨h0, h1, h2, h3, h4, h5, _⟩ := mat_spec hm
    by_cases hx : -1000 ≤ dx ∧ dx ≤ 1000
    · refine Ev_pos (decide_eq_true hx) ?_
      by_cases hy : -1000 ≤ dy ∧ dy ≤ 1000
      · rw [if_pos ⟨hm, hx.1, hx.2, hy.1, hy.2⟩, decide_eq_true hy, mat_len hm]
        refine Ev.step (fun k => by rw [spec_ShiftMatrix.j0]) ?_
        refine Ev_neg (by simp) ?_
        have key : ∀ d i : Nat, i + d = l.length → Ev (fun k => spec_ShiftMatrix.l0 k dx dy (l.length : Int) (i : Int) w h l w h (gridL w (fun x y => rd l ((y - dy) % h * w + (x - dx) % w)) i)) (w, h, gridL w (fun x y => rd l ((y - dy) % h * w + (x - dx) % w)) l.length) := by
          intro d
          induction d with
          | zero =>
            intro i hi
            obtain rfl : i = l.length := by omega
            refine Ev.step (fun k => by rw [spec_ShiftMatrix.l0]) ?_
            exact Ev_neg (by omega) (Ev.now _)
          | succ d ih =>
            intro i hi
            obtain ⟨b0, b1, b2, b3, b4⟩ := cell_bd (w := w) (h := h) i (by omega) (by omega) (by omega)
            refine Ev.step (fun k => ?_) (ih (i + 1) (by omega))
            simp only [spec_ShiftMatrix.l0]
            rw [if_pos (by omega), if_neg (by omega), tmod_nat, tdiv_nat i w (by omega), wid ((i : Int) / w) (by omega) (by omega), wid ((i : Int) % w - dx) (by omega) (by omega), wid ((i : Int) / w - dy) (by omega) (by omega), (rank_eq hm _ _).1, Option.bind_some, gridL_len, if_pos (by omega), wsucc i (by omega), gridL_succ]
            rfl
        exact key l.length 0 (by omega)
      · rw [if_neg (fun q => hy ⟨q.2.2.2.1, q.2.2.2.2⟩), decide_eq_false hy]
        exact bad
    · rw [if_neg (fun q => hx ⟨q.2.1, q.2.2.1⟩)]
      exact Ev_neg (by rw [decide_eq_false hx]; simp) bad
  · rw [if_neg (fun q => hm q.1)]
    exact Ev_neg hm bad
/-! What a matrix is. -/
theorem seenB_iff (n : Int) : ∀ (l : List Int) (s : List Bool), n ≤ (s.length : Int) → (seenB l n s = true ↔ (∀ x ∈ l, 0 ≤ x ∧ x < n ∧ s.getD x.toNat false = false) ∧ l.Nodup) := by
  intro l
  induction l with
  | nil => intro s _; simp [seenB]
  | cons x xs ih =>
    intro s hs
    unfold seenB
    by_cases c0 : x < 0
    · rw [if_pos c0]
      refine ⟨fun h => by simp at h, fun h => ?_⟩
      have := (h.1 x (List.mem_cons_self ..)).1
      omega
    rw [if_neg c0]
    by_cases c1 : x ≥ n
    · rw [if_pos c1]
      refine ⟨fun h => by simp at h, fun h => ?_⟩
      have := (h.1 x (List.mem_cons_self ..)).2.1
      omega
    rw [if_neg c1]
    by_cases c2 : s.getD x.toNat false = true
    · rw [if_pos c2]
      refine ⟨fun h => by simp at h, fun h => ?_⟩
      have := (h.1 x (List.mem_cons_self ..)).2.2
      rw [c2] at this
      cases this
    rw [if_neg c2, ih _ (by rw [List.length_set]; exact hs), List.nodup_cons]
    have key : ∀ y : Int, 0 ≤ y → ((s.set x.toNat true).getD y.toNat false = false ↔ y ≠ x ∧ s.getD y.toNat false = false) := by
      intro y hy
      simp only [List.getD_eq_getElem?_getD, List.getElem?_set]
      by_cases e : y = x
      · subst e
        rw [if_pos rfl, if_pos (by omega)]
        simp
      · rw [if_neg (by omega)]
        simp [e]
    constructor
    · rintro ⟨h1, h2⟩
      refine ⟨fun y hy => ?_, fun hx => ?_, h2⟩
      · rcases List.mem_cons.1 hy with rfl | hy
        · exact ⟨by omega, by omega, by simpa using c2⟩
        · have := h1 y hy
          exact ⟨this.1, this.2.1, ((key y this.1).1 this.2.2).2⟩
      · have := h1 x hx
        exact ((key x this.1).1 this.2.2).1 rfl
    · rintro ⟨h1, h2, h3⟩
      refine ⟨fun y hy => ?_, h3⟩
      have := h1 y (List.mem_cons_of_mem _ hy)
      exact ⟨this.1, this.2.1, (key y this.1).2 ⟨fun e => h2 (e ▸ hy), this.2.2⟩⟩
theorem rep_false (n i : Nat) : (List.replicate n false).getD i false = false := by
  rw [List.getD_eq_getElem?_getD, List.getElem?_replicate]
  split <;> rfl
theorem mat_iff (w h : Int) (l : List Int) : matB w h l = true ↔ celledB w h = true ∧ (l.length : Int) = w * h ∧ (∀ x ∈ l, 0 ≤ x ∧ x < (l.length : Int)) ∧ l.Nodup := by
  unfold matB
  rw [Bool.and_eq_true, Bool.and_eq_true, decide_eq_true_eq]
  constructor
  · rintro ⟨h1, h2, h3⟩
    have := celled_spec h1
    rw [seenB_iff _ _ _ (by rw [List.length_replicate]; omega)] at h3
    exact ⟨h1, h2, fun x hx => ⟨(h3.1 x hx).1, (h3.1 x hx).2.1⟩, h3.2⟩
  · rintro ⟨h1, h2, h3, h4⟩
    have := celled_spec h1
    refine ⟨h1, h2, ?_⟩
    rw [seenB_iff _ _ _ (by rw [List.length_replicate]; omega)]
    exact ⟨fun x hx => ⟨(h3 x hx).1, (h3 x hx).2, rep_false _ _⟩, h4⟩
theorem nodup_iff (l : List Int) : l.Nodup ↔ ∀ i j : Nat, i < l.length → j < l.length → l.getD i 0 = l.getD j 0 → i = j := by
  constructor
  · intro h i j hi hj e
    rw [getD_of_lt l 0 i hi, getD_of_lt l 0 j hj] at e
    exact (List.getElem_inj h).1 e
  · intro h
    rw [List.nodup_iff_pairwise_ne, List.pairwise_iff_getElem]
    intro i j hi hj hij e
    have := h i j hi hj (by rw [getD_of_lt l 0 i hi, getD_of_lt l 0 j hj]; exact e)
    omega
/-- How many elements are below a number. -/
def cntLt (l : List Int) (v : Int) : Nat := (l.filter (fun x => decide (x < v))).length
theorem cntLt_step (l : List Int) (v : Int) (hn : l.Nodup) : cntLt l (v + 1) ≤ cntLt l v + 1 ∧ cntLt l v ≤ cntLt l (v + 1) := by
  induction l with
  | nil => simp [cntLt]
  | cons x xs ih =>
    obtain ⟨hx, hn'⟩ := List.nodup_cons.1 hn
    have ih := ih hn'
    unfold cntLt at ih ⊢
    simp only [List.filter_cons]
    by_cases c : x < v
    · rw [if_pos (by simp; omega), if_pos (by simp; omega)]
      simp only [List.length_cons]
      omega
    · by_cases c2 : x = v
      · subst c2
        rw [if_pos (by simp; omega), if_neg (by simp)]
        have : xs.filter (fun y => decide (y < x + 1)) = xs.filter (fun y => decide (y < x)) := by
          apply List.filter_congr
          intro y hy
          have : y ≠ x := fun e => hx (e ▸ hy)
          rw [decide_eq_decide]
          omega
        rw [this]
        simp only [List.length_cons]
        omega
      · rw [if_neg (by simp; omega), if_neg (by simp; omega)]
        exact ih
theorem cntLt_perm (l : List Int) (hb : ∀ x ∈ l, 0 ≤ x ∧ x < (l.length : Int)) (hn : l.Nodup) (v : Nat) (hv : v ≤ l.length) : cntLt l (v : Int) = v := by
  have up : ∀ v : Nat, cntLt l (v : Int) ≤ v := by
    intro v
    induction v with
    | zero =>
      unfold cntLt
      rw [List.filter_eq_nil_iff.2 (fun x hx => by have := hb x hx; simp; omega)]
      simp
    | succ v ih =>
      have := (cntLt_step l v hn).1
      push_cast
      omega
  have all : cntLt l (l.length : Int) = l.length := by
    unfold cntLt
    rw [List.filter_eq_self.2 (fun x hx => by have := hb x hx; simp; omega)]
  have down : ∀ d : Nat, d ≤ l.length → l.length ≤ cntLt l ((l.length - d : Nat) : Int) + d := by
    intro d
    induction d with
    | zero => intro _; simp [all]
    | succ d ih =>
      intro hd
      have h1 := ih (by omega)
      have h2 := (cntLt_step l ((l.length - (d + 1) : Nat) : Int) hn).1
      rw [show ((l.length - (d + 1) : Nat) : Int) + 1 = ((l.length - d : Nat) : Int) by omega] at h2
      omega
  have h1 := up v
  have h2 := down (l.length - v) (by omega)
  rw [show l.length - (l.length - v) = v by omega] at h2
  omega
theorem tab_nodup (n : Nat) (f : Nat → Int) (h : ∀ i j : Nat, i < n → j < n → f i = f j → i = j) : ((List.range n).map f).Nodup := by
  rw [nodup_iff, len_tab]
  intro i j hi hj e
  rw [getD_tab _ _ _ hi, getD_tab _ _ _ hj] at e
  exact h i j hi hj e
theorem mat_tab {w h : Int} (n : Nat) (f : Nat → Int) (hc : celledB w h = true) (hn : (n : Int) = w * h) (hb : ∀ i, i < n → 0 ≤ f i ∧ f i < (n : Int)) (hi : ∀ i j : Nat, i < n → j < n → f i = f j → i = j) : matB w h ((List.range n).map f) = true := by
  rw [mat_iff, len_tab]
  refine ⟨hc, hn, fun x hx => ?_, tab_nodup n f hi⟩
  obtain ⟨i, hi, rfl⟩ := List.mem_map.1 hx
  exact hb i (List.mem_range.1 hi)
theorem mat_get {w h : Int} {l : List Int} (hm : matB w h l = true) : celledB w h = true ∧ (l.length : Int) = w * h ∧ (∀ i, i < l.length → 0 ≤ l.getD i 0 ∧ l.getD i 0 < (l.length : Int)) ∧ ∀ i j : Nat, i < l.length → j < l.length → l.getD i 0 = l.getD j 0 → i = j := by
  rw [mat_iff] at hm
  exact ⟨hm.1, hm.2.1, fun i hi => hm.2.2.1 _ (getD_mem l i hi), (nodup_iff l).1 hm.2.2.2⟩
theorem mat_moved {w h : Int} {l : List Int} (hm : matB w h l = true) (s : Nat → Nat) (hs : ∀ i, i < l.length → s i < l.length) (hi : ∀ i j : Nat, i < l.length → j < l.length → s i = s j → i = j) : matB w h ((List.range l.length).map (fun i => l.getD (s i) 0)) = true := by
  obtain ⟨a, b, c, d⟩ := mat_get hm
  exact mat_tab _ _ a b (fun i h => c _ (hs i h)) (fun i j h1 h2 e => hi i j h1 h2 (d _ _ (hs i h1) (hs j h2) e))
theorem mat_swap {w h : Int} {l : List Int} (hm : matB w h l = true) (i k : Nat) (hi : i < l.length) (hk : k < l.length) : matB w h ((l.set i (l.getD k 0)).set k (l.getD i 0)) = true := by
  have e : (l.set i (l.getD k 0)).set k (l.getD i 0) = (List.range l.length).map (fun j => l.getD (if j = k then i else if j = i then k else j) 0) := by
    apply ext_getD (by rw [List.length_set, List.length_set, len_tab])
    intro j hj
    rw [List.length_set, List.length_set] at hj
    rw [getD_tab _ _ _ hj, getD_set _ _ _ _ (by rw [List.length_set]; exact hk), getD_set _ _ _ _ hi]
    by_cases c : j = k
    · rw [if_pos c, if_pos c]
    · rw [if_neg c, if_neg c]
      by_cases c2 : j = i
      · rw [if_pos c2, if_pos c2]
      · rw [if_neg c2, if_neg c2]
  rw [e]
  refine mat_moved hm _ (fun j hj => ?_) (fun a b _ _ q => ?_)
  · split
    · exact hi
    · split
      · exact hk
      · exact hj
  · split at q <;> split at q <;> (try split at q) <;> (try split at q) <;> omega
/-! Doubling. -/
def dblG (w h : Int) (l : List Int) (x y : Int) : Int := wrap64 (wrap64 (4 * rd l (y % h * w + x % w)) + impl_DoubleMatrix.quarter w h x y)
theorem specDbl_ev {w h : Int} {l : List Int} (hm : matB w h l = true) : Ev (fun k => spec_l2Double.f k w h l) (2 * w, 2 * h, gridL (2 * w) (dblG w h l) (4 * l.length)) := by
  obtain ⟨a0, a1, a2, a3, a4, a5, _⟩ := mat_spec hm
  unfold spec_l2Double.f
  rw [wid (2 * w) (by omega) (by omega), wid (2 * h) (by omega) (by omega)]
  have key : ∀ d i : Nat, i + d = 4 * l.length → Ev (fun k => spec_l2Double.l0 k (i : Int) w h l (2 * w) (2 * h) (gridL (2 * w) (dblG w h l) i)) (2 * w, 2 * h, gridL (2 * w) (dblG w h l) (4 * l.length)) := by
    intro d
    induction d with
    | zero =>
      intro i hi
      obtain rfl : i = 4 * l.length := by omega
      exact Ev.step (fun k => by rw [spec_l2Double.l0]) (Ev_neg (by rw [wid _ (by omega) (by omega)]; omega) (Ev.now _))
    | succ d ih =>
      intro i hi
      have nx := ih (i + 1) (by omega)
      have harea : (i : Int) < 2 * w * (2 * h) := by
        have : 2 * w * (2 * h) = 4 * (w * h) := by rw [Int.mul_assoc, Int.mul_left_comm w 2 h]; omega
        omega
      obtain ⟨b0, b1, b2, b3, b4⟩ := cell_bd (w := 2 * w) (h := 2 * h) i (by omega) (by omega) harea
      rw [gridL_succ] at nx
      have ec : cellAt (2 * w) (dblG w h l) i = dblG w h l ((i : Int) % (2 * w)) ((i : Int) / (2 * w)) := rfl
      rw [ec, ← wsucc i (by omega)] at nx
      have hlen := gridL_len (2 * w) (dblG w h l) i
      refine Ev.step (fun k => by rw [spec_l2Double.l0]) (Ev_pos (by rw [wid _ (by omega) (by omega)]; omega) (Ev_neg (by omega) ?_))
      rw [tmod_nat, tdiv_nat i (2 * w) (by omega), wid ((i : Int) / (2 * w)) (by omega) (by omega)]
      generalize (i : Int) % (2 * w) = x at b0 b1 nx ⊢
      generalize (i : Int) / (2 * w) = y at b2 b3 nx ⊢
      have er := (rank_eq hm x y).1
      unfold dblG impl_DoubleMatrix.quarter at nx
      by_cases cx : x < w
      · refine Ev_neg (by omega) (Ev.step (fun k => by rw [spec_l2Double.j1]) (Ev_neg (by simp) (Ev_pos cx (Ev.step (fun k => by rw [spec_l2Double.j2]) ?_))))
        by_cases cy : y < h
        · rw [if_pos cy, if_pos cx] at nx
          refine Ev_neg (by rw [decide_eq_false (by omega)]; simp) (Ev_neg (by omega) ?_)
          rw [er]
          exact Ev_pos (by omega) nx
        · rw [if_neg cy, if_pos cx] at nx
          refine Ev_pos (decide_eq_true (by omega)) ?_
          rw [er]
          exact Ev_pos (by omega) nx
      · refine Ev_pos (by omega) (Ev.step (fun k => by rw [spec_l2Double.j1]) ?_)
        by_cases cy : y < h
        · rw [if_pos cy, if_neg cx] at nx
          refine Ev_pos (decide_eq_true cy) ?_
          rw [er]
          exact Ev_pos (by omega) nx
        · rw [if_neg cy, if_neg cx] at nx
          refine Ev_neg (by rw [decide_eq_false cy]; simp) (Ev_neg cx (Ev.step (fun k => by rw [spec_l2Double.j2]) (Ev_neg (by simp) (Ev_pos (by omega) (Ev_pos (by omega) ?_)))))
          rw [er]
          exact Ev_pos (by omega) nx
  exact key (4 * l.length) 0 (by omega)
theorem celled_dbl {w h : Int} {l : List Int} (hm : matB w h l = true) : celledB (2 * w) (2 * h) = true ↔ ¬ 4 * (l.length : Int) > 256 := by
  obtain ⟨a0, a1, a2, a3, a4, a5, _⟩ := mat_spec hm
  have e : 2 * w * (2 * h) = 4 * (w * h) := by rw [Int.mul_assoc, Int.mul_left_comm w 2 h]; omega
  constructor
  · intro hc
    have := celled_spec hc
    omega
  · intro hc
    have b0 : w * 1 ≤ w * h := Int.mul_le_mul_of_nonneg_left a2 (by omega)
    have b1 : 1 * h ≤ w * h := Int.mul_le_mul_of_nonneg_right a0 (by omega)
    exact decide_eq_true (by omega)
/-- The doubled ranks, in plain numbers. -/
def dblF (w h : Int) (l : List Int) (i : Nat) : Int := 4 * rd l ((i : Int) / (2 * w) % h * w + (i : Int) % (2 * w) % w) + impl_DoubleMatrix.quarter w h ((i : Int) % (2 * w)) ((i : Int) / (2 * w))
theorem quarter_bd (w h x y : Int) : 0 ≤ impl_DoubleMatrix.quarter w h x y ∧ impl_DoubleMatrix.quarter w h x y ≤ 3 := by
  unfold impl_DoubleMatrix.quarter
  split <;> split <;> omega
theorem quarter_inj {w h x y u v : Int} (e : impl_DoubleMatrix.quarter w h x y = impl_DoubleMatrix.quarter w h u v) : (x < w ↔ u < w) ∧ (y < h ↔ v < h) := by
  unfold impl_DoubleMatrix.quarter at e
  by_cases a : x < w <;> by_cases b : y < h <;> by_cases c : u < w <;> by_cases d : v < h <;> simp [a, b, c, d] at e ⊢
theorem rd_mod {w h : Int} {l : List Int} (hm : matB w h l = true) (x y : Int) : 0 ≤ y % h * w + x % w ∧ y % h * w + x % w < (l.length : Int) ∧ 0 ≤ rd l (y % h * w + x % w) ∧ rd l (y % h * w + x % w) < (l.length : Int) := by
  obtain ⟨a0, a1, a2, a3, a4, a5, _⟩ := mat_spec hm
  have b := idx_lt (w := w) (h := h) (x := x % w) (y := y % h) (Int.emod_nonneg _ (by omega)) (Int.emod_lt_of_pos _ (by omega)) (Int.emod_nonneg _ (by omega)) (Int.emod_lt_of_pos _ (by omega))
  have c := ((mat_iff w h l).1 hm).2.2.1 _ (rd_mem l _ b.1 (by omega))
  omega
theorem dbl_tab {w h : Int} {l : List Int} (hm : matB w h l = true) (n : Nat) : gridL (2 * w) (dblG w h l) n = (List.range n).map (dblF w h l) := by
  obtain ⟨a0, a1, a2, a3, a4, a5, _⟩ := mat_spec hm
  rw [gridL_tab]
  refine tab_congr _ _ _ (fun i _ => ?_)
  have r := rd_mod hm ((i : Int) % (2 * w)) ((i : Int) / (2 * w))
  have q := quarter_bd w h ((i : Int) % (2 * w)) ((i : Int) / (2 * w))
  show wrap64 (wrap64 (4 * rd l _) + _) = _
  rw [wid (4 * rd l _) (by omega) (by omega), wid _ (by omega) (by omega)]
  rfl
theorem half_mod (x w : Int) (h0 : 0 ≤ x) (h1 : x < 2 * w) (hw : 0 < w) : x % w = if x < w then x else x - w := by
  by_cases c : x < w
  · rw [if_pos c, Int.emod_eq_of_lt h0 c]
  · rw [if_neg c]
    have : x = (x - w) + w * 1 := by omega
    rw [this, Int.add_mul_emod_self_left, Int.emod_eq_of_lt (by omega) (by omega)]
    omega
theorem mat_dbl {w h : Int} {l : List Int} (hm : matB w h l = true) (hc : ¬ 4 * (l.length : Int) > 256) : matB (2 * w) (2 * h) ((List.range (4 * l.length)).map (dblF w h l)) = true := by
  obtain ⟨a0, a1, a2, a3, a4, a5, _⟩ := mat_spec hm
  obtain ⟨g0, g1, g2, g3⟩ := mat_get hm
  have e : 2 * w * (2 * h) = 4 * (w * h) := by rw [Int.mul_assoc, Int.mul_left_comm w 2 h]; omega
  refine mat_tab _ _ ((celled_dbl hm).2 hc) (by push_cast; omega) (fun i hi => ?_) (fun i j hi hj q => ?_)
  · have r := rd_mod hm ((i : Int) % (2 * w)) ((i : Int) / (2 * w))
    have q := quarter_bd w h ((i : Int) % (2 * w)) ((i : Int) / (2 * w))
    unfold dblF
    push_cast
    omega
  · unfold dblF at q
    obtain ⟨b0, b1, b2, b3, b4⟩ := cell_bd (w := 2 * w) (h := 2 * h) i (by omega) (by omega) (by omega)
    obtain ⟨c0, c1, c2, c3, c4⟩ := cell_bd (w := 2 * w) (h := 2 * h) j (by omega) (by omega) (by omega)
    have ri := rd_mod hm ((i : Int) % (2 * w)) ((i : Int) / (2 * w))
    have rj := rd_mod hm ((j : Int) % (2 * w)) ((j : Int) / (2 * w))
    have mx := half_mod ((i : Int) % (2 * w)) w b0 b1 (by omega)
    have my := half_mod ((i : Int) / (2 * w)) h b2 b3 (by omega)
    have nx := half_mod ((j : Int) % (2 * w)) w c0 c1 (by omega)
    have ny := half_mod ((j : Int) / (2 * w)) h c2 c3 (by omega)
    have x0 := Int.emod_nonneg ((i : Int) % (2 * w)) (b := w) (by omega)
    have x1 := Int.emod_lt_of_pos ((i : Int) % (2 * w)) (b := w) (by omega)
    have y0 := Int.emod_nonneg ((j : Int) % (2 * w)) (b := w) (by omega)
    have y1 := Int.emod_lt_of_pos ((j : Int) % (2 * w)) (b := w) (by omega)
    have inj := g3 ((i : Int) / (2 * w) % h * w + (i : Int) % (2 * w) % w).toNat ((j : Int) / (2 * w) % h * w + (j : Int) % (2 * w) % w).toNat (by omega) (by omega)
    have qi := quarter_bd w h ((i : Int) % (2 * w)) ((i : Int) / (2 * w))
    have qj := quarter_bd w h ((j : Int) % (2 * w)) ((j : Int) / (2 * w))
    have er : rd l ((i : Int) / (2 * w) % h * w + (i : Int) % (2 * w) % w) = rd l ((j : Int) / (2 * w) % h * w + (j : Int) % (2 * w) % w) := by omega
    have eq : impl_DoubleMatrix.quarter w h ((i : Int) % (2 * w)) ((i : Int) / (2 * w)) = impl_DoubleMatrix.quarter w h ((j : Int) % (2 * w)) ((j : Int) / (2 * w)) := by omega
    have ei := inj er
    have e2 : (i : Int) / (2 * w) % h * w + (i : Int) % (2 * w) % w = (j : Int) / (2 * w) % h * w + (j : Int) % (2 * w) % w := by omega
    have d1 := cell_of (w := w) ((i : Int) % (2 * w) % w) ((i : Int) / (2 * w) % h) (by omega) x0 x1
    have d2 := cell_of (w := w) ((j : Int) % (2 * w) % w) ((j : Int) / (2 * w) % h) (by omega) y0 y1
    rw [e2] at d1
    have f1 : (i : Int) % (2 * w) % w = (j : Int) % (2 * w) % w := d1.1.symm.trans d2.1
    have f2 : (i : Int) / (2 * w) % h = (j : Int) / (2 * w) % h := d1.2.symm.trans d2.2
    obtain ⟨p1, p2⟩ := quarter_inj eq
    have k1 : (i : Int) % (2 * w) = (j : Int) % (2 * w) := by
      rw [mx, nx] at f1
      by_cases c : (i : Int) % (2 * w) < w
      · rw [if_pos c, if_pos (p1.1 c)] at f1
        exact f1
      · rw [if_neg c, if_neg (fun q => c (p1.2 q))] at f1
        omega
    have k2 : (i : Int) / (2 * w) = (j : Int) / (2 * w) := by
      rw [my, ny] at f2
      by_cases c : (i : Int) / (2 * w) < h
      · rw [if_pos c, if_pos (p2.1 c)] at f2
        exact f2
      · rw [if_neg c, if_neg (fun q => c (p2.2 q))] at f2
        omega
    rw [k1, k2, c4] at b4
    omega
/-! Bayer's matrices. -/
def bayM : Nat → List Int
  | 0 => [0]
  | k + 1 => (List.range (4 * (bayM k).length)).map (dblF (2 ^ k) (2 ^ k) (bayM k))
theorem bayM_len (k : Nat) : (bayM k).length = 4 ^ k := by
  induction k with
  | zero => rfl
  | succ k ih =>
    show ((List.range (4 * (bayM k).length)).map _).length = _
    rw [List.length_map, List.length_range, ih, Nat.pow_succ, Nat.mul_comm]
theorem four_le (k : Nat) (hk : k < 4) : (4 : Nat) ^ k ≤ 64 := by
  match k, hk with
  | 0, _ => decide
  | 1, _ => decide
  | 2, _ => decide
  | 3, _ => decide
theorem bayM_mat (k : Nat) (hk : k ≤ 4) : matB (2 ^ k) (2 ^ k) (bayM k) = true := by
  induction k with
  | zero => decide
  | succ k ih =>
    have h4 := four_le k (by omega)
    have := mat_dbl (ih (by omega)) (by rw [bayM_len]; omega)
    rw [Int.pow_succ, Int.mul_comm]
    exact this
theorem specBayM_ev (n : Nat) (hn : n ≤ 4) : Ev (fun k => spec_BayerMatrix.f k (n : Int)) (2 ^ n, 2 ^ n, bayM n, true) := by
  unfold spec_BayerMatrix.f
  rw [l1In_eq]
  simp only [Option.bind_some]
  refine Ev_pos (decide_eq_true (by omega)) ?_
  have key : ∀ d i : Nat, i + d = n → Ev (fun k => spec_BayerMatrix.l0 k (d : Int) (2 ^ i) (2 ^ i) (bayM i)) (2 ^ n, 2 ^ n, bayM n, true) := by
    intro d
    induction d with
    | zero =>
      intro i hi
      obtain rfl : i = n := by omega
      exact Ev.step (fun k => by rw [spec_BayerMatrix.l0]) (Ev_neg (by omega) (Ev.now _))
    | succ d ih =>
      intro i hi
      have nx := ih (i + 1) (by omega)
      refine Ev.step (fun k => by rw [spec_BayerMatrix.l0]) (Ev_pos (by omega) ?_)
      have hd := specDbl_ev (bayM_mat i (by omega))
      rw [dbl_tab (bayM_mat i (by omega))] at hd
      refine Ev.bind hd ?_
      rw [wid _ (by omega) (by omega), show ((d + 1 : Nat) : Int) - 1 = (d : Int) by omega]
      have e : (2 : Int) * 2 ^ i = 2 ^ (i + 1) := by rw [Int.pow_succ, Int.mul_comm]
      dsimp only
      rw [e]
      exact nx
  exact key n 0 (by omega)
/-! Sums round about. -/
theorem Ev_eq {α : Type} {x : Option α} {a : α} (h : x = some a) : Ev (fun _ => x) a := ⟨0, fun _ _ => h⟩
theorem sumN_shift1 (n : Nat) (g : Nat → Int) : sumN n (fun i => g (i + 1)) + g 0 = sumN n g + g n := by
  induction n with
  | zero => rw [sumN_zero, sumN_zero]
  | succ n ih =>
    rw [sumN_succ, sumN_succ]
    omega
theorem sumN_rot (n : Nat) (g : Nat → Int) (s : Nat) : sumN n (fun i => g ((s + i) % n)) = sumN n g := by
  induction s with
  | zero =>
    refine sumN_congr _ _ _ (fun i hi => ?_)
    rw [Nat.zero_add, Nat.mod_eq_of_lt hi]
  | succ s ih =>
    have e := sumN_shift1 n (fun i => g ((s + i) % n))
    rw [Nat.add_zero, Nat.add_mod_right] at e
    have e2 : sumN n (fun i => g ((s + 1 + i) % n)) = sumN n (fun i => g ((s + (i + 1)) % n)) := by
      refine sumN_congr _ _ _ (fun i _ => ?_)
      rw [Nat.add_assoc, Nat.add_comm 1 i]
    rw [e2]
    omega
theorem sumI_rot {w : Int} (h0 : 0 < w) (x0 : Int) (f : Int → Int) : sumN w.toNat (fun i => f ((x0 + (i : Int)) % w)) = sumN w.toNat (fun i => f (i : Int)) := by
  have b0 := Int.emod_nonneg x0 (b := w) (by omega)
  rw [← sumN_rot w.toNat (fun i => f (i : Int)) (x0 % w).toNat]
  refine sumN_congr _ _ _ (fun i _ => ?_)
  have e : ((((x0 % w).toNat + i) % w.toNat : Nat) : Int) = (x0 + (i : Int)) % w := by
    rw [Int.natCast_emod, Int.natCast_add, Int.toNat_of_nonneg b0, Int.toNat_of_nonneg (by omega), Int.emod_add_emod]
  rw [e]
theorem sum_window {w h : Int} (h0 : 0 < w) (h1 : 0 < h) (F : Int → Int → Int) (x0 y0 : Int) : sumN h.toNat (fun j => sumN w.toNat (fun i => F ((x0 + (i : Int)) % w) ((y0 + (j : Int)) % h))) = sumN h.toNat (fun j => sumN w.toNat (fun i => F (i : Int) (j : Int))) := by
  rw [← sumI_rot h1 y0 (fun y => sumN w.toNat (fun i => F (i : Int) y))]
  exact sumN_congr _ _ _ (fun j _ => sumI_rot h0 x0 (fun x => F x ((y0 + (j : Int)) % h)))
def lessI (v u : Int) : Int := if u < v then 1 else 0
theorem lessI_bd (v u : Int) : 0 ≤ lessI v u ∧ lessI v u ≤ 1 := by
  unfold lessI
  split <;> omega
theorem cnt_lt_sum (l : List Int) (v : Int) : sumL (l.map (lessI v)) = (cntLt l v : Int) := by
  induction l with
  | nil => rfl
  | cons x xs ih =>
    rw [List.map_cons, sumL_cons, ih]
    unfold cntLt lessI
    rw [List.filter_cons]
    by_cases c : x < v
    · rw [if_pos c, if_pos (decide_eq_true c), List.length_cons]
      omega
    · rw [if_neg c, if_neg (by simpa using c)]
      omega
theorem lvl_sum {w h : Int} {l : List Int} (hm : matB w h l = true) (v : Int) (hv0 : 0 ≤ v) (hv : v ≤ (l.length : Int)) : sumL (l.map (lessI v)) = v := by
  obtain ⟨n, rfl⟩ : ∃ n : Nat, v = (n : Int) := ⟨v.toNat, by omega⟩
  have hi := (mat_iff w h l).1 hm
  rw [cnt_lt_sum, cntLt_perm l hi.2.2.1 hi.2.2.2 n (by omega)]
theorem window_level {w h : Int} {l : List Int} (hm : matB w h l = true) (v : Int) (hv0 : 0 ≤ v) (hv : v ≤ (l.length : Int)) (x0 y0 : Int) : sumN h.toNat (fun j => sumN w.toNat (fun i => lessI v (rd l ((y0 + (j : Int)) % h * w + (x0 + (i : Int)) % w)))) = v := by
  obtain ⟨a0, a1, a2, a3, a4, a5, _⟩ := mat_spec hm
  have e1 := sum_window (w := w) (h := h) (by omega) (by omega) (fun x y => lessI v (rd l (y * w + x))) x0 y0
  have e2 := sum_window (w := w) (h := h) (by omega) (by omega) (fun x y => lessI v (rd l (y * w + x))) 0 0
  have e3 := sum_grid w (fun x y => lessI v (rd l (y % h * w + x % w))) h.toNat (by omega)
  rw [grid_modmap (lessI v) hm, lvl_sum hm v hv0 hv] at e3
  simp only [Int.zero_add] at e2
  rw [e1, ← e2, ← e3]
/-! Shifted matrices. -/
def shiftL (w h : Int) (l : List Int) (dx dy : Int) : List Int := gridL w (fun x y => rd l ((y - dy) % h * w + (x - dx) % w)) (h.toNat * w.toNat)
def shN (w h dx dy : Int) (i : Nat) : Nat := (((i : Int) / w - dy) % h * w + ((i : Int) % w - dx) % w).toNat
theorem shift_tab {w h : Int} {l : List Int} (hm : matB w h l = true) (dx dy : Int) : shiftL w h l dx dy = (List.range l.length).map (fun i => l.getD (shN w h dx dy i) 0) := by
  unfold shiftL
  rw [mat_len hm, gridL_tab]
  rfl
theorem shift_mat {w h : Int} {l : List Int} (hm : matB w h l = true) (dx dy : Int) : matB w h (shiftL w h l dx dy) = true := by
  obtain ⟨a0, a1, a2, a3, a4, a5, _⟩ := mat_spec hm
  have ix : ∀ i : Nat, 0 ≤ ((i : Int) / w - dy) % h * w + ((i : Int) % w - dx) % w ∧ ((i : Int) / w - dy) % h * w + ((i : Int) % w - dx) % w < w * h := fun i => idx_lt (w := w) (h := h) (Int.emod_nonneg _ (by omega)) (Int.emod_lt_of_pos _ (by omega)) (Int.emod_nonneg _ (by omega)) (Int.emod_lt_of_pos _ (by omega))
  rw [shift_tab hm]
  refine mat_moved hm _ (fun i hi => ?_) (fun i j hi hj e => ?_)
  · have := ix i
    unfold shN
    omega
  · have p := ix i
    have q := ix j
    unfold shN at e
    have e2 : ((i : Int) / w - dy) % h * w + ((i : Int) % w - dx) % w = ((j : Int) / w - dy) % h * w + ((j : Int) % w - dx) % w := by omega
    have d1 := cell_of (w := w) (((i : Int) % w - dx) % w) (((i : Int) / w - dy) % h) (by omega) (Int.emod_nonneg _ (by omega)) (Int.emod_lt_of_pos _ (by omega))
    have d2 := cell_of (w := w) (((j : Int) % w - dx) % w) (((j : Int) / w - dy) % h) (by omega) (Int.emod_nonneg _ (by omega)) (Int.emod_lt_of_pos _ (by omega))
    rw [e2] at d1
    have f1 := (Int.emod_sub_cancel_right dx).1 (d1.1.symm.trans d2.1)
    have f2 := (Int.emod_sub_cancel_right dy).1 (d1.2.symm.trans d2.2)
    obtain ⟨b0, b1, b2, b3, b4⟩ := cell_bd (w := w) (h := h) i (by omega) (by omega) (by omega)
    obtain ⟨c0, c1, c2, c3, c4⟩ := cell_bd (w := w) (h := h) j (by omega) (by omega) (by omega)
    rw [Int.emod_eq_of_lt b0 b1, Int.emod_eq_of_lt c0 c1] at f1
    rw [Int.emod_eq_of_lt b2 b3, Int.emod_eq_of_lt c2 c3] at f2
    rw [f1, f2, c4] at b4
    omega
def rdyM (f : Nat) (a0 : Int) : Bool := match spec_SpiralMatrix.f f a0 with
  | some (a, b, l, c) => a == a0 && (b == a0 && (c && matB a b l))
  | none => false
theorem rdyM_1 : rdyM 5 1 = true := by decide +kernel
theorem rdyM_2 : rdyM 11 2 = true := by decide +kernel
theorem rdyM_3 : rdyM 21 3 = true := by decide +kernel
theorem rdyM_4 : rdyM 35 4 = true := by decide +kernel
theorem rdyM_5 : rdyM 53 5 = true := by decide +kernel
theorem rdyM_all (a : Int) (h0 : 1 ≤ a) (h1 : a ≤ 5) : ∃ f, rdyM f a = true := by
  obtain rfl | rfl | rfl | rfl | rfl : a = 1 ∨ a = 2 ∨ a = 3 ∨ a = 4 ∨ a = 5 := by omega
  · exact ⟨_, rdyM_1⟩
  · exact ⟨_, rdyM_2⟩
  · exact ⟨_, rdyM_3⟩
  · exact ⟨_, rdyM_4⟩
  · exact ⟨_, rdyM_5⟩
theorem spiral_ev (n : Int) (h0 : 1 ≤ n) (h1 : n ≤ 5) : ∃ l : List Int, matB n n l = true ∧ Ev (fun k => spec_SpiralMatrix.f k n) (n, n, l, true) := by
  obtain ⟨f, h⟩ := rdyM_all n h0 h1
  unfold rdyM at h
  split at h
  · rename_i a b l c e
    simp only [Bool.and_eq_true, beq_iff_eq] at h
    obtain ⟨rfl, rfl, rfl, h5⟩ := h
    exact ⟨l, h5, Ev.of (fun k => spec_SpiralMatrix.mono _ k) e⟩
  · exact absurd h (by simp)
theorem rows_mat {w h : Int} (hc : celledB w h = true) : matB w h (gridL w (fun x y => y * w + x) (h.toNat * w.toNat)) = true := by
  obtain ⟨h0, h1, h2, h3, h4⟩ := celled_spec hc
  have hn := area_eq (w := w) (h := h) (by omega) (by omega)
  rw [rows_tab _ (by omega)]
  exact mat_tab _ _ hc hn (fun i hi => by omega) (fun i j _ _ e => by omega)
theorem shuffle_ok (s : List Int) (hl : s.length ≤ maxLen) (w h : Int) : ∀ (i : Nat) (l : List Int) (a b : Int), matB w h l = true → 0 ≤ a → i < l.length → i ≤ 255 → ∃ (L : List Int) (a2 b2 : Int), matB w h L = true ∧ Ev (fun k => spec_l2Draw.l0 k (i : Int) s a b w h l) (w, h, L, a2, b2) := by
  intro i
  induction i with
  | zero =>
    intro l a b hm ha hi h2
    exact ⟨l, a, b, hm, Ev.step (fun k => by rw [spec_l2Draw.l0]) (Ev_neg (by simp) (Ev.now _))⟩
  | succ i ih =>
    intro l a b hm ha hi h2
    obtain ⟨v, a2, b2, e, v0, v1, ha2⟩ := below_ok s a b ((i : Int) + 1 + 1) ha hl (by omega) (by omega)
    obtain ⟨m, rfl⟩ : ∃ m : Nat, v = (m : Int) := ⟨v.toNat, by omega⟩
    obtain ⟨L, a3, b3, h3, h4⟩ := ih _ a2 b2 (mat_swap hm (i + 1) m hi (by omega)) ha2 (by rw [List.length_set, List.length_set]; omega) (by omega)
    refine ⟨L, a3, b3, h3, Ev.step (fun k => by rw [spec_l2Draw.l0]) (Ev_pos (by omega) ?_)⟩
    rw [wid (((i + 1 : Nat) : Int) + 1) (by omega) (by omega), wid (((i + 1 : Nat) : Int) - 1) (by omega) (by omega), Int.natCast_add i 1, show ((1 : Nat) : Int) = 1 from rfl, e]
    simp only [Option.bind_some]
    refine Ev_pos (by omega) (Ev_pos (by omega) (Ev_pos (by omega) (Ev_pos (by omega) ?_)))
    rw [show (i : Int) + 1 - 1 = (i : Int) by omega, show (i : Int) + 1 = ((i + 1 : Nat) : Int) by omega, rd_nat, rd_nat, Int.toNat_natCast, Int.toNat_natCast]
    exact h4
theorem pow_le8 (n : Nat) (hn : n ≤ 3) : (2 : Int) ^ n ≤ 8 := by
  match n, hn with
  | 0, _ => decide
  | 1, _ => decide
  | 2, _ => decide
  | 3, _ => decide
theorem l2Draw_ok (s : List Int) (a b : Int) (ha : 0 ≤ a) (hl : s.length ≤ maxLen) : ∃ (w h : Int) (l : List Int) (a2 b2 : Int), matB w h l = true ∧ w ≤ 8 ∧ h ≤ 8 ∧ Ev (fun k => spec_l2Draw.f k s a b) (w, h, l, a2, b2) := by
  obtain ⟨q, a2, b2, e1, q0, q1, ha2⟩ := below_ok s a b 4 ha hl (by omega) (by omega)
  unfold spec_l2Draw.f
  simp only [e1, Option.bind_some]
  by_cases c0 : q = 0
  · obtain ⟨t, a3, b3, e2, t0, t1, ha3⟩ := below_ok s a2 b2 4 ha2 hl (by omega) (by omega)
    obtain ⟨n, rfl⟩ : ∃ n : Nat, t = (n : Int) := ⟨t.toNat, by omega⟩
    refine ⟨2 ^ n, 2 ^ n, bayM n, a3, b3, bayM_mat n (by omega), pow_le8 n (by omega), pow_le8 n (by omega), Ev_pos c0 ?_⟩
    simp only [e2, Option.bind_some]
    exact Ev.bind (specBayM_ev n (by omega)) (Ev.now _)
  · by_cases c1 : q = 1
    · obtain ⟨t, a3, b3, e2, t0, t1, ha3⟩ := below_ok s a2 b2 5 ha2 hl (by omega) (by omega)
      obtain ⟨l, hm, hs⟩ := spiral_ev (1 + t) (by omega) (by omega)
      refine ⟨1 + t, 1 + t, l, a3, b3, hm, by omega, by omega, Ev_neg c0 (Ev_pos c1 ?_)⟩
      simp only [e2, Option.bind_some]
      rw [wid (1 + t) (by omega) (by omega)]
      exact Ev.bind hs (Ev.now _)
    · obtain ⟨t, a3, b3, e2, t0, t1, ha3⟩ := below_ok s a2 b2 5 ha2 hl (by omega) (by omega)
      obtain ⟨u, a4, b4, e3, u0, u1, ha4⟩ := below_ok s a3 b3 5 ha3 hl (by omega) (by omega)
      have ar : (1 + t) * (1 + u) ≤ 5 * 5 := Int.le_trans (Int.mul_le_mul_of_nonneg_right (show 1 + t ≤ 5 by omega) (by omega)) (Int.mul_le_mul_of_nonneg_left (by omega) (by omega))
      have ar2 : 0 < (1 + t) * (1 + u) := Int.mul_pos (by omega) (by omega)
      have hc : celledB (1 + t) (1 + u) = true := decide_eq_true ⟨by omega, by omega, by omega, by omega, by omega⟩
      have hr := specRow_ev (1 + t) (1 + u)
      rw [if_pos hc] at hr
      have hm := rows_mat hc
      have hlen := mat_len hm
      have hn := area_eq (w := 1 + t) (h := 1 + u) (by omega) (by omega)
      obtain ⟨L, a5, b5, h3, h4⟩ := shuffle_ok s hl (1 + t) (1 + u) ((gridL (1 + t) (fun x y => y * (1 + t) + x) ((1 + u).toNat * (1 + t).toNat)).length - 1) _ a4 b4 hm ha4 (by omega) (by omega)
      refine ⟨1 + t, 1 + u, L, a5, b5, h3, by omega, by omega, Ev_neg c0 (Ev_neg c1 ?_)⟩
      simp only [e2, e3, Option.bind_some]
      rw [wid (1 + t) (by omega) (by omega), wid (1 + u) (by omega) (by omega)]
      refine Ev.bind hr ?_
      dsimp only
      rw [wid _ (by omega) (by omega), show ((gridL (1 + t) (fun x y => y * (1 + t) + x) ((1 + u).toNat * (1 + t).toNat)).length : Int) - 1 = (((gridL (1 + t) (fun x y => y * (1 + t) + x) ((1 + u).toNat * (1 + t).toNat)).length - 1 : Nat) : Int) by omega]
      exact h4
theorem MakeMatrix_ok (s : List Int) (hl : s.length ≤ maxLen) : ∃ (w h : Int) (l : List Int), matB w h l = true ∧ w ≤ 8 ∧ h ≤ 8 ∧ sizedB w h = true ∧ Ev (fun k => spec_MakeMatrix.f k s) (w, h, l) := by
  obtain ⟨b, hb⟩ := new_ok s hl
  obtain ⟨w, h, l, a2, b2, h1, h2, h3, h4⟩ := l2Draw_ok s 0 b (by omega) hl
  obtain ⟨a0, a1, a2, a3, _⟩ := mat_spec h1
  refine ⟨w, h, l, h1, h2, h3, sized_small a0 (by omega) a2 (by omega), ?_⟩
  unfold spec_MakeMatrix.f
  exact Ev.bind hb (Ev.bind h4 (Ev.now _))
/-! Sums of tiles. -/
theorem div_facts (w a : Int) (hw : 0 ≤ w) (ha : 0 < a) : 0 ≤ w / a ∧ w / a * a ≤ w ∧ w < w / a * a + a ∧ w / a ≤ w := by
  have h1 := Int.mul_ediv_add_emod w a
  have h2 := Int.emod_nonneg w (b := a) (by omega)
  have h3 := Int.emod_lt_of_pos w ha
  rw [Int.mul_comm] at h1
  have h4 := Int.ediv_nonneg hw (by omega : 0 ≤ a)
  have h5 := Int.ediv_le_self a hw
  omega
theorem step_le {i n : Nat} {a w : Int} (ha : 1 ≤ a) (hn : (n : Int) * a ≤ w) (hi : i < n) : 0 ≤ (i : Int) * a ∧ (i : Int) * a + a ≤ w := by
  have h1 : ((i : Int) + 1) * a ≤ (n : Int) * a := Int.mul_le_mul_of_nonneg_right (by omega) (by omega)
  rw [Int.add_mul, Int.one_mul] at h1
  exact ⟨Int.mul_nonneg (by omega) (by omega), by omega⟩
def tsF (w : Int) (l : List Int) (X Y : Int) (y x : Nat) : Int := rd l ((Y + (y : Int)) * w + (X + (x : Int)))
def tsQ (w : Int) (l : List Int) (a b i j : Int) : Int := sumN b.toNat (fun y => sumN a.toNat (tsF w l (i * a) (j * b) y))
theorem tsF_bd {w h : Int} {l : List Int} (hp : picB w h l 255 = true) {X Y a b : Int} (x0 : 0 ≤ X) (x1 : X + a ≤ w) (y0 : 0 ≤ Y) (y1 : Y + b ≤ h) (y x : Nat) (hy : (y : Int) < b) (hx : (x : Int) < a) : 0 ≤ tsF w l X Y y x ∧ tsF w l X Y y x ≤ 255 := rd_pic hp (X + (x : Int)) (Y + (y : Int)) (by omega) (by omega) (by omega) (by omega)
theorem cell_at {C : Int} (f : Int → Int → Int) (j i cn : Nat) (hC : C = (cn : Int)) (hi : i < cn) : cellAt C f (j * cn + i) = f (i : Int) (j : Int) := by
  subst hC
  have := cell_of (w := (cn : Int)) (i : Int) (j : Int) (by omega) (by omega) (by omega)
  show f (((j * cn + i : Nat) : Int) % (cn : Int)) (((j * cn + i : Nat) : Int) / (cn : Int)) = _
  rw [Int.natCast_add, Int.natCast_mul, this.1, this.2]
theorem small_prod {j i rn cn : Nat} (h1 : rn ≤ 64) (h2 : cn ≤ 64) (hj : j < rn) (hi : i ≤ cn) : j * cn + i < 17592186044416 := by
  have := Nat.mul_le_mul (show j ≤ 64 by omega) h2
  omega
theorem implTS_ev {w h : Int} {l : List Int} (hp : picB w h l 255 = true) (a b : Int) (ha : 1 ≤ a) (hb : 1 ≤ b) : Ev (fun k => impl_TileSums.f k w h l a b) (gridL (w / a) (tsQ w l a b) ((h / b).toNat * (w / a).toNat)) := by
  obtain ⟨h0, h1, h2, h3, h4, h5, h6⟩ := pic_spec hp
  obtain ⟨c0, c1, c2, c3⟩ := div_facts w a (by omega) (by omega)
  obtain ⟨r0, r1, r2, r3⟩ := div_facts h b (by omega) (by omega)
  have e2 : (h - 1) * w = w * h - w := by rw [Int.sub_mul, Int.one_mul, Int.mul_comm]
  unfold impl_TileSums.f
  refine Ev.bind (Ev_eq (impl_IsPicture.eq w h l)) (Ev_pos hp (Ev_neg (by omega) ?_))
  rw [decide_eq_false (by omega)]
  refine Ev.step (fun k => by rw [impl_TileSums.j0]) (Ev_neg (by simp) (Ev_neg (by omega) ?_))
  have eC : wrap64 (Int.tdiv w a) = w / a := by rw [Int.tdiv_eq_ediv_of_nonneg (by omega), wid (w / a) (by omega) (by omega)]
  rw [Int.tdiv_eq_ediv_of_nonneg (by omega), wid (h / b) (by omega) (by omega)]
  generalize w / a = C at c0 c1 c2 c3 eC ⊢
  generalize h / b = R at r0 r1 r2 r3 ⊢
  obtain ⟨cn, rfl⟩ : ∃ n : Nat, C = (n : Int) := ⟨C.toNat, by omega⟩
  obtain ⟨rn, rfl⟩ : ∃ n : Nat, R = (n : Int) := ⟨R.toNat, by omega⟩
  rw [Int.toNat_natCast, Int.toNat_natCast]
  have outer : ∀ d j : Nat, j + d = rn → Ev (fun k => impl_TileSums.l0 k a b (gridL (cn : Int) (tsQ w l a b) (j * cn)) (rn : Int) (j : Int) w h l) (gridL (cn : Int) (tsQ w l a b) (rn * cn)) := by
    intro d
    induction d with
    | zero =>
      intro j hj
      obtain rfl : j = rn := by omega
      refine Ev.step (fun k => by rw [impl_TileSums.l0]) ?_
      exact (Ev_neg (by omega) (Ev.now _))
    | succ d ih =>
      intro j hj
      have nx := ih (j + 1) (by omega)
      obtain ⟨j0, j1⟩ := step_le hb r1 (show j < rn by omega)
      refine Ev.step (fun k => by rw [impl_TileSums.l0]) (Ev_pos (by omega) (Ev_neg (by omega) ?_))
      rw [eC]
      have mid : ∀ e i : Nat, i + e = cn → Ev (fun k => impl_TileSums.l1 k a b (gridL (cn : Int) (tsQ w l a b) (j * cn + i)) (j : Int) (rn : Int) (j : Int) (cn : Int) (i : Int) w h l) (gridL (cn : Int) (tsQ w l a b) (rn * cn)) := by
        intro e
        induction e with
        | zero =>
          intro i hi
          obtain rfl : i = cn := by omega
          refine Ev.step (fun k => by rw [impl_TileSums.l1]) (Ev_neg (by omega) ?_)
          rw [wsucc j (by omega), ← Nat.succ_mul]
          exact nx
        | succ e ih2 =>
          intro i hi
          have nx2 := ih2 (i + 1) (by omega)
          obtain ⟨i0, i1⟩ := step_le ha c1 (show i < cn by omega)
          refine Ev.step (fun k => by rw [impl_TileSums.l1]) (Ev_pos (by omega) ?_)
          have hF : ∀ y x : Nat, (y : Int) < b → (x : Int) < a → 0 ≤ tsF w l ((i : Int) * a) ((j : Int) * b) y x ∧ tsF w l ((i : Int) * a) ((j : Int) * b) y x ≤ 255 := fun y x hy hx => tsF_bd hp i0 i1 j0 j1 y x hy hx
          have hR : ∀ y x : Nat, (y : Int) < b → (x : Int) ≤ a → 0 ≤ sumN x (tsF w l ((i : Int) * a) ((j : Int) * b) y) ∧ sumN x (tsF w l ((i : Int) * a) ((j : Int) * b) y) ≤ 255 * x := fun y x hy hx => sumN_bd x _ 255 (by omega) (fun q hq => hF y q hy (by omega))
          have hS : ∀ y : Nat, (y : Int) ≤ b → 0 ≤ sumN y (fun y => sumN a.toNat (tsF w l ((i : Int) * a) ((j : Int) * b) y)) ∧ sumN y (fun y => sumN a.toNat (tsF w l ((i : Int) * a) ((j : Int) * b) y)) ≤ 16320 * y := fun y hy => sumN_bd y _ 16320 (by omega) (fun q hq => by
            have := hR q a.toNat (by omega) (by omega)
            omega)
          have low : ∀ f y : Nat, y + f = b.toNat → Ev (fun k => impl_TileSums.l2 k a b (gridL (cn : Int) (tsQ w l a b) (j * cn + i)) (j : Int) (i : Int) (sumN y (fun y => sumN a.toNat (tsF w l ((i : Int) * a) ((j : Int) * b) y))) (rn : Int) (j : Int) (cn : Int) (i : Int) b (y : Int) w h l) (gridL (cn : Int) (tsQ w l a b) (rn * cn)) := by
            intro f
            induction f with
            | zero =>
              intro y hy
              obtain rfl : y = b.toNat := by omega
              have sp := small_prod (j := j) (i := i) (rn := rn) (cn := cn) (by omega) (by omega) (by omega) (by omega)
              rw [← wsucc i (by omega), show j * cn + (i + 1) = j * cn + i + 1 by omega, gridL_succ, cell_at _ j i cn rfl (by omega)] at nx2
              refine Ev.step (fun k => by rw [impl_TileSums.l2]) ?_
              exact (Ev_neg (by omega) (Ev_pos (by rw [gridL_len]; exact sp) nx2))
            | succ f ih3 =>
              intro y hy
              have nx3 := ih3 (y + 1) (by omega)
              rw [sumN_succ, ← wsucc y (by omega)] at nx3
              have s0 := hS y (by omega)
              refine Ev.step (fun k => by rw [impl_TileSums.l2]) (Ev_pos (by omega) ?_)
              generalize sumN y (fun y => sumN a.toNat (tsF w l ((i : Int) * a) ((j : Int) * b) y)) = S at nx3 s0 ⊢
              have last : ∀ g x : Nat, x + g = a.toNat → Ev (fun k => impl_TileSums.l3 k a b (gridL (cn : Int) (tsQ w l a b) (j * cn + i)) (j : Int) (i : Int) (S + sumN x (tsF w l ((i : Int) * a) ((j : Int) * b) y)) (y : Int) (rn : Int) (j : Int) (cn : Int) (i : Int) b (y : Int) a (x : Int) w h l) (gridL (cn : Int) (tsQ w l a b) (rn * cn)) := by
                intro g
                induction g with
                | zero =>
                  intro x hx
                  obtain rfl : x = a.toNat := by omega
                  refine Ev.step (fun k => by rw [impl_TileSums.l3]) ?_
                  exact (Ev_neg (by omega) nx3)
                | succ g ih4 =>
                  intro x hx
                  have nx4 := ih4 (x + 1) (by omega)
                  have q0 := hR y x (by omega) (by omega)
                  have q1 := hF y x (by omega) (by omega)
                  have d0 : 0 ≤ ((j : Int) * b + (y : Int)) * w := Int.mul_nonneg (by omega) (by omega)
                  have d1 : ((j : Int) * b + (y : Int)) * w ≤ (h - 1) * w := Int.mul_le_mul_of_nonneg_right (by omega) (by omega)
                  have ex : rd l (((j : Int) * b + (y : Int)) * w + (i : Int) * a + (x : Int)) = tsF w l ((i : Int) * a) ((j : Int) * b) y x := by rw [Int.add_assoc]; rfl
                  rw [sumN_succ, ← wsucc x (by omega), ← Int.add_assoc] at nx4
                  refine Ev.step (fun k => by rw [impl_TileSums.l3]) (Ev_pos (by omega) ?_)
                  rw [wid ((j : Int) * b) (by omega) (by omega), wid ((j : Int) * b + (y : Int)) (by omega) (by omega), wid (((j : Int) * b + (y : Int)) * w) (by omega) (by omega), wid ((i : Int) * a) (by omega) (by omega), wid (((j : Int) * b + (y : Int)) * w + (i : Int) * a) (by omega) (by omega), wid (((j : Int) * b + (y : Int)) * w + (i : Int) * a + (x : Int)) (by omega) (by omega), ex, wid (S + sumN x (tsF w l ((i : Int) * a) ((j : Int) * b) y) + tsF w l ((i : Int) * a) ((j : Int) * b) y x) (by omega) (by omega)]
                  exact Ev_pos (by omega) (Ev_pos (by omega) nx4)
              have := last a.toNat 0 (by omega)
              rw [sumN_zero, Int.add_zero] at this
              exact this
          have := low b.toNat 0 (by omega)
          rw [sumN_zero] at this
          exact this
      exact mid cn 0 (by omega)
  have := outer rn 0 (by omega)
  rw [Nat.zero_mul] at this
  exact this
/-! The blur. -/
def bluG (w h : Int) (l : List Int) (X Y p q : Int) : Int := rd l ((Y + q) % h * w + (X + p) % w)
theorem blu_row (w h : Int) (l : List Int) (x y j : Int) (n : Nat) : impl_BlurPicture.row w h l x y j n = sumN n (fun i => bluG w h l x y (i : Int) j) := by
  induction n with
  | zero => rfl
  | succ n ih =>
    rw [sumN_succ, ← ih]
    rfl
theorem blu_dots (w h : Int) (l : List Int) (x y : Int) (a n : Nat) : impl_BlurPicture.dots w h l x y a n = sumN n (fun j => sumN a (fun i => bluG w h l x y (i : Int) (j : Int))) := by
  induction n with
  | zero => rfl
  | succ n ih =>
    rw [sumN_succ, ← ih, ← blu_row]
    rfl
/-! Tiles of a screened level. -/
theorem equals_ev (n : Nat) (v : Int) (hn : n ≤ 1048576) : Ev (fun k => laws_equals.f k (n : Int) v) (List.replicate n v) := by
  unfold laws_equals.f
  have key : ∀ d i : Nat, i + d = n → Ev (fun k => laws_equals.l0 k (d : Int) v (List.replicate i v)) (List.replicate n v) := by
    intro d
    induction d with
    | zero =>
      intro i hi
      obtain rfl : i = n := by omega
      exact Ev.step (fun k => by rw [laws_equals.l0]) (Ev_neg (by simp) (Ev.now _))
    | succ d ih =>
      intro i hi
      have nx := ih (i + 1) (by omega)
      rw [List.replicate_succ'] at nx
      refine Ev.step (fun k => by rw [laws_equals.l0]) (Ev_pos (by omega) (Ev_pos (by rw [List.length_replicate]; omega) ?_))
      rw [wid (((d + 1 : Nat) : Int) - 1) (by omega) (by omega), show ((d + 1 : Nat) : Int) - 1 = (d : Int) by omega]
      exact nx
  exact key n 0 (by omega)
theorem tab_const (n : Nat) (v : Int) (f : Nat → Int) (h : ∀ i, i < n → f i = v) : (List.range n).map f = List.replicate n v := by
  rw [tab_congr n f (fun _ => v) h]
  simp [List.map_const']
def scrL (w h : Int) (l : List Int) (v a b : Int) : List Int := gridL a (fun x y => lessI v (rd l (y % h * w + x % w))) (b.toNat * a.toNat)
theorem scr_eq {w h : Int} {l : List Int} (hm : matB w h l = true) (v a b : Int) (v0 : 0 ≤ v) (v1 : v ≤ (l.length : Int)) (hs : sizedB a b = true) : impl_ScreenLevel.f w h l v a b = some (a, b, scrL w h l v a b, true) := if_pos ⟨hm, v0, v1, hs⟩
theorem scr_plate (w h : Int) (l : List Int) (v a b : Int) (hs : sizedB a b = true) : plateB a b (scrL w h l v a b) = true := by
  obtain ⟨h0, h1, h2, h3, h4⟩ := sized_spec hs
  rw [plateB_eq]
  exact pic_mk hs (gridL_len _ _ _) (grid_mem (by omega) (by omega) (fun x y _ _ _ _ => lessI_bd _ _))
theorem scr_rd (w h : Int) (l : List Int) (v a b : Int) (ha : 0 < a) (hb : 0 < b) (x y : Int) : rd (scrL w h l v a b) (y % b * a + x % a) = lessI v (rd l (y % b % h * w + x % a % w)) := by
  unfold scrL
  rw [rd_grid _ _ _ ha hb (Int.emod_nonneg _ (by omega)) (Int.emod_lt_of_pos _ ha) (Int.emod_nonneg _ (by omega)) (Int.emod_lt_of_pos _ hb)]
theorem scr_tiles {w h : Int} {l : List Int} (hm : matB w h l = true) (v : Int) (v0 : 0 ≤ v) (v1 : v ≤ (l.length : Int)) (A B : Nat) (hA : 0 < A) (hB : 0 < B) (hs : sizedB ((A : Int) * w) ((B : Int) * h) = true) : Ev (fun k => impl_TileSums.f k ((A : Int) * w) ((B : Int) * h) (scrL w h l v ((A : Int) * w) ((B : Int) * h)) w h) (List.replicate (B * A) v) := by
  obtain ⟨z0, z1, z2, z3, z4, z5, _⟩ := mat_spec hm
  have hp := plate_pic (scr_plate w h l v _ _ hs)
  have ev := implTS_ev hp w h z0 z2
  rw [Int.mul_ediv_cancel _ (by omega), Int.mul_ediv_cancel _ (by omega), Int.toNat_natCast, Int.toNat_natCast, gridL_tab, tab_const _ v] at ev
  · exact ev
  intro i hi
  obtain ⟨b0, b1, b2, b3, b4⟩ := cell_bd (w := (A : Int)) (h := (B : Int)) i (by omega) (by omega) (by rw [← Int.natCast_mul, Nat.mul_comm]; omega)
  show tsQ ((A : Int) * w) (scrL w h l v ((A : Int) * w) ((B : Int) * h)) w h ((i : Int) % (A : Int)) ((i : Int) / (A : Int)) = v
  generalize (i : Int) % (A : Int) = X at b0 b1 ⊢
  generalize (i : Int) / (A : Int) = Y at b2 b3 ⊢
  have e1 : (X + 1) * w ≤ (A : Int) * w := Int.mul_le_mul_of_nonneg_right (by omega) (by omega)
  have e2 : (Y + 1) * h ≤ (B : Int) * h := Int.mul_le_mul_of_nonneg_right (by omega) (by omega)
  have e3 : 0 ≤ X * w := Int.mul_nonneg b0 (by omega)
  have e4 : 0 ≤ Y * h := Int.mul_nonneg b2 (by omega)
  rw [Int.add_mul, Int.one_mul] at e1 e2
  refine Eq.trans ?_ (window_level hm v v0 v1 (X * w) (Y * h))
  unfold tsQ
  refine sumN_congr _ _ _ (fun y hy => sumN_congr _ _ _ (fun x hx => ?_))
  show rd (scrL w h l v ((A : Int) * w) ((B : Int) * h)) ((Y * h + (y : Int)) * ((A : Int) * w) + (X * w + (x : Int))) = _
  unfold scrL
  rw [rd_grid _ _ _ (by omega) (by omega) (by omega) (by omega) (by omega) (by omega)]
theorem scr_blur {w h : Int} {l : List Int} (hm : matB w h l = true) (v : Int) (v0 : 0 ≤ v) (v1 : v ≤ (l.length : Int)) (A B : Nat) (hA : 0 < A) (hB : 0 < B) (hs : sizedB ((A : Int) * w) ((B : Int) * h) = true) (hw : w ≤ 16) (hh : h ≤ 16) : impl_BlurPicture.f ((A : Int) * w) ((B : Int) * h) (scrL w h l v ((A : Int) * w) ((B : Int) * h)) w h = some ((A : Int) * w, (B : Int) * h, List.replicate (((B : Int) * h).toNat * ((A : Int) * w).toNat) (255 * v / (w * h)), true) := by
  obtain ⟨z0, z1, z2, z3, z4, z5, _⟩ := mat_spec hm
  obtain ⟨g0, g1, g2, g3, g4⟩ := sized_spec hs
  refine (if_pos ⟨scr_plate w h l v _ _ hs, z0, hw, z2, hh⟩).trans ?_
  rw [gridL_tab, tab_const _ (255 * v / (w * h))]
  intro i _
  show 255 * impl_BlurPicture.dots _ _ _ ((i : Int) % ((A : Int) * w)) ((i : Int) / ((A : Int) * w)) w.toNat h.toNat / (w * h) = _
  rw [blu_dots]
  have e : sumN h.toNat (fun j => sumN w.toNat (fun m => bluG ((A : Int) * w) ((B : Int) * h) (scrL w h l v ((A : Int) * w) ((B : Int) * h)) ((i : Int) % ((A : Int) * w)) ((i : Int) / ((A : Int) * w)) (m : Int) (j : Int))) = v := by
    refine Eq.trans ?_ (window_level hm v v0 v1 ((i : Int) % ((A : Int) * w)) ((i : Int) / ((A : Int) * w)))
    refine sumN_congr _ _ _ (fun y hy => sumN_congr _ _ _ (fun x hx => ?_))
    unfold bluG
    rw [scr_rd _ _ _ _ _ _ (by omega) (by omega), Int.emod_emod_of_dvd _ (Int.dvd_mul_left _ _), Int.emod_emod_of_dvd _ (Int.dvd_mul_left _ _)]
  rw [e]
/-- The law FnTiles: every tile of a screened level, at whole tiles from any place of the matrix on, has as many dots as the level says; for the inputs that the law draws. -/
theorem FnTiles (l0 : List Int) (h0_ : l0.length ≤ maxLen) (h1_ : l0.length * 1 ≤ 140737488351232) (h2_ : (∀ x ∈ l0, (Lit.int .u8 x).wf = true)) :
    ∃ k, P.laws_FnTiles.f k l0 = some true := by
  refine Ev.rounds ?_
  unfold laws_FnTiles.f
  by_cases hl : (l0.length : Int) > 1048576
  · exact Ev_pos hl (Ev.now _)
  refine Ev_neg hl ?_
  obtain ⟨w, h, l, hm, hw, hh, hs, HM⟩ := MakeMatrix_ok l0 h0_
  obtain ⟨a, ea, a0, a1⟩ := at_ok l0 1 (by omega) (by omega) (by omega) (u8_bd h2_)
  obtain ⟨b, eb, b0, b1⟩ := at_ok l0 2 (by omega) (by omega) (by omega) (u8_bd h2_)
  obtain ⟨c, ec, c0, c1⟩ := at_ok l0 3 (by omega) (by omega) (by omega) (u8_bd h2_)
  obtain ⟨d, ed, d0, d1⟩ := at_ok l0 4 (by omega) (by omega) (by omega) (u8_bd h2_)
  obtain ⟨e, ee, e0, e1⟩ := at_ok l0 5 (by omega) (by omega) (by omega) (u8_bd h2_)
  obtain ⟨z0, z1, z2, z3, z4, z5, _⟩ := mat_spec hm
  refine Ev.bind HM ?_
  dsimp only
  rw [wid ((l.length : Int) + 1) (by omega) (by omega)]
  refine Ev.bind (Ev_eq ea) (Ev_neg (by omega) (Ev.bind (Ev_eq eb) (Ev.bind (Ev_eq ec) (Ev.bind (Ev_eq ed) (Ev.bind (Ev_eq ee) ?_)))))
  have q0 := Int.tmod_nonneg ((l.length : Int) + 1) a0
  have q1 := Int.tmod_lt_of_pos a (b := (l.length : Int) + 1) (by omega)
  generalize Int.tmod a ((l.length : Int) + 1) = V at q0 q1 ⊢
  have hA : 0 < 1 + Int.tmod b 2 ∧ 1 + Int.tmod b 2 ≤ 2 := by rw [Int.tmod_eq_emod_of_nonneg b0]; omega
  have hB : 0 < 1 + Int.tmod c 2 ∧ 1 + Int.tmod c 2 ≤ 2 := by rw [Int.tmod_eq_emod_of_nonneg c0]; omega
  rw [wid (1 + Int.tmod b 2) (by omega) (by omega), wid (1 + Int.tmod c 2) (by omega) (by omega)]
  generalize 1 + Int.tmod b 2 = A at hA ⊢
  generalize 1 + Int.tmod c 2 = B at hB ⊢
  obtain ⟨A, rfl⟩ : ∃ n : Nat, A = (n : Int) := ⟨A.toNat, by omega⟩
  obtain ⟨B, rfl⟩ : ∃ n : Nat, B = (n : Int) := ⟨B.toNat, by omega⟩
  have k1 : (1 : Int) * w ≤ (A : Int) * w := Int.mul_le_mul_of_nonneg_right (by omega) (by omega)
  have k2 : (A : Int) * w ≤ 2 * w := Int.mul_le_mul_of_nonneg_right (by omega) (by omega)
  have k3 : (1 : Int) * h ≤ (B : Int) * h := Int.mul_le_mul_of_nonneg_right (by omega) (by omega)
  have k4 : (B : Int) * h ≤ 2 * h := Int.mul_le_mul_of_nonneg_right (by omega) (by omega)
  have zp : 0 < w * h := Int.mul_pos (by omega) (by omega)
  have k5 : (A : Int) * (B : Int) ≤ 2 * 2 := Int.le_trans (Int.mul_le_mul_of_nonneg_right (by omega) (by omega)) (Int.mul_le_mul_of_nonneg_left (by omega) (by omega))
  have k6 : 0 ≤ (A : Int) * (B : Int) := Int.mul_nonneg (by omega) (by omega)
  have hs2 : sizedB ((A : Int) * w) ((B : Int) * h) = true := sized_small (by omega) (by omega) (by omega) (by omega)
  have hsh := specShift_ev w h l d e (by omega)
  rw [if_pos ⟨hm, by omega, by omega, by omega, by omega⟩] at hsh
  have hm2 := shift_mat hm d e
  have hlen : (shiftL w h l d e).length = l.length := by
    rw [← mat_len hm2, mat_len hm]
  refine Ev.bind hsh ?_
  rw [wid ((A : Int) * w) (by omega) (by omega), wid ((B : Int) * h) (by omega) (by omega)]
  refine Ev.bind (Ev_eq (scr_eq hm2 V ((A : Int) * w) ((B : Int) * h) q0 (by omega) hs2)) (Ev.bind (scr_tiles hm2 V q0 (by omega) A B (by omega) (by omega) hs2) (Ev_pos rfl ?_))
  dsimp only
  have eb : ((((List.replicate (B * A) V).length : Nat) : Int) != wrap64 ((A : Int) * (B : Int))) = false := by
    rw [List.length_replicate, wid ((A : Int) * (B : Int)) (by omega) (by omega), Int.natCast_mul, Int.mul_comm]
    simp
  rw [eb]
  refine Ev.step (fun k => by rw [laws_FnTiles.j0]) (Ev_neg (by simp) ?_)
  rw [List.length_replicate]
  have key : ∀ d2 i : Nat, i + d2 = B * A → Ev (fun k => laws_FnTiles.l0 k V (A : Int) (B : Int) (List.replicate (B * A) V) ((B * A : Nat) : Int) (i : Int) w h l ((A : Int) * w) ((B : Int) * h) (scrL w h (shiftL w h l d e) V ((A : Int) * w) ((B : Int) * h))) true := by
    intro d2
    induction d2 with
    | zero =>
      intro i hi
      obtain rfl : i = B * A := by omega
      refine Ev.step (fun k => by rw [laws_FnTiles.l0]) (Ev_neg (by omega) ?_)
      have ar := area_eq (w := (A : Int) * w) (h := (B : Int) * h) (by omega) (by omega)
      have ar2 : (A : Int) * w * ((B : Int) * h) = (A : Int) * (B : Int) * (l.length : Int) := by rw [z5, Int.mul_assoc, Int.mul_assoc, Int.mul_left_comm w]
      have ar3 : (A : Int) * (B : Int) * (l.length : Int) ≤ 4 * (l.length : Int) := Int.mul_le_mul_of_nonneg_right (by omega) (by omega)
      refine Ev.bind (Ev_eq (scr_blur hm2 V q0 (by omega) A B (by omega) (by omega) hs2 (by omega) (by omega))) (Ev_pos rfl ?_)
      dsimp only
      rw [List.length_replicate, wid ((A : Int) * (B : Int)) (by omega) (by omega), wid ((A : Int) * (B : Int) * (l.length : Int)) (by omega) (by omega)]
      have d0 : 0 ≤ 255 * V / (l.length : Int) := Int.ediv_nonneg (by omega) (by omega)
      have d1 : 255 * V / (l.length : Int) ≤ 255 * V := Int.ediv_le_self _ (by omega)
      refine Ev_pos (by omega) (Ev_neg (by omega) ?_)
      rw [wid (255 * V) (by omega) (by omega), Int.tdiv_eq_ediv_of_nonneg (by omega), wid (255 * V / (l.length : Int)) (by omega) (by omega), ← z5]
      refine Ev.bind (equals_ev _ _ (by omega)) (Ev.bind (laws_ints_ev _ _ (by rw [List.length_replicate]; unfold maxLen; omega)) ?_)
      rw [decide_eq_true rfl]
      exact Ev.now _
    | succ d2 ih =>
      intro i hi
      have nx := ih (i + 1) (by omega)
      rw [← wsucc i (by
        have := Nat.mul_le_mul (show B ≤ 2 by omega) (show A ≤ 2 by omega)
        omega)] at nx
      refine Ev.step (fun k => by rw [laws_FnTiles.l0]) (Ev_pos (by omega) (Ev_pos (by omega) (Ev_pos (by rw [List.length_replicate]; omega) ?_)))
      refine Ev_pos ?_ nx
      rw [rd_nat, getD_of_lt _ 0 i (by rw [List.length_replicate]; omega), List.getElem_replicate]
  exact key (B * A) 0 (by omega)
end Go.Proofs.Ytdlehfnlibddcaa.Q
