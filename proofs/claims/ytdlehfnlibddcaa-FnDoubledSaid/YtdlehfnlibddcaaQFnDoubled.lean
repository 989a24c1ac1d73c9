/- The law FnDoubled: in a doubled matrix the ranks of a quarter have the same remainder modulo 4, and the quotients are the ranks of before; for the inputs that the law draws. -/
import Derived.Laws.BitsLemmas
import Derived.Test.YtdlehfnlibddcaaFimplDoubleMatrix
import Derived.Test.YtdlehfnlibddcaaFimplIsMatrix
import Derived.Test.YtdlehfnlibddcaaFimplcelled
import Derived.Test.YtdlehfnlibddcaaFimplmod
import Derived.Test.YtdlehfnlibddcaaFimplrank
import Derived.Test.YtdlehfnlibddcaaFlawsFnDoubled
import Derived.Test.YtdlehfnlibddcaaFpre
import Derived.Test.YtdlehfnlibddcaaFspecBayerMatrix
import Derived.Test.YtdlehfnlibddcaaFspecMakeMatrix
import Derived.Test.YtdlehfnlibddcaaFspecRowMatrix
import Derived.Test.YtdlehfnlibddcaaFspecSpiralMatrix
import Derived.Test.YtdlehfnlibddcaaFspecl01Below
import Derived.Test.YtdlehfnlibddcaaFspecl01Byte
import Derived.Test.YtdlehfnlibddcaaFspecl01New
import Derived.Test.YtdlehfnlibddcaaFspecl1In
import Derived.Test.YtdlehfnlibddcaaFspecl2Double
import Derived.Test.YtdlehfnlibddcaaFspecl2Draw
import Derived.Test.YtdlehfnlibddcaaFspecl2Mod
import Derived.Test.YtdlehfnlibddcaaFspecl2Rank
import Derived.Test.YtdlehfnlibddcaaFspecl2Shape
import Derived.Test.YtdlehfnlibddcaaP0
namespace Go.Proofs.Ytdlehfnlibddcaa.Q
open Go.RowKit Go.Proofs.Ytdlehfnlibddcaa.P Go.Proofs.YtdlehfnlibddcaaW.PrintWords
set_option linter.unusedVariables false
set_option linter.unusedSimpArgs false
theorem wsucc (i : Nat) (h : i < 9223372036854775807) : wrap64 ((i : Int) + 1) = ((i + 1 : Nat) : Int) := by unfold wrap64; omega
theorem wid (x : Int) (h0 : -9223372036854775808 ≤ x) (h1 : x ≤ 9223372036854775807) : wrap64 x = x := by unfold wrap64; omega
theorem rd_nat (l : List Int) (i : Nat) : rd l (i : Int) = l.getD i 0 := by unfold rd; rw [Int.toNat_natCast]
theorem getD_of_lt {α : Type} (l : List α) (d : α) (i : Nat) (h : i < l.length) : l.getD i d = l[i] := by simp [List.getD_eq_getElem?_getD, List.getElem?_eq_getElem h]
theorem getD_mem (l : List Int) (i : Nat) (h : i < l.length) : l.getD i 0 ∈ l := by rw [getD_of_lt l 0 i h]; exact List.getElem_mem h
theorem ext_getD {a b : List Int} (hl : a.length = b.length) (h : ∀ i, i < a.length → a.getD i 0 = b.getD i 0) : a = b := by
  apply List.ext_getElem hl
  intro i h1 h2
  have := h i h1
  rwa [getD_of_lt a 0 i h1, getD_of_lt b 0 i h2] at this
theorem getD_set (l : List Int) (i j : Nat) (x : Int) (hi : i < l.length) : (l.set i x).getD j 0 = if j = i then x else l.getD j 0 := by
  simp only [List.getD_eq_getElem?_getD, List.getElem?_set]
  by_cases h : i = j
  · subst h; simp [hi]
  · rw [if_neg h, if_neg (fun e => h e.symm)]
theorem getD_tab (n : Nat) (f : Nat → Int) (j : Nat) (h : j < n) : ((List.range n).map f).getD j 0 = f j := by
  simp [List.getD_eq_getElem?_getD, List.getElem?_map, List.getElem?_range h]
theorem len_tab (n : Nat) (f : Nat → Int) : ((List.range n).map f).length = n := by simp
theorem tab_congr (n : Nat) (f g : Nat → Int) (h : ∀ i, i < n → f i = g i) : (List.range n).map f = (List.range n).map g :=
  List.map_congr_left (fun i hi => h i (List.mem_range.1 hi))
theorem Ev_pos {α : Type} {c : Prop} [Decidable c] {f g : Nat → Option α} {r : α} (hc : c) (h : Ev f r) : Ev (fun k => if c then f k else g k) r := Ev.congr (fun k => if_pos hc) h
theorem Ev_neg {α : Type} {c : Prop} [Decidable c] {f g : Nat → Option α} {r : α} (hc : ¬ c) (h : Ev g r) : Ev (fun k => if c then f k else g k) r := Ev.congr (fun k => if_neg hc) h
/-! The reference's pictures. -/
theorem l1In_eq (x a b : Int) : spec_l1In.f x a b = some (decide (a ≤ x ∧ x ≤ b)) := by
  unfold spec_l1In.f
  by_cases h : x ≥ a
  · rw [if_pos h]
    congr 1
    rw [decide_eq_decide]
    omega
  · rw [if_neg h, decide_eq_false (by omega)]
theorem gridL_tab (w : Int) (f : Int → Int → Int) (n : Nat) : gridL w f n = (List.range n).map fun i => cellAt w f i := rfl
theorem area_eq {w h : Int} (h0 : 0 ≤ w) (h1 : 0 ≤ h) : ((h.toNat * w.toNat : Nat) : Int) = w * h := by
  rw [Int.natCast_mul, Int.toNat_of_nonneg h0, Int.toNat_of_nonneg h1, Int.mul_comm]
theorem tdiv_nat (i : Nat) (w : Int) (h : 0 < w) : Int.tdiv (i : Int) w = (i : Int) / w := Int.tdiv_eq_ediv_of_nonneg (by omega)
theorem tmod_nat (i : Nat) (w : Int) : Int.tmod (i : Int) w = (i : Int) % w := Int.tmod_eq_emod_of_nonneg (by omega)
theorem cell_bd {w h : Int} (i : Nat) (h0 : 0 < w) (h1 : 0 < h) (hi : (i : Int) < w * h) : 0 ≤ (i : Int) % w ∧ (i : Int) % w < w ∧ 0 ≤ (i : Int) / w ∧ (i : Int) / w < h ∧ (i : Int) / w * w + (i : Int) % w = i := by
  refine ⟨Int.emod_nonneg _ (by omega), Int.emod_lt_of_pos _ h0, Int.ediv_nonneg (by omega) (by omega), ?_, ?_⟩
  · exact Int.ediv_lt_of_lt_mul h0 (by rw [Int.mul_comm]; exact hi)
  · have := Int.mul_ediv_add_emod (i : Int) w
    rw [Int.mul_comm] at this
    exact this
theorem cell_of {w : Int} (x y : Int) (h0 : 0 < w) (hx0 : 0 ≤ x) (hx : x < w) : (y * w + x) % w = x ∧ (y * w + x) / w = y := by
  constructor
  · rw [Int.add_comm, Int.add_mul_emod_self_right, Int.emod_eq_of_lt hx0 hx]
  · rw [Int.add_comm, Int.add_mul_ediv_right _ _ (by omega), Int.ediv_eq_zero_of_lt hx0 hx, Int.zero_add]
/-! The drawing of inputs. -/
theorem and255 (n : Int) : Go.bits .and .i64 n 255 = n % 256 := by
  have h127 : (BitVec.ofInt 64 255).toNat = 2 ^ 8 - 1 := by decide
  have key : (BitVec.ofInt 64 n &&& BitVec.ofInt 64 255).toNat = (n % ((2 ^ 64 : Nat) : Int)).toNat % 2 ^ 8 := by
    rw [BitVec.toNat_and, BitVec.toNat_ofInt, h127, Nat.and_two_pow_sub_one_eq_mod]
  show IntKind.i64.wrap ((BitVec.ofInt 64 n &&& BitVec.ofInt 64 255).toNat : Nat) = n % 256
  rw [key, IntKind.wrap_i64]
  omega
theorem byte_ok (s : List Int) (a b : Int) (ha : 0 ≤ a) (hl : s.length ≤ maxLen) : ∃ v a2 b2 : Int, spec_l01Byte.f s a b = some (v, a2, b2) ∧ 0 ≤ v ∧ v ≤ 255 ∧ 0 ≤ a2 := by
  unfold maxLen at hl
  unfold spec_l01Byte.f
  simp only [and255]
  by_cases h : a < (s.length : Int)
  · rw [if_pos h, if_pos ha, wid (a + 1) (by omega) (by omega)]
    exact ⟨_, _, _, rfl, by omega, by omega, by omega⟩
  · rw [if_neg h]
    exact ⟨_, _, _, rfl, by omega, by omega, by omega⟩
theorem below_ok (s : List Int) (a b n : Int) (ha : 0 ≤ a) (hl : s.length ≤ maxLen) (h1 : 1 ≤ n) (h2 : n ≤ 256) : ∃ v a2 b2 : Int, spec_l01Below.f s a b n = some (v, a2, b2) ∧ 0 ≤ v ∧ v < n ∧ 0 ≤ a2 := by
  obtain ⟨v, a2, b2, e, h3, h4, h5⟩ := byte_ok s a b ha hl
  unfold spec_l01Below.f
  rw [if_neg (by omega), if_pos h2, e, Option.bind_some, if_neg (by omega)]
  exact ⟨_, _, _, rfl, Int.tmod_nonneg _ h3, Int.tmod_lt_of_pos _ (by omega), h5⟩
theorem new_ok (s : List Int) (hl : s.length ≤ maxLen) : ∃ b : Int, Ev (fun k => spec_l01New.f k s) (s, 0, b) := by
  unfold maxLen at hl
  have key : ∀ (d i : Nat) (x : Int), i + d = s.length → ∃ b : Int, Ev (fun k => spec_l01New.l0 k s x (i : Int)) (s, 0, b) := by
    intro d
    induction d with
    | zero =>
      intro i x hi
      refine ⟨x, Ev.step (fun k => by rw [spec_l01New.l0]) ?_⟩
      exact Ev_neg (by omega) (Ev.now _)
    | succ d ih =>
      intro i x hi
      by_cases h : (i : Int) < 4000
      · obtain ⟨b, hb⟩ := ih (i + 1) (Go.bits .and .i64 (wrap64 ((wrap64 ((wrap64 (x * 1103)) + (wrap64 (rd s (i : Int))))) + 7)) 1073741823) (by omega)
        refine ⟨b, Ev.step (fun k => ?_) hb⟩
        simp only [spec_l01New.l0]
        rw [if_pos (by omega), if_pos h, if_pos (by omega), wsucc i (by omega)]
      · refine ⟨x, Ev.step (fun k => by rw [spec_l01New.l0]) ?_⟩
        exact Ev_pos (by omega) (Ev_neg h (Ev.now _))
  exact key s.length 0 _ (by omega)
theorem sized_small {w h : Int} (h0 : 1 ≤ w) (h1 : w ≤ 16) (h2 : 1 ≤ h) (h3 : h ≤ 16) : sizedB w h = true := by
  have e : w * h ≤ 16 * 16 := Int.le_trans (Int.mul_le_mul_of_nonneg_right h1 (by omega)) (Int.mul_le_mul_of_nonneg_left h3 (by omega))
  exact decide_eq_true ⟨h0, by omega, h2, by omega, by omega⟩
/-! Matrices. -/
theorem l2Shape_eq (a b : Int) : spec_l2Shape.f a b = some (celledB a b) := by
  unfold spec_l2Shape.f celledB
  rw [l1In_eq, Option.bind_some]
  by_cases h0 : 1 ≤ a ∧ a ≤ 256
  · rw [decide_eq_true h0, if_pos rfl, l1In_eq, Option.bind_some]
    by_cases h1 : 1 ≤ b ∧ b ≤ 256
    · rw [decide_eq_true h1, if_pos rfl]
      have e0 : 0 ≤ a * b := Int.mul_nonneg (by omega) (by omega)
      have e1 : a * b ≤ 256 * 256 := Int.le_trans (Int.mul_le_mul_of_nonneg_right h0.2 (by omega)) (Int.mul_le_mul_of_nonneg_left h1.2 (by omega))
      rw [wid (a * b) (by omega) (by omega)]
      congr 1
      rw [decide_eq_decide]
      exact ⟨fun h => ⟨h0.1, h0.2, h1.1, h1.2, h⟩, fun h => h.2.2.2.2⟩
    · rw [decide_eq_false h1, if_neg (by simp), decide_eq_false (fun h => h1 ⟨h.2.2.1, h.2.2.2.1⟩)]
  · rw [decide_eq_false h0, if_neg (by simp), decide_eq_false (fun h => h0 ⟨h.1, h.2.1⟩)]
theorem rows_tab {w : Int} (n : Nat) (h0 : 0 < w) : gridL w (fun x y => y * w + x) n = (List.range n).map (fun i : Nat => (i : Int)) := by
  rw [gridL_tab]
  refine tab_congr _ _ _ (fun i _ => ?_)
  show (i : Int) / w * w + (i : Int) % w = i
  have := Int.mul_ediv_add_emod (i : Int) w
  rw [Int.mul_comm] at this
  exact this
theorem specRow_ev (w h : Int) : Ev (fun k => spec_RowMatrix.f k w h) (if celledB w h = true then (w, h, gridL w (fun x y => y * w + x) (Int.toNat h * Int.toNat w), true) else (0, 0, [], false)) := by
  unfold spec_RowMatrix.f
  rw [l2Shape_eq]
  simp only [Option.bind_some]
  by_cases hc : celledB w h = true
  · obtain ⟨h0, h1, h2, h3, h4⟩ := celled_spec hc
    have hn := area_eq (w := w) (h := h) (by omega) (by omega)
    have hp : 0 ≤ w * h := Int.mul_nonneg (by omega) (by omega)
    rw [if_pos hc, rows_tab _ (by omega)]
    refine Ev_pos hc ?_
    have key : ∀ d i : Nat, i + d = h.toNat * w.toNat → Ev (fun k => spec_RowMatrix.l0 k w h (i : Int) w h ((List.range i).map (fun i : Nat => (i : Int)))) (w, h, (List.range (h.toNat * w.toNat)).map (fun i : Nat => (i : Int)), true) := by
      intro d
      induction d with
      | zero =>
        intro i hi
        obtain rfl : i = h.toNat * w.toNat := by omega
        refine Ev.step (fun k => by rw [spec_RowMatrix.l0]) ?_
        exact Ev_neg (by rw [wid (w * h) (by omega) (by omega)]; omega) (Ev.now _)
      | succ d ih =>
        intro i hi
        have := ih (i + 1) (by omega)
        rw [List.range_succ, List.map_append, ← wsucc i (by omega)] at this
        refine Ev.step (fun k => by rw [spec_RowMatrix.l0]) ?_
        exact Ev_pos (by rw [wid (w * h) (by omega) (by omega)]; omega) (Ev_pos (by rw [List.length_map, List.length_range]; omega) this)
    exact key (h.toNat * w.toNat) 0 (by omega)
  · rw [if_neg hc]
    exact Ev_neg hc (Ev.now _)
/-! Ranks. -/
theorem specMod_ev (x w : Int) (hw : 0 < w) (hw2 : w ≤ 1000000000000) : spec_l2Mod.f x w = some (x % w) := by
  have b0 := Int.emod_nonneg x (b := w) (by omega)
  have b1 := Int.emod_lt_of_pos x hw
  unfold spec_l2Mod.f
  rw [if_neg (by omega)]
  by_cases hx : 0 ≤ x
  · rw [Int.tmod_eq_emod_of_nonneg hx, if_neg (by omega)]
  · have e : Int.tmod x w = -((-x) % w) := by
      rw [← Int.tmod_eq_emod_of_nonneg (by omega : 0 ≤ -x), Int.neg_tmod, Int.neg_neg]
    have c0 := Int.emod_nonneg (-x) (b := w) (by omega)
    have c1 := Int.emod_lt_of_pos (-x) hw
    rw [e]
    have d1 := Int.mul_ediv_add_emod x w
    have d2 := Int.mul_ediv_add_emod (-x) w
    by_cases hz : (-x) % w = 0
    · rw [hz, if_neg (by omega)]
      have : x % w = 0 := Int.emod_eq_zero_of_dvd ((Int.dvd_neg.1 (Int.dvd_of_emod_eq_zero hz)))
      rw [this]
      rfl
    · rw [if_pos (by omega), wid _ (by omega) (by omega)]
      congr 1
      have e3 : w * (x / w) + w * (-x / w) = w * (x / w + -x / w) := (Int.mul_add _ _ _).symm
      have k1 : x / w + -x / w < 0 := by
        by_cases k : 0 ≤ x / w + -x / w
        · have := Int.mul_nonneg (by omega : 0 ≤ w) k
          omega
        · omega
      have k2 : -2 < x / w + -x / w := by
        by_cases k : x / w + -x / w ≤ -2
        · have := Int.mul_le_mul_of_nonneg_left k (by omega : 0 ≤ w)
          omega
        · omega
      rw [show x / w + -x / w = -1 by omega] at e3
      omega
theorem rank_eq {w h : Int} {l : List Int} (hm : matB w h l = true) (x y : Int) : spec_l2Rank.f w h l x y = some (rd l (y % h * w + x % w)) ∧ impl_rank.f w h l x y = some (rd l (y % h * w + x % w)) := by
  obtain ⟨h0, h1, h2, h3, h4, h5, _⟩ := mat_spec hm
  have bx := Int.emod_nonneg x (b := w) (by omega)
  have bx' := Int.emod_lt_of_pos x (b := w) (by omega)
  have by_ := Int.emod_nonneg y (b := h) (by omega)
  have by' := Int.emod_lt_of_pos y (b := h) (by omega)
  have hb := idx_lt (w := w) (h := h) (x := x % w) (y := y % h) bx bx' by_ by'
  have hm0 : 0 ≤ y % h * w := Int.mul_nonneg (by omega) (by omega)
  unfold spec_l2Rank.f impl_rank.f
  rw [specMod_ev y h (by omega) (by omega), specMod_ev x w (by omega) (by omega), impl_mod.eq y h (by omega) (by omega), impl_mod.eq x w (by omega) (by omega)]
  simp only [Option.bind_some]
  rw [wid (y % h * w) (by omega) (by omega), wid (y % h * w + x % w) (by omega) (by omega), if_pos hb.1, if_pos (by omega)]
  exact ⟨rfl, rfl⟩
/-! Matrices reversed. -/
theorem mat_len {w h : Int} {l : List Int} (hm : matB w h l = true) : h.toNat * w.toNat = l.length := by
  obtain ⟨h0, h1, h2, h3, h4, h5, _⟩ := mat_spec hm
  have := area_eq (w := w) (h := h) (by omega) (by omega)
  omega
/-! What a matrix is. -/
theorem seenB_iff (n : Int) : ∀ (l : List Int) (s : List Bool), n ≤ (s.length : Int) → (seenB l n s = true ↔ (∀ x ∈ l, 0 ≤ x ∧ x < n ∧ s.getD x.toNat false = false) ∧ l.Nodup) := by
  intro l
  induction l with
  | nil => intro s _; simp [seenB]
  | cons x xs ih =>
    intro s hs
    unfold seenB
    by_cases c0 : x < 0
    · rw [if_pos c0]
      refine ⟨fun h => by simp at h, fun h => ?_⟩
      have := (h.1 x (List.mem_cons_self ..)).1
      omega
    rw [if_neg c0]
    by_cases c1 : x ≥ n
    · rw [if_pos c1]
      refine ⟨fun h => by simp at h, fun h => ?_⟩
      have := (h.1 x (List.mem_cons_self ..)).2.1
      omega
    rw [if_neg c1]
    by_cases c2 : s.getD x.toNat false = true
    · rw [if_pos c2]
      refine ⟨fun h => by simp at h, fun h => ?_⟩
      have := (h.1 x (List.mem_cons_self ..)).2.2
      rw [c2] at this
      cases this
    rw [if_neg c2, ih _ (by rw [List.length_set]; exact hs), List.nodup_cons]
    have key : ∀ y : Int, 0 ≤ y → ((s.set x.toNat true).getD y.toNat false = false ↔ y ≠ x ∧ s.getD y.toNat false = false) := by
      intro y hy
      simp only [List.getD_eq_getElem?_getD, List.getElem?_set]
      by_cases e : y = x
      · subst e
        rw [if_pos rfl, if_pos (by omega)]
        simp
      · rw [if_neg (by omega)]
        simp [e]
    constructor
    · rintro ⟨h1, h2⟩
      refine ⟨fun y hy => ?_, fun hx => ?_, h2⟩
      · rcases List.mem_cons.1 hy with rfl | hy
        · exact ⟨by omega, by omega, by simpa using c2⟩
        · have := h1 y hy
          exact ⟨this.1, this.2.1, ((key y this.1).1 this.2.2).2⟩
      · have := h1 x hx
        exact ((key x this.1).1 this.2.2).1 rfl
    · rintro ⟨h1, h2, h3⟩
      refine ⟨fun y hy => ?_, h3⟩
      have := h1 y (List.mem_cons_of_mem _ hy)
      exact ⟨this.1, this.2.1, (key y this.1).2 ⟨fun e => h2 (e ▸ hy), this.2.2⟩⟩
theorem rep_false (n i : Nat) : (List.replicate n false).getD i false = false := by
  rw [List.getD_eq_getElem?_getD, List.getElem?_replicate]
  split <;> rfl
theorem mat_iff (w h : Int) (l : List Int) : matB w h l = true ↔ celledB w h = true ∧ (l.length : Int) = w * h ∧ (∀ x ∈ l, 0 ≤ x ∧ x < (l.length : Int)) ∧ l.Nodup := by
  unfold matB
  rw [Bool.and_eq_true, Bool.and_eq_true, decide_eq_true_eq]
  constructor
  · rintro ⟨h1, h2, h3⟩
    have := celled_spec h1
    rw [seenB_iff _ _ _ (by rw [List.length_replicate]; omega)] at h3
    exact ⟨h1, h2, fun x hx => ⟨(h3.1 x hx).1, (h3.1 x hx).2.1⟩, h3.2⟩
  · rintro ⟨h1, h2, h3, h4⟩
    have := celled_spec h1
    refine ⟨h1, h2, ?_⟩
    rw [seenB_iff _ _ _ (by rw [List.length_replicate]; omega)]
    exact ⟨fun x hx => ⟨(h3 x hx).1, (h3 x hx).2, rep_false _ _⟩, h4⟩
theorem nodup_iff (l : List Int) : l.Nodup ↔ ∀ i j : Nat, i < l.length → j < l.length → l.getD i 0 = l.getD j 0 → i = j := by
  constructor
  · intro h i j hi hj e
    rw [getD_of_lt l 0 i hi, getD_of_lt l 0 j hj] at e
    exact (List.getElem_inj h).1 e
  · intro h
    rw [List.nodup_iff_pairwise_ne, List.pairwise_iff_getElem]
    intro i j hi hj hij e
    have := h i j hi hj (by rw [getD_of_lt l 0 i hi, getD_of_lt l 0 j hj]; exact e)
    omega
theorem tab_nodup (n : Nat) (f : Nat → Int) (h : ∀ i j : Nat, i < n → j < n → f i = f j → i = j) : ((List.range n).map f).Nodup := by
  rw [nodup_iff, len_tab]
  intro i j hi hj e
  rw [getD_tab _ _ _ hi, getD_tab _ _ _ hj] at e
  exact h i j hi hj e
theorem mat_tab {w h : Int} (n : Nat) (f : Nat → Int) (hc : celledB w h = true) (hn : (n : Int) = w * h) (hb : ∀ i, i < n → 0 ≤ f i ∧ f i < (n : Int)) (hi : ∀ i j : Nat, i < n → j < n → f i = f j → i = j) : matB w h ((List.range n).map f) = true := by
  rw [mat_iff, len_tab]
  refine ⟨hc, hn, fun x hx => ?_, tab_nodup n f hi⟩
  obtain ⟨i, hi, rfl⟩ := List.mem_map.1 hx
  exact hb i (List.mem_range.1 hi)
theorem mat_get {w h : Int} {l : List Int} (hm : matB w h l = true) : celledB w h = true ∧ (l.length : Int) = w * h ∧ (∀ i, i < l.length → 0 ≤ l.getD i 0 ∧ l.getD i 0 < (l.length : Int)) ∧ ∀ i j : Nat, i < l.length → j < l.length → l.getD i 0 = l.getD j 0 → i = j := by
  rw [mat_iff] at hm
  exact ⟨hm.1, hm.2.1, fun i hi => hm.2.2.1 _ (getD_mem l i hi), (nodup_iff l).1 hm.2.2.2⟩
theorem mat_moved {w h : Int} {l : List Int} (hm : matB w h l = true) (s : Nat → Nat) (hs : ∀ i, i < l.length → s i < l.length) (hi : ∀ i j : Nat, i < l.length → j < l.length → s i = s j → i = j) : matB w h ((List.range l.length).map (fun i => l.getD (s i) 0)) = true := by
  obtain ⟨a, b, c, d⟩ := mat_get hm
  exact mat_tab _ _ a b (fun i h => c _ (hs i h)) (fun i j h1 h2 e => hi i j h1 h2 (d _ _ (hs i h1) (hs j h2) e))
theorem mat_swap {w h : Int} {l : List Int} (hm : matB w h l = true) (i k : Nat) (hi : i < l.length) (hk : k < l.length) : matB w h ((l.set i (l.getD k 0)).set k (l.getD i 0)) = true := by
  have e : (l.set i (l.getD k 0)).set k (l.getD i 0) = (List.range l.length).map (fun j => l.getD (if j = k then i else if j = i then k else j) 0) := by
    apply ext_getD (by rw [List.length_set, List.length_set, len_tab])
    intro j hj
    rw [List.length_set, List.length_set] at hj
    rw [getD_tab _ _ _ hj, getD_set _ _ _ _ (by rw [List.length_set]; exact hk), getD_set _ _ _ _ hi]
    by_cases c : j = k
    · rw [if_pos c, if_pos c]
    · rw [if_neg c, if_neg c]
      by_cases c2 : j = i
      · rw [if_pos c2, if_pos c2]
      · rw [if_neg c2, if_neg c2]
  rw [e]
  refine mat_moved hm _ (fun j hj => ?_) (fun a b _ _ q => ?_)
  · split
    · exact hi
    · split
      · exact hk
      · exact hj
  · split at q <;> split at q <;> (try split at q) <;> (try split at q) <;> omega
/-! Doubling. -/
def dblG (w h : Int) (l : List Int) (x y : Int) : Int := wrap64 (wrap64 (4 * rd l (y % h * w + x % w)) + impl_DoubleMatrix.quarter w h x y)
theorem specDbl_ev {w h : Int} {l : List Int} (hm : matB w h l = true) : Ev (fun k => spec_l2Double.f k w h l) (2 * w, 2 * h, gridL (2 * w) (dblG w h l) (4 * l.length)) := by
  obtain ⟨a0, a1, a2, a3, a4, a5, _⟩ := mat_spec hm
  unfold spec_l2Double.f
  rw [wid (2 * w) (by omega) (by omega), wid (2 * h) (by omega) (by omega)]
  have key : ∀ d i : Nat, i + d = 4 * l.length → Ev (fun k => spec_l2Double.l0 k (i : Int) w h l (2 * w) (2 * h) (gridL (2 * w) (dblG w h l) i)) (2 * w, 2 * h, gridL (2 * w) (dblG w h l) (4 * l.length)) := by
    intro d
    induction d with
    | zero =>
      intro i hi
      obtain rfl : i = 4 * l.length := by omega
      exact Ev.step (fun k => by rw [spec_l2Double.l0]) (Ev_neg (by rw [wid _ (by omega) (by omega)]; omega) (Ev.now _))
    | succ d ih =>
      intro i hi
      have nx := ih (i + 1) (by omega)
      have harea : (i : Int) < 2 * w * (2 * h) := by
        have : 2 * w * (2 * h) = 4 * (w * h) := by rw [Int.mul_assoc, Int.mul_left_comm w 2 h]; omega
        omega
      obtain ⟨b0, b1, b2, b3, b4⟩ := cell_bd (w := 2 * w) (h := 2 * h) i (by omega) (by omega) harea
      rw [gridL_succ] at nx
      have ec : cellAt (2 * w) (dblG w h l) i = dblG w h l ((i : Int) % (2 * w)) ((i : Int) / (2 * w)) := rfl
      rw [ec, ← wsucc i (by omega)] at nx
      have hlen := gridL_len (2 * w) (dblG w h l) i
      refine Ev.step (fun k => by rw [spec_l2Double.l0]) (Ev_pos (by rw [wid _ (by omega) (by omega)]; omega) (Ev_neg (by omega) ?_))
      rw [tmod_nat, tdiv_nat i (2 * w) (by omega), wid ((i : Int) / (2 * w)) (by omega) (by omega)]
      generalize (i : Int) % (2 * w) = x at b0 b1 nx ⊢
      generalize (i : Int) / (2 * w) = y at b2 b3 nx ⊢
      have er := (rank_eq hm x y).1
      unfold dblG impl_DoubleMatrix.quarter at nx
      by_cases cx : x < w
      · refine Ev_neg (by omega) (Ev.step (fun k => by rw [spec_l2Double.j1]) (Ev_neg (by simp) (Ev_pos cx (Ev.step (fun k => by rw [spec_l2Double.j2]) ?_))))
        by_cases cy : y < h
        · rw [if_pos cy, if_pos cx] at nx
          refine Ev_neg (by rw [decide_eq_false (by omega)]; simp) (Ev_neg (by omega) ?_)
          rw [er]
          exact Ev_pos (by omega) nx
        · rw [if_neg cy, if_pos cx] at nx
          refine Ev_pos (decide_eq_true (by omega)) ?_
          rw [er]
          exact Ev_pos (by omega) nx
      · refine Ev_pos (by omega) (Ev.step (fun k => by rw [spec_l2Double.j1]) ?_)
        by_cases cy : y < h
        · rw [if_pos cy, if_neg cx] at nx
          refine Ev_pos (decide_eq_true cy) ?_
          rw [er]
          exact Ev_pos (by omega) nx
        · rw [if_neg cy, if_neg cx] at nx
          refine Ev_neg (by rw [decide_eq_false cy]; simp) (Ev_neg cx (Ev.step (fun k => by rw [spec_l2Double.j2]) (Ev_neg (by simp) (Ev_pos (by omega) (Ev_pos (by omega) ?_)))))
          rw [er]
          exact Ev_pos (by omega) nx
  exact key (4 * l.length) 0 (by omega)
theorem celled_dbl {w h : Int} {l : List Int} (hm : matB w h l = true) : celledB (2 * w) (2 * h) = true ↔ ¬ 4 * (l.length : Int) > 256 := by
  obtain ⟨a0, a1, a2, a3, a4, a5, _⟩ := mat_spec hm
  have e : 2 * w * (2 * h) = 4 * (w * h) := by rw [Int.mul_assoc, Int.mul_left_comm w 2 h]; omega
  constructor
  · intro hc
    have := celled_spec hc
    omega
  · intro hc
    have b0 : w * 1 ≤ w * h := Int.mul_le_mul_of_nonneg_left a2 (by omega)
    have b1 : 1 * h ≤ w * h := Int.mul_le_mul_of_nonneg_right a0 (by omega)
    exact decide_eq_true (by omega)
theorem dbl_area {w h : Int} {l : List Int} (hm : matB w h l = true) : (2 * h).toNat * (2 * w).toNat = 4 * l.length := by
  obtain ⟨a0, a1, a2, a3, a4, a5, _⟩ := mat_spec hm
  have := area_eq (w := 2 * w) (h := 2 * h) (by omega) (by omega)
  have e : 2 * w * (2 * h) = 4 * (w * h) := by rw [Int.mul_assoc, Int.mul_left_comm w 2 h]; omega
  omega
theorem implDbl_eq {w h : Int} {l : List Int} (hm : matB w h l = true) : impl_DoubleMatrix.f w h l = if 4 * (l.length : Int) > 256 then some (0, 0, [], false) else some (2 * w, 2 * h, gridL (2 * w) (dblG w h l) (4 * l.length), true) := by
  unfold impl_DoubleMatrix.f
  by_cases c : 4 * (l.length : Int) > 256
  · rw [if_pos c, if_neg (fun q => (celled_dbl hm).1 q.2 c)]
  · rw [if_neg c, if_pos ⟨hm, (celled_dbl hm).2 c⟩, dbl_area hm]
    rfl
/-- The doubled ranks, in plain numbers. -/
def dblF (w h : Int) (l : List Int) (i : Nat) : Int := 4 * rd l ((i : Int) / (2 * w) % h * w + (i : Int) % (2 * w) % w) + impl_DoubleMatrix.quarter w h ((i : Int) % (2 * w)) ((i : Int) / (2 * w))
theorem quarter_bd (w h x y : Int) : 0 ≤ impl_DoubleMatrix.quarter w h x y ∧ impl_DoubleMatrix.quarter w h x y ≤ 3 := by
  unfold impl_DoubleMatrix.quarter
  split <;> split <;> omega
theorem quarter_inj {w h x y u v : Int} (e : impl_DoubleMatrix.quarter w h x y = impl_DoubleMatrix.quarter w h u v) : (x < w ↔ u < w) ∧ (y < h ↔ v < h) := by
  unfold impl_DoubleMatrix.quarter at e
  by_cases a : x < w <;> by_cases b : y < h <;> by_cases c : u < w <;> by_cases d : v < h <;> simp [a, b, c, d] at e ⊢
theorem rd_mod {w h : Int} {l : List Int} (hm : matB w h l = true) (x y : Int) : 0 ≤ y % h * w + x % w ∧ y % h * w + x % w < (l.length : Int) ∧ 0 ≤ rd l (y % h * w + x % w) ∧ rd l (y % h * w + x % w) < (l.length : Int) := by
  obtain ⟨a0, a1, a2, a3, a4, a5, _⟩ := mat_spec hm
  have b := idx_lt (w := w) (h := h) (x := x % w) (y := y % h) (Int.emod_nonneg _ (by omega)) (Int.emod_lt_of_pos _ (by omega)) (Int.emod_nonneg _ (by omega)) (Int.emod_lt_of_pos _ (by omega))
  have c := ((mat_iff w h l).1 hm).2.2.1 _ (rd_mem l _ b.1 (by omega))
  omega
theorem dbl_tab {w h : Int} {l : List Int} (hm : matB w h l = true) (n : Nat) : gridL (2 * w) (dblG w h l) n = (List.range n).map (dblF w h l) := by
  obtain ⟨a0, a1, a2, a3, a4, a5, _⟩ := mat_spec hm
  rw [gridL_tab]
  refine tab_congr _ _ _ (fun i _ => ?_)
  have r := rd_mod hm ((i : Int) % (2 * w)) ((i : Int) / (2 * w))
  have q := quarter_bd w h ((i : Int) % (2 * w)) ((i : Int) / (2 * w))
  show wrap64 (wrap64 (4 * rd l _) + _) = _
  rw [wid (4 * rd l _) (by omega) (by omega), wid _ (by omega) (by omega)]
  rfl
theorem half_mod (x w : Int) (h0 : 0 ≤ x) (h1 : x < 2 * w) (hw : 0 < w) : x % w = if x < w then x else x - w := by
  by_cases c : x < w
  · rw [if_pos c, Int.emod_eq_of_lt h0 c]
  · rw [if_neg c]
    have : x = (x - w) + w * 1 := by omega
    rw [this, Int.add_mul_emod_self_left, Int.emod_eq_of_lt (by omega) (by omega)]
    omega
theorem mat_dbl {w h : Int} {l : List Int} (hm : matB w h l = true) (hc : ¬ 4 * (l.length : Int) > 256) : matB (2 * w) (2 * h) ((List.range (4 * l.length)).map (dblF w h l)) = true := by
  obtain ⟨a0, a1, a2, a3, a4, a5, _⟩ := mat_spec hm
  obtain ⟨g0, g1, g2, g3⟩ := mat_get hm
  have e : 2 * w * (2 * h) = 4 * (w * h) := by rw [Int.mul_assoc, Int.mul_left_comm w 2 h]; omega
  refine mat_tab _ _ ((celled_dbl hm).2 hc) (by push_cast; omega) (fun i hi => ?_) (fun i j hi hj q => ?_)
  · have r := rd_mod hm ((i : Int) % (2 * w)) ((i : Int) / (2 * w))
    have q := quarter_bd w h ((i : Int) % (2 * w)) ((i : Int) / (2 * w))
    unfold dblF
    push_cast
    omega
  · unfold dblF at q
    obtain ⟨b0, b1, b2, b3, b4⟩ := cell_bd (w := 2 * w) (h := 2 * h) i (by omega) (by omega) (by omega)
    obtain ⟨c0, c1, c2, c3, c4⟩ := cell_bd (w := 2 * w) (h := 2 * h) j (by omega) (by omega) (by omega)
    have ri := rd_mod hm ((i : Int) % (2 * w)) ((i : Int) / (2 * w))
    have rj := rd_mod hm ((j : Int) % (2 * w)) ((j : Int) / (2 * w))
    have mx := half_mod ((i : Int) % (2 * w)) w b0 b1 (by omega)
    have my := half_mod ((i : Int) / (2 * w)) h b2 b3 (by omega)
    have nx := half_mod ((j : Int) % (2 * w)) w c0 c1 (by omega)
    have ny := half_mod ((j : Int) / (2 * w)) h c2 c3 (by omega)
    have x0 := Int.emod_nonneg ((i : Int) % (2 * w)) (b := w) (by omega)
    have x1 := Int.emod_lt_of_pos ((i : Int) % (2 * w)) (b := w) (by omega)
    have y0 := Int.emod_nonneg ((j : Int) % (2 * w)) (b := w) (by omega)
    have y1 := Int.emod_lt_of_pos ((j : Int) % (2 * w)) (b := w) (by omega)
    have inj := g3 ((i : Int) / (2 * w) % h * w + (i : Int) % (2 * w) % w).toNat ((j : Int) / (2 * w) % h * w + (j : Int) % (2 * w) % w).toNat (by omega) (by omega)
    have qi := quarter_bd w h ((i : Int) % (2 * w)) ((i : Int) / (2 * w))
    have qj := quarter_bd w h ((j : Int) % (2 * w)) ((j : Int) / (2 * w))
    have er : rd l ((i : Int) / (2 * w) % h * w + (i : Int) % (2 * w) % w) = rd l ((j : Int) / (2 * w) % h * w + (j : Int) % (2 * w) % w) := by omega
    have eq : impl_DoubleMatrix.quarter w h ((i : Int) % (2 * w)) ((i : Int) / (2 * w)) = impl_DoubleMatrix.quarter w h ((j : Int) % (2 * w)) ((j : Int) / (2 * w)) := by omega
    have ei := inj er
    have e2 : (i : Int) / (2 * w) % h * w + (i : Int) % (2 * w) % w = (j : Int) / (2 * w) % h * w + (j : Int) % (2 * w) % w := by omega
    have d1 := cell_of (w := w) ((i : Int) % (2 * w) % w) ((i : Int) / (2 * w) % h) (by omega) x0 x1
    have d2 := cell_of (w := w) ((j : Int) % (2 * w) % w) ((j : Int) / (2 * w) % h) (by omega) y0 y1
    rw [e2] at d1
    have f1 : (i : Int) % (2 * w) % w = (j : Int) % (2 * w) % w := d1.1.symm.trans d2.1
    have f2 : (i : Int) / (2 * w) % h = (j : Int) / (2 * w) % h := d1.2.symm.trans d2.2
    obtain ⟨p1, p2⟩ := quarter_inj eq
    have k1 : (i : Int) % (2 * w) = (j : Int) % (2 * w) := by
      rw [mx, nx] at f1
      by_cases c : (i : Int) % (2 * w) < w
      · rw [if_pos c, if_pos (p1.1 c)] at f1
        exact f1
      · rw [if_neg c, if_neg (fun q => c (p1.2 q))] at f1
        omega
    have k2 : (i : Int) / (2 * w) = (j : Int) / (2 * w) := by
      rw [my, ny] at f2
      by_cases c : (i : Int) / (2 * w) < h
      · rw [if_pos c, if_pos (p2.1 c)] at f2
        exact f2
      · rw [if_neg c, if_neg (fun q => c (p2.2 q))] at f2
        omega
    rw [k1, k2, c4] at b4
    omega
/-! Bayer's matrices. -/
def bayM : Nat → List Int
  | 0 => [0]
  | k + 1 => (List.range (4 * (bayM k).length)).map (dblF (2 ^ k) (2 ^ k) (bayM k))
theorem bayM_len (k : Nat) : (bayM k).length = 4 ^ k := by
  induction k with
  | zero => rfl
  | succ k ih =>
    show ((List.range (4 * (bayM k).length)).map _).length = _
    rw [List.length_map, List.length_range, ih, Nat.pow_succ, Nat.mul_comm]
theorem four_le (k : Nat) (hk : k < 4) : (4 : Nat) ^ k ≤ 64 := by
  match k, hk with
  | 0, _ => decide
  | 1, _ => decide
  | 2, _ => decide
  | 3, _ => decide
theorem bayM_mat (k : Nat) (hk : k ≤ 4) : matB (2 ^ k) (2 ^ k) (bayM k) = true := by
  induction k with
  | zero => decide
  | succ k ih =>
    have h4 := four_le k (by omega)
    have := mat_dbl (ih (by omega)) (by rw [bayM_len]; omega)
    rw [Int.pow_succ, Int.mul_comm]
    exact this
theorem specBayM_ev (n : Nat) (hn : n ≤ 4) : Ev (fun k => spec_BayerMatrix.f k (n : Int)) (2 ^ n, 2 ^ n, bayM n, true) := by
  unfold spec_BayerMatrix.f
  rw [l1In_eq]
  simp only [Option.bind_some]
  refine Ev_pos (decide_eq_true (by omega)) ?_
  have key : ∀ d i : Nat, i + d = n → Ev (fun k => spec_BayerMatrix.l0 k (d : Int) (2 ^ i) (2 ^ i) (bayM i)) (2 ^ n, 2 ^ n, bayM n, true) := by
    intro d
    induction d with
    | zero =>
      intro i hi
      obtain rfl : i = n := by omega
      exact Ev.step (fun k => by rw [spec_BayerMatrix.l0]) (Ev_neg (by omega) (Ev.now _))
    | succ d ih =>
      intro i hi
      have nx := ih (i + 1) (by omega)
      refine Ev.step (fun k => by rw [spec_BayerMatrix.l0]) (Ev_pos (by omega) ?_)
      have hd := specDbl_ev (bayM_mat i (by omega))
      rw [dbl_tab (bayM_mat i (by omega))] at hd
      refine Ev.bind hd ?_
      rw [wid _ (by omega) (by omega), show ((d + 1 : Nat) : Int) - 1 = (d : Int) by omega]
      have e : (2 : Int) * 2 ^ i = 2 ^ (i + 1) := by rw [Int.pow_succ, Int.mul_comm]
      dsimp only
      rw [e]
      exact nx
  exact key n 0 (by omega)
/-! Sums round about. -/
theorem Ev_eq {α : Type} {x : Option α} {a : α} (h : x = some a) : Ev (fun _ => x) a := ⟨0, fun _ _ => h⟩
def rdyM (f : Nat) (a0 : Int) : Bool := match spec_SpiralMatrix.f f a0 with
  | some (a, b, l, c) => a == a0 && (b == a0 && (c && matB a b l))
  | none => false
theorem rdyM_1 : rdyM 5 1 = true := by decide +kernel
theorem rdyM_2 : rdyM 11 2 = true := by decide +kernel
theorem rdyM_3 : rdyM 21 3 = true := by decide +kernel
theorem rdyM_4 : rdyM 35 4 = true := by decide +kernel
theorem rdyM_5 : rdyM 53 5 = true := by decide +kernel
theorem rdyM_all (a : Int) (h0 : 1 ≤ a) (h1 : a ≤ 5) : ∃ f, rdyM f a = true := by
  obtain rfl | rfl | rfl | rfl | rfl : a = 1 ∨ a = 2 ∨ a = 3 ∨ a = 4 ∨ a = 5 := by omega
  · exact ⟨_, rdyM_1⟩
  · exact ⟨_, rdyM_2⟩
  · exact ⟨_, rdyM_3⟩
  · exact ⟨_, rdyM_4⟩
  · exact ⟨_, rdyM_5⟩
theorem spiral_ev (n : Int) (h0 : 1 ≤ n) (h1 : n ≤ 5) : ∃ l : List Int, matB n n l = true ∧ Ev (fun k => spec_SpiralMatrix.f k n) (n, n, l, true) := by
  obtain ⟨f, h⟩ := rdyM_all n h0 h1
  unfold rdyM at h
  split at h
  · rename_i a b l c e
    simp only [Bool.and_eq_true, beq_iff_eq] at h
    obtain ⟨rfl, rfl, rfl, h5⟩ := h
    exact ⟨l, h5, Ev.of (fun k => spec_SpiralMatrix.mono _ k) e⟩
  · exact absurd h (by simp)
theorem rows_mat {w h : Int} (hc : celledB w h = true) : matB w h (gridL w (fun x y => y * w + x) (h.toNat * w.toNat)) = true := by
  obtain ⟨h0, h1, h2, h3, h4⟩ := celled_spec hc
  have hn := area_eq (w := w) (h := h) (by omega) (by omega)
  rw [rows_tab _ (by omega)]
  exact mat_tab _ _ hc hn (fun i hi => by omega) (fun i j _ _ e => by omega)
theorem shuffle_ok (s : List Int) (hl : s.length ≤ maxLen) (w h : Int) : ∀ (i : Nat) (l : List Int) (a b : Int), matB w h l = true → 0 ≤ a → i < l.length → i ≤ 255 → ∃ (L : List Int) (a2 b2 : Int), matB w h L = true ∧ Ev (fun k => spec_l2Draw.l0 k (i : Int) s a b w h l) (w, h, L, a2, b2) := by
  intro i
  induction i with
  | zero =>
    intro l a b hm ha hi h2
    exact ⟨l, a, b, hm, Ev.step (fun k => by rw [spec_l2Draw.l0]) (Ev_neg (by simp) (Ev.now _))⟩
  | succ i ih =>
    intro l a b hm ha hi h2
    obtain ⟨v, a2, b2, e, v0, v1, ha2⟩ := below_ok s a b ((i : Int) + 1 + 1) ha hl (by omega) (by omega)
    obtain ⟨m, rfl⟩ : ∃ m : Nat, v = (m : Int) := ⟨v.toNat, by omega⟩
    obtain ⟨L, a3, b3, h3, h4⟩ := ih _ a2 b2 (mat_swap hm (i + 1) m hi (by omega)) ha2 (by rw [List.length_set, List.length_set]; omega) (by omega)
    refine ⟨L, a3, b3, h3, Ev.step (fun k => by rw [spec_l2Draw.l0]) (Ev_pos (by omega) ?_)⟩
    rw [wid (((i + 1 : Nat) : Int) + 1) (by omega) (by omega), wid (((i + 1 : Nat) : Int) - 1) (by omega) (by omega), Int.natCast_add i 1, show ((1 : Nat) : Int) = 1 from rfl, e]
    simp only [Option.bind_some]
    refine Ev_pos (by omega) (Ev_pos (by omega) (Ev_pos (by omega) (Ev_pos (by omega) ?_)))
    rw [show (i : Int) + 1 - 1 = (i : Int) by omega, show (i : Int) + 1 = ((i + 1 : Nat) : Int) by omega, rd_nat, rd_nat, Int.toNat_natCast, Int.toNat_natCast]
    exact h4
theorem pow_le8 (n : Nat) (hn : n ≤ 3) : (2 : Int) ^ n ≤ 8 := by
  match n, hn with
  | 0, _ => decide
  | 1, _ => decide
  | 2, _ => decide
  | 3, _ => decide
theorem l2Draw_ok (s : List Int) (a b : Int) (ha : 0 ≤ a) (hl : s.length ≤ maxLen) : ∃ (w h : Int) (l : List Int) (a2 b2 : Int), matB w h l = true ∧ w ≤ 8 ∧ h ≤ 8 ∧ Ev (fun k => spec_l2Draw.f k s a b) (w, h, l, a2, b2) := by
  obtain ⟨q, a2, b2, e1, q0, q1, ha2⟩ := below_ok s a b 4 ha hl (by omega) (by omega)
  unfold spec_l2Draw.f
  simp only [e1, Option.bind_some]
  by_cases c0 : q = 0
  · obtain ⟨t, a3, b3, e2, t0, t1, ha3⟩ := below_ok s a2 b2 4 ha2 hl (by omega) (by omega)
    obtain ⟨n, rfl⟩ : ∃ n : Nat, t = (n : Int) := ⟨t.toNat, by omega⟩
    refine ⟨2 ^ n, 2 ^ n, bayM n, a3, b3, bayM_mat n (by omega), pow_le8 n (by omega), pow_le8 n (by omega), Ev_pos c0 ?_⟩
    simp only [e2, Option.bind_some]
    exact Ev.bind (specBayM_ev n (by omega)) (Ev.now _)
  · by_cases c1 : q = 1
    · obtain ⟨t, a3, b3, e2, t0, t1, ha3⟩ := below_ok s a2 b2 5 ha2 hl (by omega) (by omega)
      obtain ⟨l, hm, hs⟩ := spiral_ev (1 + t) (by omega) (by omega)
      refine ⟨1 + t, 1 + t, l, a3, b3, hm, by omega, by omega, Ev_neg c0 (Ev_pos c1 ?_)⟩
      simp only [e2, Option.bind_some]
      rw [wid (1 + t) (by omega) (by omega)]
      exact Ev.bind hs (Ev.now _)
    · obtain ⟨t, a3, b3, e2, t0, t1, ha3⟩ := below_ok s a2 b2 5 ha2 hl (by omega) (by omega)
      obtain ⟨u, a4, b4, e3, u0, u1, ha4⟩ := below_ok s a3 b3 5 ha3 hl (by omega) (by omega)
      have ar : (1 + t) * (1 + u) ≤ 5 * 5 := Int.le_trans (Int.mul_le_mul_of_nonneg_right (show 1 + t ≤ 5 by omega) (by omega)) (Int.mul_le_mul_of_nonneg_left (by omega) (by omega))
      have ar2 : 0 < (1 + t) * (1 + u) := Int.mul_pos (by omega) (by omega)
      have hc : celledB (1 + t) (1 + u) = true := decide_eq_true ⟨by omega, by omega, by omega, by omega, by omega⟩
      have hr := specRow_ev (1 + t) (1 + u)
      rw [if_pos hc] at hr
      have hm := rows_mat hc
      have hlen := mat_len hm
      have hn := area_eq (w := 1 + t) (h := 1 + u) (by omega) (by omega)
      obtain ⟨L, a5, b5, h3, h4⟩ := shuffle_ok s hl (1 + t) (1 + u) ((gridL (1 + t) (fun x y => y * (1 + t) + x) ((1 + u).toNat * (1 + t).toNat)).length - 1) _ a4 b4 hm ha4 (by omega) (by omega)
      refine ⟨1 + t, 1 + u, L, a5, b5, h3, by omega, by omega, Ev_neg c0 (Ev_neg c1 ?_)⟩
      simp only [e2, e3, Option.bind_some]
      rw [wid (1 + t) (by omega) (by omega), wid (1 + u) (by omega) (by omega)]
      refine Ev.bind hr ?_
      dsimp only
      rw [wid _ (by omega) (by omega), show ((gridL (1 + t) (fun x y => y * (1 + t) + x) ((1 + u).toNat * (1 + t).toNat)).length : Int) - 1 = (((gridL (1 + t) (fun x y => y * (1 + t) + x) ((1 + u).toNat * (1 + t).toNat)).length - 1 : Nat) : Int) by omega]
      exact h4
theorem MakeMatrix_ok (s : List Int) (hl : s.length ≤ maxLen) : ∃ (w h : Int) (l : List Int), matB w h l = true ∧ w ≤ 8 ∧ h ≤ 8 ∧ sizedB w h = true ∧ Ev (fun k => spec_MakeMatrix.f k s) (w, h, l) := by
  obtain ⟨b, hb⟩ := new_ok s hl
  obtain ⟨w, h, l, a2, b2, h1, h2, h3, h4⟩ := l2Draw_ok s 0 b (by omega) hl
  obtain ⟨a0, a1, a2, a3, _⟩ := mat_spec h1
  refine ⟨w, h, l, h1, h2, h3, sized_small a0 (by omega) a2 (by omega), ?_⟩
  unfold spec_MakeMatrix.f
  exact Ev.bind hb (Ev.bind h4 (Ev.now _))
theorem dbl_quarter (w h X Y : Int) (hw : 1 ≤ w) (hh : 1 ≤ h) (b0 : 0 ≤ X) (b1 : X < 2 * w) (b2 : 0 ≤ Y) (b3 : Y < 2 * h) : 0 ≤ Int.tdiv X w ∧ Int.tdiv X w ≤ 1 ∧ 0 ≤ Int.tdiv Y h ∧ Int.tdiv Y h ≤ 1 ∧ rd [0, 2, 3, 1] (Int.tdiv X w + 2 * Int.tdiv Y h) = impl_DoubleMatrix.quarter w h X Y := by
  rw [impl_DoubleMatrix.tdiv2 X w hw b0 b1, impl_DoubleMatrix.tdiv2 Y h hh b2 b3]
  unfold impl_DoubleMatrix.quarter
  by_cases c1 : X < w <;> by_cases c2 : Y < h <;> simp only [c1, c2, if_true, if_false] <;> decide
/-- The law FnDoubled: in a doubled matrix the ranks of a quarter have the same remainder modulo 4, and the quotients are the ranks of before; for the inputs that the law draws. -/
theorem FnDoubled (l0 : List Int) (h0_ : l0.length ≤ maxLen) (h1_ : l0.length * 1 ≤ 140737488351232) (h2_ : (∀ x ∈ l0, (Lit.int .u8 x).wf = true)) :
    ∃ k, P.laws_FnDoubled.f k l0 = some true := by
  refine Ev.rounds ?_
  unfold laws_FnDoubled.f
  by_cases hl : (l0.length : Int) > 1048576
  · exact Ev_pos hl (Ev.now _)
  refine Ev_neg hl ?_
  obtain ⟨w, h, l, hm, hw, hh, hs, HM⟩ := MakeMatrix_ok l0 h0_
  obtain ⟨z0, z1, z2, z3, z4, z5, _⟩ := mat_spec hm
  refine Ev.bind HM ?_
  dsimp only
  rw [wid (4 * (l.length : Int)) (by omega) (by omega)]
  by_cases c : 4 * (l.length : Int) > 256
  · refine Ev.bind (Ev_eq ((implDbl_eq hm).trans (if_pos c))) ?_
    dsimp only
    rw [decide_eq_false (by omega)]
    exact Ev_neg (by simp) (Ev_neg (by simp) (Ev.now _))
  · have hD := mat_dbl hm c
    refine Ev.bind (Ev_eq ((implDbl_eq hm).trans (if_neg c))) ?_
    dsimp only
    rw [dbl_tab hm, decide_eq_true (by omega)]
    have hlen := len_tab (4 * l.length) (dblF w h l)
    refine Ev_neg (by simp) (Ev_pos rfl (Ev.bind (Ev_eq (impl_IsMatrix.eq _ _ _)) (Ev_pos hD ?_)))
    rw [wid (2 * w) (by omega) (by omega)]
    refine Ev_pos rfl ?_
    have eb : ((((List.range (4 * l.length)).map (dblF w h l)).length : Int) != 4 * (l.length : Int)) = false := by
      rw [hlen]
      simp
    rw [eb]
    refine Ev.step (fun k => by rw [laws_FnDoubled.j0]) (Ev_neg (by simp) ?_)
    have ar : 2 * w * (2 * h) = 4 * (w * h) := by rw [Int.mul_assoc, Int.mul_left_comm w 2 h]; omega
    rw [hlen]
    have key : ∀ d i : Nat, i + d = 4 * l.length → Ev (fun k => laws_FnDoubled.l0 k ((List.range (4 * l.length)).map (dblF w h l)) ((4 * l.length : Nat) : Int) (i : Int) w h l (2 * w) (2 * h) ((List.range (4 * l.length)).map (dblF w h l))) true := by
      intro d
      induction d with
      | zero =>
        intro i hi
        exact Ev.step (fun k => by rw [laws_FnDoubled.l0]) (Ev_neg (by omega) (Ev.now _))
      | succ d ih =>
        intro i hi
        have nx := ih (i + 1) (by omega)
        rw [← wsucc i (by omega)] at nx
        obtain ⟨b0, b1, b2, b3, b4⟩ := cell_bd (w := 2 * w) (h := 2 * h) i (by omega) (by omega) (by omega)
        have r := rd_mod hm ((i : Int) % (2 * w)) ((i : Int) / (2 * w))
        have q := quarter_bd w h ((i : Int) % (2 * w)) ((i : Int) / (2 * w))
        obtain ⟨t0, t1, t2, t3, t4⟩ := dbl_quarter w h ((i : Int) % (2 * w)) ((i : Int) / (2 * w)) z0 z2 b0 b1 b2 b3
        have m0 := Int.emod_nonneg ((i : Int) % (2 * w)) (b := w) (by omega)
        have m1 := Int.emod_lt_of_pos ((i : Int) % (2 * w)) (b := w) (by omega)
        have n0 := Int.emod_nonneg ((i : Int) / (2 * w)) (b := h) (by omega)
        have n1 := Int.mul_nonneg n0 (show 0 ≤ w by omega)
        have eD : ((List.range (4 * l.length)).map (dblF w h l)).getD i 0 = 4 * rd l ((i : Int) / (2 * w) % h * w + (i : Int) % (2 * w) % w) + impl_DoubleMatrix.quarter w h ((i : Int) % (2 * w)) ((i : Int) / (2 * w)) := by
          rw [getD_tab _ _ _ (by omega)]
          rfl
        refine Ev.step (fun k => laws_FnDoubled.l0.eq_2 _ _ _ _ _ _ _ _ _ _) (Ev_pos (by omega) (Ev_pos (by omega) (Ev_pos (by rw [hlen]; omega) (Ev_neg (by omega) (Ev.bind (Ev.now _) (Ev_neg (by omega) (Ev_neg (by omega) ?_)))))))
        rw [rd_nat, eD, tmod_nat, tdiv_nat i (2 * w) (by omega)]
        generalize (i : Int) % (2 * w) = X at b0 b1 b4 r q t0 t1 t4 m0 m1 ⊢
        generalize (i : Int) / (2 * w) = Y at b2 b3 b4 r q t2 t3 t4 n0 n1 ⊢
        rw [wid Y (by omega) (by omega), wid (Int.tdiv X w) (by omega) (by omega), wid (Int.tdiv Y h) (by omega) (by omega), wid (2 * Int.tdiv Y h) (by omega) (by omega), wid (Int.tdiv X w + 2 * Int.tdiv Y h) (by omega) (by omega), Int.tmod_eq_emod_of_nonneg b2, Int.tmod_eq_emod_of_nonneg b0, wid (Y % h * w) (by omega) (by omega), wid (Y % h * w + X % w) (by omega) (by omega), t4, wid (4 * rd l (Y % h * w + X % w)) (by omega) (by omega), wid (4 * rd l (Y % h * w + X % w) + impl_DoubleMatrix.quarter w h X Y) (by omega) (by omega)]
        exact Ev_pos (by omega) (Ev_pos (by simp; omega) (Ev_pos (by omega) (Ev_pos (by omega) (Ev_pos rfl nx))))
    exact key (4 * l.length) 0 (by omega)
end Go.Proofs.Ytdlehfnlibddcaa.Q
