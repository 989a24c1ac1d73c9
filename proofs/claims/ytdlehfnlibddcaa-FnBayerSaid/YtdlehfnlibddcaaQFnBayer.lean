/- The law FnBayer: the matrix of Bayer has the ranks that BayerRank tells, everywhere, and the next one is the doubled one; for the inputs that the law draws. -/
import Derived.Laws.BitsLemmas
import Derived.Test.YtdlehfnlibddcaaFimplBayerMatrix
import Derived.Test.YtdlehfnlibddcaaFimplBayerRank
import Derived.Test.YtdlehfnlibddcaaFimplDoubleMatrix
import Derived.Test.YtdlehfnlibddcaaFimplIsMatrix
import Derived.Test.YtdlehfnlibddcaaFimplRankAt
import Derived.Test.YtdlehfnlibddcaaFimplcelled
import Derived.Test.YtdlehfnlibddcaaFimplmod
import Derived.Test.YtdlehfnlibddcaaFimplrank
import Derived.Test.YtdlehfnlibddcaaFlawsFnBayer
import Derived.Test.YtdlehfnlibddcaaFlawsalike
import Derived.Test.YtdlehfnlibddcaaFlawsat
import Derived.Test.YtdlehfnlibddcaaFlawsints
import Derived.Test.YtdlehfnlibddcaaFlawspower
import Derived.Test.YtdlehfnlibddcaaFpre
import Derived.Test.YtdlehfnlibddcaaFspecl2Mod
import Derived.Test.YtdlehfnlibddcaaFspecl2Rank
import Derived.Test.YtdlehfnlibddcaaP0
namespace Go.Proofs.Ytdlehfnlibddcaa.Q
open Go.RowKit Go.Proofs.Ytdlehfnlibddcaa.P Go.Proofs.YtdlehfnlibddcaaW.PrintWords
set_option linter.unusedVariables false
set_option linter.unusedSimpArgs false
theorem wsucc (i : Nat) (h : i < 9223372036854775807) : wrap64 ((i : Int) + 1) = ((i + 1 : Nat) : Int) := by unfold wrap64; omega
theorem wid (x : Int) (h0 : -9223372036854775808 ≤ x) (h1 : x ≤ 9223372036854775807) : wrap64 x = x := by unfold wrap64; omega
theorem rd_nat (l : List Int) (i : Nat) : rd l (i : Int) = l.getD i 0 := by unfold rd; rw [Int.toNat_natCast]
theorem getD_of_lt {α : Type} (l : List α) (d : α) (i : Nat) (h : i < l.length) : l.getD i d = l[i] := by simp [List.getD_eq_getElem?_getD, List.getElem?_eq_getElem h]
theorem getD_mem (l : List Int) (i : Nat) (h : i < l.length) : l.getD i 0 ∈ l := by rw [getD_of_lt l 0 i h]; exact List.getElem_mem h
theorem ext_getD {a b : List Int} (hl : a.length = b.length) (h : ∀ i, i < a.length → a.getD i 0 = b.getD i 0) : a = b := by
  apply List.ext_getElem hl
  intro i h1 h2
  have := h i h1
  rwa [getD_of_lt a 0 i h1, getD_of_lt b 0 i h2] at this
theorem getD_tab (n : Nat) (f : Nat → Int) (j : Nat) (h : j < n) : ((List.range n).map f).getD j 0 = f j := by
  simp [List.getD_eq_getElem?_getD, List.getElem?_map, List.getElem?_range h]
theorem len_tab (n : Nat) (f : Nat → Int) : ((List.range n).map f).length = n := by simp
theorem tab_congr (n : Nat) (f g : Nat → Int) (h : ∀ i, i < n → f i = g i) : (List.range n).map f = (List.range n).map g :=
  List.map_congr_left (fun i hi => h i (List.mem_range.1 hi))
theorem Ev_pos {α : Type} {c : Prop} [Decidable c] {f g : Nat → Option α} {r : α} (hc : c) (h : Ev f r) : Ev (fun k => if c then f k else g k) r := Ev.congr (fun k => if_pos hc) h
theorem Ev_neg {α : Type} {c : Prop} [Decidable c] {f g : Nat → Option α} {r : α} (hc : ¬ c) (h : Ev g r) : Ev (fun k => if c then f k else g k) r := Ev.congr (fun k => if_neg hc) h
theorem gridL_tab (w : Int) (f : Int → Int → Int) (n : Nat) : gridL w f n = (List.range n).map fun i => cellAt w f i := rfl
theorem area_eq {w h : Int} (h0 : 0 ≤ w) (h1 : 0 ≤ h) : ((h.toNat * w.toNat : Nat) : Int) = w * h := by
  rw [Int.natCast_mul, Int.toNat_of_nonneg h0, Int.toNat_of_nonneg h1, Int.mul_comm]
theorem tdiv_nat (i : Nat) (w : Int) (h : 0 < w) : Int.tdiv (i : Int) w = (i : Int) / w := Int.tdiv_eq_ediv_of_nonneg (by omega)
theorem tmod_nat (i : Nat) (w : Int) : Int.tmod (i : Int) w = (i : Int) % w := Int.tmod_eq_emod_of_nonneg (by omega)
theorem cell_bd {w h : Int} (i : Nat) (h0 : 0 < w) (h1 : 0 < h) (hi : (i : Int) < w * h) : 0 ≤ (i : Int) % w ∧ (i : Int) % w < w ∧ 0 ≤ (i : Int) / w ∧ (i : Int) / w < h ∧ (i : Int) / w * w + (i : Int) % w = i := by
  refine ⟨Int.emod_nonneg _ (by omega), Int.emod_lt_of_pos _ h0, Int.ediv_nonneg (by omega) (by omega), ?_, ?_⟩
  · exact Int.ediv_lt_of_lt_mul h0 (by rw [Int.mul_comm]; exact hi)
  · have := Int.mul_ediv_add_emod (i : Int) w
    rw [Int.mul_comm] at this
    exact this
theorem cell_of {w : Int} (x y : Int) (h0 : 0 < w) (hx0 : 0 ≤ x) (hx : x < w) : (y * w + x) % w = x ∧ (y * w + x) / w = y := by
  constructor
  · rw [Int.add_comm, Int.add_mul_emod_self_right, Int.emod_eq_of_lt hx0 hx]
  · rw [Int.add_comm, Int.add_mul_ediv_right _ _ (by omega), Int.ediv_eq_zero_of_lt hx0 hx, Int.zero_add]
theorem at_ok (s : List Int) (n : Int) (hl : s.length ≤ 1048576) (h0 : 0 ≤ n) (h1 : n ≤ 100) (hx : ∀ x ∈ s, 0 ≤ x ∧ x ≤ 255) : ∃ v : Int, laws_at.f s n = some v ∧ 0 ≤ v ∧ v ≤ 255 := by
  unfold laws_at.f
  by_cases h : n < (s.length : Int)
  · rw [if_pos h, if_pos h0]
    obtain ⟨m, rfl⟩ : ∃ m : Nat, n = (m : Int) := ⟨n.toNat, by omega⟩
    rw [rd_nat]
    have := hx _ (getD_mem s m (by omega))
    rw [wid _ (by omega) (by omega)]
    exact ⟨_, rfl, this.1, this.2⟩
  · rw [if_neg h, wid (n * 37) (by omega) (by omega), wid ((s.length : Int) * 11) (by omega) (by omega), wid _ (by omega) (by omega)]
    refine ⟨_, rfl, Int.tmod_nonneg _ (by omega), ?_⟩
    have := Int.tmod_lt_of_pos (n * 37 + (s.length : Int) * 11) (b := 256) (by omega)
    omega
/-! Equal pictures, sums over pictures. -/
theorem laws_ints_ev (a b : List Int) (ha : a.length ≤ maxLen) : Ev (fun k => laws_ints.f k a b) (decide (a = b)) := by
  unfold maxLen at ha
  by_cases hl : a.length = b.length
  · have key : ∀ d i : Nat, i + d = a.length → (∀ j, j < i → a.getD j 0 = b.getD j 0) → Ev (fun k => laws_ints.l0 k a b (a.length : Int) (i : Int)) (decide (a = b)) := by
      intro d
      induction d with
      | zero =>
        intro i hi hj
        have : a = b := ext_getD hl (fun j h => hj j (by omega))
        rw [decide_eq_true this]
        refine Ev.step (f := fun _ => some true) (fun k => ?_) (Ev.now _)
        simp only [laws_ints.l0]
        rw [if_neg (by omega)]
      | succ d ih =>
        intro i hi hj
        by_cases e : a.getD i 0 = b.getD i 0
        · refine Ev.step (fun k => ?_) (ih (i + 1) (by omega) (fun j h => if hji : j = i then hji ▸ e else hj j (by omega)))
          simp only [laws_ints.l0]
          rw [if_pos (by omega), if_pos (by omega), if_pos (by omega), if_pos (by omega), rd_nat, rd_nat, if_pos e, wsucc i (by omega)]
        · rw [decide_eq_false (fun h => e (by rw [h]))]
          refine Ev.step (f := fun _ => some false) (fun k => ?_) (Ev.now _)
          simp only [laws_ints.l0]
          rw [if_pos (by omega), if_pos (by omega), if_pos (by omega), if_pos (by omega), rd_nat, rd_nat, if_neg e]
    unfold laws_ints.f
    exact Ev_pos (by omega) (key a.length 0 (by omega) (fun j h => absurd h (by omega)))
  · rw [decide_eq_false (fun h => hl (by rw [h]))]
    unfold laws_ints.f
    exact Ev_neg (by omega) (Ev.now _)
theorem u8_bd {l : List Int} (h : ∀ x ∈ l, (Lit.int .u8 x).wf = true) : ∀ x ∈ l, 0 ≤ x ∧ x ≤ 255 := by
  intro x hx
  have := h x hx
  simp [Lit.wf] at this
  have e1 : IntKind.u8.min = 0 := rfl
  have e2 : IntKind.u8.max = 255 := rfl
  omega
/-! Ranks. -/
theorem specMod_ev (x w : Int) (hw : 0 < w) (hw2 : w ≤ 1000000000000) : spec_l2Mod.f x w = some (x % w) := by
  have b0 := Int.emod_nonneg x (b := w) (by omega)
  have b1 := Int.emod_lt_of_pos x hw
  unfold spec_l2Mod.f
  rw [if_neg (by omega)]
  by_cases hx : 0 ≤ x
  · rw [Int.tmod_eq_emod_of_nonneg hx, if_neg (by omega)]
  · have e : Int.tmod x w = -((-x) % w) := by
      rw [← Int.tmod_eq_emod_of_nonneg (by omega : 0 ≤ -x), Int.neg_tmod, Int.neg_neg]
    have c0 := Int.emod_nonneg (-x) (b := w) (by omega)
    have c1 := Int.emod_lt_of_pos (-x) hw
    rw [e]
    have d1 := Int.mul_ediv_add_emod x w
    have d2 := Int.mul_ediv_add_emod (-x) w
    by_cases hz : (-x) % w = 0
    · rw [hz, if_neg (by omega)]
      have : x % w = 0 := Int.emod_eq_zero_of_dvd ((Int.dvd_neg.1 (Int.dvd_of_emod_eq_zero hz)))
      rw [this]
      rfl
    · rw [if_pos (by omega), wid _ (by omega) (by omega)]
      congr 1
      have e3 : w * (x / w) + w * (-x / w) = w * (x / w + -x / w) := (Int.mul_add _ _ _).symm
      have k1 : x / w + -x / w < 0 := by
        by_cases k : 0 ≤ x / w + -x / w
        · have := Int.mul_nonneg (by omega : 0 ≤ w) k
          omega
        · omega
      have k2 : -2 < x / w + -x / w := by
        by_cases k : x / w + -x / w ≤ -2
        · have := Int.mul_le_mul_of_nonneg_left k (by omega : 0 ≤ w)
          omega
        · omega
      rw [show x / w + -x / w = -1 by omega] at e3
      omega
theorem rank_eq {w h : Int} {l : List Int} (hm : matB w h l = true) (x y : Int) : spec_l2Rank.f w h l x y = some (rd l (y % h * w + x % w)) ∧ impl_rank.f w h l x y = some (rd l (y % h * w + x % w)) := by
  obtain ⟨h0, h1, h2, h3, h4, h5, _⟩ := mat_spec hm
  have bx := Int.emod_nonneg x (b := w) (by omega)
  have bx' := Int.emod_lt_of_pos x (b := w) (by omega)
  have by_ := Int.emod_nonneg y (b := h) (by omega)
  have by' := Int.emod_lt_of_pos y (b := h) (by omega)
  have hb := idx_lt (w := w) (h := h) (x := x % w) (y := y % h) bx bx' by_ by'
  have hm0 : 0 ≤ y % h * w := Int.mul_nonneg (by omega) (by omega)
  unfold spec_l2Rank.f impl_rank.f
  rw [specMod_ev y h (by omega) (by omega), specMod_ev x w (by omega) (by omega), impl_mod.eq y h (by omega) (by omega), impl_mod.eq x w (by omega) (by omega)]
  simp only [Option.bind_some]
  rw [wid (y % h * w) (by omega) (by omega), wid (y % h * w + x % w) (by omega) (by omega), if_pos hb.1, if_pos (by omega)]
  exact ⟨rfl, rfl⟩
/-! The rank of a cell by its bits. -/
theorem and1 (n : Int) : Go.bits .and .i64 n 1 = n % 2 := by
  have h127 : (BitVec.ofInt 64 1).toNat = 2 ^ 1 - 1 := by decide
  have key : (BitVec.ofInt 64 n &&& BitVec.ofInt 64 1).toNat = (n % ((2 ^ 64 : Nat) : Int)).toNat % 2 ^ 1 := by
    rw [BitVec.toNat_and, BitVec.toNat_ofInt, h127, Nat.and_two_pow_sub_one_eq_mod]
  show IntKind.i64.wrap ((BitVec.ofInt 64 n &&& BitVec.ofInt 64 1).toNat : Nat) = n % 2
  rw [key, IntKind.wrap_i64]
  omega
theorem xor01 (a b : Int) (ha : a = 0 ∨ a = 1) (hb : b = 0 ∨ b = 1) : Go.bits .xor .i64 a b = 0 ∨ Go.bits .xor .i64 a b = 1 := by
  rcases ha with rfl | rfl <;> rcases hb with rfl | rfl
  · exact Or.inl (by decide)
  · exact Or.inr (by decide)
  · exact Or.inr (by decide)
  · exact Or.inl (by decide)
def bitQ (Y : Int) (j : Nat) : Int := Go.bits .and .i64 (shr .i64 Y (j : Int)) 1
def bitP (X Y : Int) (j : Nat) : Int := Go.bits .xor .i64 (Go.bits .and .i64 (shr .i64 X (j : Int)) 1) (Go.bits .and .i64 (shr .i64 Y (j : Int)) 1)
theorem bitQ_bd (Y : Int) (j : Nat) : bitQ Y j = 0 ∨ bitQ Y j = 1 := by
  unfold bitQ
  rw [and1]
  omega
theorem bitP_bd (X Y : Int) (j : Nat) : bitP X Y j = 0 ∨ bitP X Y j = 1 := by
  unfold bitP
  exact xor01 _ _ (bitQ_bd X j) (bitQ_bd Y j)
def bayT (X Y : Int) (n : Nat) : Nat → Int
  | 0 => 0
  | i + 1 => bayT X Y n i + 4 ^ i * (2 * bitP X Y (n - 1 - i) + bitQ Y (n - 1 - i))
theorem bayT_bd (X Y : Int) (n i : Nat) (hi : i ≤ 4) : 0 ≤ bayT X Y n i ∧ bayT X Y n i ≤ 1000 := by
  have p0 := bitP_bd X Y (n - 1 - 0)
  have p1 := bitP_bd X Y (n - 1 - 1)
  have p2 := bitP_bd X Y (n - 1 - 2)
  have p3 := bitP_bd X Y (n - 1 - 3)
  have q0 := bitQ_bd Y (n - 1 - 0)
  have q1 := bitQ_bd Y (n - 1 - 1)
  have q2 := bitQ_bd Y (n - 1 - 2)
  have q3 := bitQ_bd Y (n - 1 - 3)
  match i, hi with
  | 0, _ => simp only [bayT]; omega
  | 1, _ => simp only [bayT]; omega
  | 2, _ => simp only [bayT]; omega
  | 3, _ => simp only [bayT]; omega
  | 4, _ => simp only [bayT]; omega
theorem four_shl (i : Nat) (hi : i < 4) : shl .i64 1 ((2 * i : Nat) : Int) = 4 ^ i := by
  match i, hi with
  | 0, _ => decide
  | 1, _ => decide
  | 2, _ => decide
  | 3, _ => decide
theorem implBay_loop (X Y : Int) (n : Nat) (hn : n ≤ 4) : ∀ d i : Nat, i + d = n → Ev (fun k => impl_BayerRank.l0 k (n : Int) X Y (bayT X Y n i) (n : Int) (i : Int)) (bayT X Y n n) := by
  intro d
  induction d with
  | zero =>
    intro i hi
    obtain rfl : i = n := by omega
    refine Ev.step (fun k => by rw [impl_BayerRank.l0]) ?_
    exact Ev_neg (by omega) (Ev.now _)
  | succ d ih =>
    intro i hi
    have b := bayT_bd X Y n (i + 1) (by omega)
    have p := bitP_bd X Y (n - 1 - i)
    have q := bitQ_bd Y (n - 1 - i)
    have nx := ih (i + 1) (by omega)
    have hs : wrap64 (wrap64 ((n : Int) - 1) - (i : Int)) = ((n - 1 - i : Nat) : Int) := by
      rw [wid ((n : Int) - 1) (by omega) (by omega), wid _ (by omega) (by omega)]
      omega
    have h2 : wrap64 (2 * (i : Int)) = ((2 * i : Nat) : Int) := by
      rw [wid _ (by omega) (by omega)]
      omega
    refine Ev.step (fun k => by rw [impl_BayerRank.l0]) ?_
    refine Ev_pos (by omega) ?_
    rw [hs, h2, four_shl i (by omega), wsucc i (by omega)]
    refine Ev_pos (by omega) (Ev_pos (by omega) ?_)
    have f0 : (0 : Int) ≤ 4 ^ i * (2 * bitP X Y (n - 1 - i) + bitQ Y (n - 1 - i)) ∧ (4 : Int) ^ i * (2 * bitP X Y (n - 1 - i) + bitQ Y (n - 1 - i)) ≤ 192 := by
      have h4 : i < 4 := by omega
      match i, h4 with
      | 0, _ => simp only [Int.pow_zero]; omega
      | 1, _ => omega
      | 2, _ => omega
      | 3, _ => omega
    have e : wrap64 (bayT X Y n i + wrap64 (4 ^ i * wrap64 (wrap64 (2 * bitP X Y (n - 1 - i)) + bitQ Y (n - 1 - i)))) = bayT X Y n (i + 1) := by
      have b0 := bayT_bd X Y n i (by omega)
      rw [wid (2 * bitP X Y (n - 1 - i)) (by omega) (by omega), wid (2 * bitP X Y (n - 1 - i) + bitQ Y (n - 1 - i)) (by omega) (by omega), wid (4 ^ i * (2 * bitP X Y (n - 1 - i) + bitQ Y (n - 1 - i))) (by omega) (by omega), wid _ (by omega) (by omega)]
      rfl
    rw [← e] at nx
    exact nx
theorem one_shl (n : Nat) (hn : n ≤ 4) : shl .i64 1 (n : Int) = 2 ^ n ∧ (0 : Int) < 2 ^ n ∧ (2 : Int) ^ n ≤ 16 := by
  match n, hn with
  | 0, _ => exact ⟨by decide, by decide, by decide⟩
  | 1, _ => exact ⟨by decide, by decide, by decide⟩
  | 2, _ => exact ⟨by decide, by decide, by decide⟩
  | 3, _ => exact ⟨by decide, by decide, by decide⟩
  | 4, _ => exact ⟨by decide, by decide, by decide⟩
/-! What a matrix is. -/
theorem seenB_iff (n : Int) : ∀ (l : List Int) (s : List Bool), n ≤ (s.length : Int) → (seenB l n s = true ↔ (∀ x ∈ l, 0 ≤ x ∧ x < n ∧ s.getD x.toNat false = false) ∧ l.Nodup) := by
  intro l
  induction l with
  | nil => intro s _; simp [seenB]
  | cons x xs ih =>
    intro s hs
    unfold seenB
    by_cases c0 : x < 0
    · rw [if_pos c0]
      refine ⟨fun h => by simp at h, fun h => ?_⟩
      have := (h.1 x (List.mem_cons_self ..)).1
      omega
    rw [if_neg c0]
    by_cases c1 : x ≥ n
    · rw [if_pos c1]
      refine ⟨fun h => by simp at h, fun h => ?_⟩
      have := (h.1 x (List.mem_cons_self ..)).2.1
      omega
    rw [if_neg c1]
    by_cases c2 : s.getD x.toNat false = true
    · rw [if_pos c2]
      refine ⟨fun h => by simp at h, fun h => ?_⟩
      have := (h.1 x (List.mem_cons_self ..)).2.2
      rw [c2] at this
      cases this
    rw [if_neg c2, ih _ (by rw [List.length_set]; exact hs), List.nodup_cons]
    have key : ∀ y : Int, 0 ≤ y → ((s.set x.toNat true).getD y.toNat false = false ↔ y ≠ x ∧ s.getD y.toNat false = false) := by
      intro y hy
      simp only [List.getD_eq_getElem?_getD, List.getElem?_set]
      by_cases e : y = x
      · subst e
        rw [if_pos rfl, if_pos (by omega)]
        simp
      · rw [if_neg (by omega)]
        simp [e]
    constructor
    · rintro ⟨h1, h2⟩
      refine ⟨fun y hy => ?_, fun hx => ?_, h2⟩
      · rcases List.mem_cons.1 hy with rfl | hy
        · exact ⟨by omega, by omega, by simpa using c2⟩
        · have := h1 y hy
          exact ⟨this.1, this.2.1, ((key y this.1).1 this.2.2).2⟩
      · have := h1 x hx
        exact ((key x this.1).1 this.2.2).1 rfl
    · rintro ⟨h1, h2, h3⟩
      refine ⟨fun y hy => ?_, h3⟩
      have := h1 y (List.mem_cons_of_mem _ hy)
      exact ⟨this.1, this.2.1, (key y this.1).2 ⟨fun e => h2 (e ▸ hy), this.2.2⟩⟩
theorem rep_false (n i : Nat) : (List.replicate n false).getD i false = false := by
  rw [List.getD_eq_getElem?_getD, List.getElem?_replicate]
  split <;> rfl
theorem mat_iff (w h : Int) (l : List Int) : matB w h l = true ↔ celledB w h = true ∧ (l.length : Int) = w * h ∧ (∀ x ∈ l, 0 ≤ x ∧ x < (l.length : Int)) ∧ l.Nodup := by
  unfold matB
  rw [Bool.and_eq_true, Bool.and_eq_true, decide_eq_true_eq]
  constructor
  · rintro ⟨h1, h2, h3⟩
    have := celled_spec h1
    rw [seenB_iff _ _ _ (by rw [List.length_replicate]; omega)] at h3
    exact ⟨h1, h2, fun x hx => ⟨(h3.1 x hx).1, (h3.1 x hx).2.1⟩, h3.2⟩
  · rintro ⟨h1, h2, h3, h4⟩
    have := celled_spec h1
    refine ⟨h1, h2, ?_⟩
    rw [seenB_iff _ _ _ (by rw [List.length_replicate]; omega)]
    exact ⟨fun x hx => ⟨(h3 x hx).1, (h3 x hx).2, rep_false _ _⟩, h4⟩
theorem nodup_iff (l : List Int) : l.Nodup ↔ ∀ i j : Nat, i < l.length → j < l.length → l.getD i 0 = l.getD j 0 → i = j := by
  constructor
  · intro h i j hi hj e
    rw [getD_of_lt l 0 i hi, getD_of_lt l 0 j hj] at e
    exact (List.getElem_inj h).1 e
  · intro h
    rw [List.nodup_iff_pairwise_ne, List.pairwise_iff_getElem]
    intro i j hi hj hij e
    have := h i j hi hj (by rw [getD_of_lt l 0 i hi, getD_of_lt l 0 j hj]; exact e)
    omega
theorem tab_nodup (n : Nat) (f : Nat → Int) (h : ∀ i j : Nat, i < n → j < n → f i = f j → i = j) : ((List.range n).map f).Nodup := by
  rw [nodup_iff, len_tab]
  intro i j hi hj e
  rw [getD_tab _ _ _ hi, getD_tab _ _ _ hj] at e
  exact h i j hi hj e
theorem mat_tab {w h : Int} (n : Nat) (f : Nat → Int) (hc : celledB w h = true) (hn : (n : Int) = w * h) (hb : ∀ i, i < n → 0 ≤ f i ∧ f i < (n : Int)) (hi : ∀ i j : Nat, i < n → j < n → f i = f j → i = j) : matB w h ((List.range n).map f) = true := by
  rw [mat_iff, len_tab]
  refine ⟨hc, hn, fun x hx => ?_, tab_nodup n f hi⟩
  obtain ⟨i, hi, rfl⟩ := List.mem_map.1 hx
  exact hb i (List.mem_range.1 hi)
theorem mat_get {w h : Int} {l : List Int} (hm : matB w h l = true) : celledB w h = true ∧ (l.length : Int) = w * h ∧ (∀ i, i < l.length → 0 ≤ l.getD i 0 ∧ l.getD i 0 < (l.length : Int)) ∧ ∀ i j : Nat, i < l.length → j < l.length → l.getD i 0 = l.getD j 0 → i = j := by
  rw [mat_iff] at hm
  exact ⟨hm.1, hm.2.1, fun i hi => hm.2.2.1 _ (getD_mem l i hi), (nodup_iff l).1 hm.2.2.2⟩
/-! Doubling. -/
def dblG (w h : Int) (l : List Int) (x y : Int) : Int := wrap64 (wrap64 (4 * rd l (y % h * w + x % w)) + impl_DoubleMatrix.quarter w h x y)
theorem celled_dbl {w h : Int} {l : List Int} (hm : matB w h l = true) : celledB (2 * w) (2 * h) = true ↔ ¬ 4 * (l.length : Int) > 256 := by
  obtain ⟨a0, a1, a2, a3, a4, a5, _⟩ := mat_spec hm
  have e : 2 * w * (2 * h) = 4 * (w * h) := by rw [Int.mul_assoc, Int.mul_left_comm w 2 h]; omega
  constructor
  · intro hc
    have := celled_spec hc
    omega
  · intro hc
    have b0 : w * 1 ≤ w * h := Int.mul_le_mul_of_nonneg_left a2 (by omega)
    have b1 : 1 * h ≤ w * h := Int.mul_le_mul_of_nonneg_right a0 (by omega)
    exact decide_eq_true (by omega)
theorem dbl_area {w h : Int} {l : List Int} (hm : matB w h l = true) : (2 * h).toNat * (2 * w).toNat = 4 * l.length := by
  obtain ⟨a0, a1, a2, a3, a4, a5, _⟩ := mat_spec hm
  have := area_eq (w := 2 * w) (h := 2 * h) (by omega) (by omega)
  have e : 2 * w * (2 * h) = 4 * (w * h) := by rw [Int.mul_assoc, Int.mul_left_comm w 2 h]; omega
  omega
theorem implDbl_eq {w h : Int} {l : List Int} (hm : matB w h l = true) : impl_DoubleMatrix.f w h l = if 4 * (l.length : Int) > 256 then some (0, 0, [], false) else some (2 * w, 2 * h, gridL (2 * w) (dblG w h l) (4 * l.length), true) := by
  unfold impl_DoubleMatrix.f
  by_cases c : 4 * (l.length : Int) > 256
  · rw [if_pos c, if_neg (fun q => (celled_dbl hm).1 q.2 c)]
  · rw [if_neg c, if_pos ⟨hm, (celled_dbl hm).2 c⟩, dbl_area hm]
    rfl
/-- The doubled ranks, in plain numbers. -/
def dblF (w h : Int) (l : List Int) (i : Nat) : Int := 4 * rd l ((i : Int) / (2 * w) % h * w + (i : Int) % (2 * w) % w) + impl_DoubleMatrix.quarter w h ((i : Int) % (2 * w)) ((i : Int) / (2 * w))
theorem quarter_bd (w h x y : Int) : 0 ≤ impl_DoubleMatrix.quarter w h x y ∧ impl_DoubleMatrix.quarter w h x y ≤ 3 := by
  unfold impl_DoubleMatrix.quarter
  split <;> split <;> omega
theorem quarter_inj {w h x y u v : Int} (e : impl_DoubleMatrix.quarter w h x y = impl_DoubleMatrix.quarter w h u v) : (x < w ↔ u < w) ∧ (y < h ↔ v < h) := by
  unfold impl_DoubleMatrix.quarter at e
  by_cases a : x < w <;> by_cases b : y < h <;> by_cases c : u < w <;> by_cases d : v < h <;> simp [a, b, c, d] at e ⊢
theorem rd_mod {w h : Int} {l : List Int} (hm : matB w h l = true) (x y : Int) : 0 ≤ y % h * w + x % w ∧ y % h * w + x % w < (l.length : Int) ∧ 0 ≤ rd l (y % h * w + x % w) ∧ rd l (y % h * w + x % w) < (l.length : Int) := by
  obtain ⟨a0, a1, a2, a3, a4, a5, _⟩ := mat_spec hm
  have b := idx_lt (w := w) (h := h) (x := x % w) (y := y % h) (Int.emod_nonneg _ (by omega)) (Int.emod_lt_of_pos _ (by omega)) (Int.emod_nonneg _ (by omega)) (Int.emod_lt_of_pos _ (by omega))
  have c := ((mat_iff w h l).1 hm).2.2.1 _ (rd_mem l _ b.1 (by omega))
  omega
theorem dbl_tab {w h : Int} {l : List Int} (hm : matB w h l = true) (n : Nat) : gridL (2 * w) (dblG w h l) n = (List.range n).map (dblF w h l) := by
  obtain ⟨a0, a1, a2, a3, a4, a5, _⟩ := mat_spec hm
  rw [gridL_tab]
  refine tab_congr _ _ _ (fun i _ => ?_)
  have r := rd_mod hm ((i : Int) % (2 * w)) ((i : Int) / (2 * w))
  have q := quarter_bd w h ((i : Int) % (2 * w)) ((i : Int) / (2 * w))
  show wrap64 (wrap64 (4 * rd l _) + _) = _
  rw [wid (4 * rd l _) (by omega) (by omega), wid _ (by omega) (by omega)]
  rfl
theorem half_mod (x w : Int) (h0 : 0 ≤ x) (h1 : x < 2 * w) (hw : 0 < w) : x % w = if x < w then x else x - w := by
  by_cases c : x < w
  · rw [if_pos c, Int.emod_eq_of_lt h0 c]
  · rw [if_neg c]
    have : x = (x - w) + w * 1 := by omega
    rw [this, Int.add_mul_emod_self_left, Int.emod_eq_of_lt (by omega) (by omega)]
    omega
theorem mat_dbl {w h : Int} {l : List Int} (hm : matB w h l = true) (hc : ¬ 4 * (l.length : Int) > 256) : matB (2 * w) (2 * h) ((List.range (4 * l.length)).map (dblF w h l)) = true := by
  obtain ⟨a0, a1, a2, a3, a4, a5, _⟩ := mat_spec hm
  obtain ⟨g0, g1, g2, g3⟩ := mat_get hm
  have e : 2 * w * (2 * h) = 4 * (w * h) := by rw [Int.mul_assoc, Int.mul_left_comm w 2 h]; omega
  refine mat_tab _ _ ((celled_dbl hm).2 hc) (by push_cast; omega) (fun i hi => ?_) (fun i j hi hj q => ?_)
  · have r := rd_mod hm ((i : Int) % (2 * w)) ((i : Int) / (2 * w))
    have q := quarter_bd w h ((i : Int) % (2 * w)) ((i : Int) / (2 * w))
    unfold dblF
    push_cast
    omega
  · unfold dblF at q
    obtain ⟨b0, b1, b2, b3, b4⟩ := cell_bd (w := 2 * w) (h := 2 * h) i (by omega) (by omega) (by omega)
    obtain ⟨c0, c1, c2, c3, c4⟩ := cell_bd (w := 2 * w) (h := 2 * h) j (by omega) (by omega) (by omega)
    have ri := rd_mod hm ((i : Int) % (2 * w)) ((i : Int) / (2 * w))
    have rj := rd_mod hm ((j : Int) % (2 * w)) ((j : Int) / (2 * w))
    have mx := half_mod ((i : Int) % (2 * w)) w b0 b1 (by omega)
    have my := half_mod ((i : Int) / (2 * w)) h b2 b3 (by omega)
    have nx := half_mod ((j : Int) % (2 * w)) w c0 c1 (by omega)
    have ny := half_mod ((j : Int) / (2 * w)) h c2 c3 (by omega)
    have x0 := Int.emod_nonneg ((i : Int) % (2 * w)) (b := w) (by omega)
    have x1 := Int.emod_lt_of_pos ((i : Int) % (2 * w)) (b := w) (by omega)
    have y0 := Int.emod_nonneg ((j : Int) % (2 * w)) (b := w) (by omega)
    have y1 := Int.emod_lt_of_pos ((j : Int) % (2 * w)) (b := w) (by omega)
    have inj := g3 ((i : Int) / (2 * w) % h * w + (i : Int) % (2 * w) % w).toNat ((j : Int) / (2 * w) % h * w + (j : Int) % (2 * w) % w).toNat (by omega) (by omega)
    have qi := quarter_bd w h ((i : Int) % (2 * w)) ((i : Int) / (2 * w))
    have qj := quarter_bd w h ((j : Int) % (2 * w)) ((j : Int) / (2 * w))
    have er : rd l ((i : Int) / (2 * w) % h * w + (i : Int) % (2 * w) % w) = rd l ((j : Int) / (2 * w) % h * w + (j : Int) % (2 * w) % w) := by omega
    have eq : impl_DoubleMatrix.quarter w h ((i : Int) % (2 * w)) ((i : Int) / (2 * w)) = impl_DoubleMatrix.quarter w h ((j : Int) % (2 * w)) ((j : Int) / (2 * w)) := by omega
    have ei := inj er
    have e2 : (i : Int) / (2 * w) % h * w + (i : Int) % (2 * w) % w = (j : Int) / (2 * w) % h * w + (j : Int) % (2 * w) % w := by omega
    have d1 := cell_of (w := w) ((i : Int) % (2 * w) % w) ((i : Int) / (2 * w) % h) (by omega) x0 x1
    have d2 := cell_of (w := w) ((j : Int) % (2 * w) % w) ((j : Int) / (2 * w) % h) (by omega) y0 y1
    rw [e2] at d1
    have f1 : (i : Int) % (2 * w) % w = (j : Int) % (2 * w) % w := d1.1.symm.trans d2.1
    have f2 : (i : Int) / (2 * w) % h = (j : Int) / (2 * w) % h := d1.2.symm.trans d2.2
    obtain ⟨p1, p2⟩ := quarter_inj eq
    have k1 : (i : Int) % (2 * w) = (j : Int) % (2 * w) := by
      rw [mx, nx] at f1
      by_cases c : (i : Int) % (2 * w) < w
      · rw [if_pos c, if_pos (p1.1 c)] at f1
        exact f1
      · rw [if_neg c, if_neg (fun q => c (p1.2 q))] at f1
        omega
    have k2 : (i : Int) / (2 * w) = (j : Int) / (2 * w) := by
      rw [my, ny] at f2
      by_cases c : (i : Int) / (2 * w) < h
      · rw [if_pos c, if_pos (p2.1 c)] at f2
        exact f2
      · rw [if_neg c, if_neg (fun q => c (p2.2 q))] at f2
        omega
    rw [k1, k2, c4] at b4
    omega
/-! Bayer's matrices. -/
def bayM : Nat → List Int
  | 0 => [0]
  | k + 1 => (List.range (4 * (bayM k).length)).map (dblF (2 ^ k) (2 ^ k) (bayM k))
theorem bayM_len (k : Nat) : (bayM k).length = 4 ^ k := by
  induction k with
  | zero => rfl
  | succ k ih =>
    show ((List.range (4 * (bayM k).length)).map _).length = _
    rw [List.length_map, List.length_range, ih, Nat.pow_succ, Nat.mul_comm]
theorem four_le (k : Nat) (hk : k < 4) : (4 : Nat) ^ k ≤ 64 := by
  match k, hk with
  | 0, _ => decide
  | 1, _ => decide
  | 2, _ => decide
  | 3, _ => decide
theorem bayM_mat (k : Nat) (hk : k ≤ 4) : matB (2 ^ k) (2 ^ k) (bayM k) = true := by
  induction k with
  | zero => decide
  | succ k ih =>
    have h4 := four_le k (by omega)
    have := mat_dbl (ih (by omega)) (by rw [bayM_len]; omega)
    rw [Int.pow_succ, Int.mul_comm]
    exact this
theorem bay_step (k : Nat) (hk : k < 4) : impl_DoubleMatrix.f (2 ^ k) (2 ^ k) (bayM k) = some (2 ^ (k + 1), 2 ^ (k + 1), bayM (k + 1), true) := by
  have h4 := four_le k hk
  rw [implDbl_eq (bayM_mat k (by omega)), if_neg (by rw [bayM_len]; omega), dbl_tab (bayM_mat k (by omega)), Int.pow_succ, Int.mul_comm]
  rfl
theorem implBayM_ev (n : Nat) (hn : n ≤ 4) : Ev (fun k => impl_BayerMatrix.f k (n : Int)) (2 ^ n, 2 ^ n, bayM n, true) := by
  unfold impl_BayerMatrix.f
  have key : ∀ d i : Nat, i + d = n → Ev (fun k => impl_BayerMatrix.l0 k (n : Int) (i : Int) (2 ^ i) (2 ^ i) (bayM i)) (2 ^ n, 2 ^ n, bayM n, true) := by
    intro d
    induction d with
    | zero =>
      intro i hi
      obtain rfl : i = n := by omega
      exact Ev.step (fun k => by rw [impl_BayerMatrix.l0]) (Ev_neg (by omega) (Ev.now _))
    | succ d ih =>
      intro i hi
      have nx := ih (i + 1) (by omega)
      refine Ev.step (fun k => by rw [impl_BayerMatrix.l0]) (Ev_pos (by omega) ?_)
      rw [bay_step i (by omega), wsucc i (by omega)]
      exact nx
  refine Ev_neg (by omega) ?_
  rw [decide_eq_false (by omega)]
  refine Ev.step (fun k => by rw [impl_BayerMatrix.j0]) (Ev_neg (by simp) ?_)
  exact key n 0 (by omega)
theorem implBayM_bad (a : Int) (ha : ¬ (0 ≤ a ∧ a ≤ 4)) : Ev (fun k => impl_BayerMatrix.f k a) (0, 0, [], false) := by
  have bad : Ev (fun k => impl_BayerMatrix.j0 k a true) (0, 0, [], false) := Ev.step (fun k => by rw [impl_BayerMatrix.j0]) (Ev_pos rfl (Ev.now _))
  unfold impl_BayerMatrix.f
  by_cases c : a < 0
  · exact Ev_pos c bad
  · refine Ev_neg c ?_
    rw [decide_eq_true (by omega)]
    exact bad
/-! Sums round about. -/
theorem Ev_eq {α : Type} {x : Option α} {a : α} (h : x = some a) : Ev (fun _ => x) a := ⟨0, fun _ _ => h⟩
/-! Drawn matrices. -/
theorem alikeM_self (w h : Int) (l : List Int) (hl : l.length ≤ maxLen) : Ev (fun k => laws_alike.f k w h l w h l) true := by
  unfold laws_alike.f
  have e := laws_ints_ev l l hl
  rw [decide_eq_true rfl] at e
  exact Ev_pos rfl (Ev_pos rfl (Ev.bind e (Ev.now _)))
theorem rankAt_eq {w h : Int} {l : List Int} (hm : matB w h l = true) (x y : Int) : impl_RankAt.f w h l x y = some (rd l (y % h * w + x % w)) := by
  unfold impl_RankAt.f
  rw [impl_IsMatrix.eq]
  simp only [Option.bind_some]
  rw [if_pos hm, (rank_eq hm x y).2]
  rfl
theorem implBayR_ev (n : Nat) (hn : n ≤ 4) (x y : Int) : Ev (fun k => impl_BayerRank.f k (n : Int) x y) (bayT (x % 2 ^ n) (y % 2 ^ n) n n) := by
  obtain ⟨e, e0, e1⟩ := one_shl n (by omega)
  have i1 := impl_mod.eq x (2 ^ n) e0 (by omega)
  have i2 := impl_mod.eq y (2 ^ n) e0 (by omega)
  unfold impl_BayerRank.f
  refine Ev_neg (by omega) ?_
  rw [decide_eq_false (by omega)]
  refine Ev.step (fun k => by rw [impl_BayerRank.j0]) ?_
  refine Ev_neg (by simp) (Ev_pos (by omega) ?_)
  rw [e]
  exact Ev.bind (Ev_eq i1) (Ev.bind (Ev_eq i2) (implBay_loop (x % 2 ^ n) (y % 2 ^ n) n (by omega) n 0 (by omega)))
def bayChk (n : Nat) : Bool := (List.range (2 ^ n)).all fun Y => (List.range (2 ^ n)).all fun X => (bayM n).getD (Y * 2 ^ n + X) 0 == bayT (X : Int) (Y : Int) n n
theorem bayChk_0 : bayChk 0 = true := by decide +kernel
theorem bayChk_1 : bayChk 1 = true := by decide +kernel
theorem bayChk_2 : bayChk 2 = true := by decide +kernel
theorem bayChk_3 : bayChk 3 = true := by decide +kernel
theorem bayChk_4 : bayChk 4 = true := by decide +kernel
theorem bayChk_all (n : Nat) (hn : n ≤ 4) : bayChk n = true := by
  match n, hn with
  | 0, _ => exact bayChk_0
  | 1, _ => exact bayChk_1
  | 2, _ => exact bayChk_2
  | 3, _ => exact bayChk_3
  | 4, _ => exact bayChk_4
theorem two_pow (n : Nat) (hn : n ≤ 4) : (0 : Int) < 2 ^ n ∧ (2 : Int) ^ n ≤ 16 ∧ (2 : Int) ^ n = ((2 ^ n : Nat) : Int) ∧ (2 : Int) ^ n * 2 ^ n = ((4 ^ n : Nat) : Int) ∧ (4 : Nat) ^ n ≤ 256 := by
  match n, hn with
  | 0, _ => decide
  | 1, _ => decide
  | 2, _ => decide
  | 3, _ => decide
  | 4, _ => decide
theorem bay_rank (n : Nat) (hn : n ≤ 4) (x y : Int) : rd (bayM n) (y % 2 ^ n * 2 ^ n + x % 2 ^ n) = bayT (x % 2 ^ n) (y % 2 ^ n) n n := by
  obtain ⟨e0, e1, e2, _⟩ := two_pow n hn
  have bx := Int.emod_nonneg x (b := 2 ^ n) (by omega)
  have bx' := Int.emod_lt_of_pos x e0
  have by_ := Int.emod_nonneg y (b := 2 ^ n) (by omega)
  have by' := Int.emod_lt_of_pos y e0
  generalize x % 2 ^ n = X at bx bx' ⊢
  generalize y % 2 ^ n = Y at by_ by' ⊢
  obtain ⟨p, rfl⟩ : ∃ p : Nat, X = (p : Int) := ⟨X.toNat, by omega⟩
  obtain ⟨q, rfl⟩ : ∃ q : Nat, Y = (q : Int) := ⟨Y.toNat, by omega⟩
  have h := bayChk_all n hn
  unfold bayChk at h
  have h2 := List.all_eq_true.1 (List.all_eq_true.1 h q (List.mem_range.2 (by omega))) p (List.mem_range.2 (by omega))
  rw [beq_iff_eq] at h2
  rw [← h2, e2, show ((q : Int) * ((2 ^ n : Nat) : Int) + (p : Int)) = ((q * 2 ^ n + p : Nat) : Int) by rw [Int.natCast_add, Int.natCast_mul], rd_nat]
theorem pow_small (n : Nat) (hn : n ≤ 20) : (1 : Int) ≤ 2 ^ n ∧ (2 : Int) ^ n ≤ 1048576 := by
  have a : (2 : Nat) ^ n ≤ 2 ^ 20 := Nat.pow_le_pow_right (by omega) hn
  have b : 0 < (2 : Nat) ^ n := Nat.pow_pos (by omega)
  have e : (2 : Int) ^ n = ((2 ^ n : Nat) : Int) := by rw [Int.natCast_pow]; rfl
  rw [e]
  omega
theorem power_ev (n : Nat) (hn : n ≤ 19) : Ev (fun k => laws_power.f k (n : Int)) (2 ^ n) := by
  unfold laws_power.f
  have key : ∀ d i : Nat, i + d = n → Ev (fun k => laws_power.l0 k (d : Int) (2 ^ i)) (2 ^ n) := by
    intro d
    induction d with
    | zero =>
      intro i hi
      obtain rfl : i = n := by omega
      exact Ev.step (fun k => by rw [laws_power.l0]) (Ev_neg (by simp) (Ev.now _))
    | succ d ih =>
      intro i hi
      have nx := ih (i + 1) (by omega)
      have b := pow_small (i + 1) (by omega)
      have e : (2 : Int) * 2 ^ i = 2 ^ (i + 1) := by rw [Int.pow_succ, Int.mul_comm]
      refine Ev.step (fun k => by rw [laws_power.l0]) (Ev_pos (by omega) ?_)
      rw [wid (((d + 1 : Nat) : Int) - 1) (by omega) (by omega), show ((d + 1 : Nat) : Int) - 1 = (d : Int) by omega, e, wid (2 ^ (i + 1)) (by omega) (by omega)]
      exact nx
  exact key n 0 (by omega)
/-- The law FnBayer: the matrix of Bayer has the ranks that BayerRank tells, everywhere, and the next one is the doubled one; for the inputs that the law draws. -/
theorem FnBayer (l0 : List Int) (h0_ : l0.length ≤ maxLen) (h1_ : l0.length * 1 ≤ 140737488351232) (h2_ : (∀ x ∈ l0, (Lit.int .u8 x).wf = true)) :
    ∃ k, P.laws_FnBayer.f k l0 = some true := by
  refine Ev.rounds ?_
  unfold laws_FnBayer.f
  by_cases hl : (l0.length : Int) > 1048576
  · exact Ev_pos hl (Ev.now _)
  refine Ev_neg hl ?_
  obtain ⟨a, ea, a0, a1⟩ := at_ok l0 1 (by omega) (by omega) (by omega) (u8_bd h2_)
  obtain ⟨x, ex, x0, x1⟩ := at_ok l0 2 (by omega) (by omega) (by omega) (u8_bd h2_)
  obtain ⟨y, ey, y0, y1⟩ := at_ok l0 3 (by omega) (by omega) (by omega) (u8_bd h2_)
  refine Ev.bind (Ev_eq ea) ?_
  have hA : 0 ≤ Int.tmod a 5 ∧ Int.tmod a 5 ≤ 4 := by rw [Int.tmod_eq_emod_of_nonneg a0]; omega
  generalize Int.tmod a 5 = A at hA ⊢
  obtain ⟨n, rfl⟩ : ∃ n : Nat, A = (n : Int) := ⟨A.toNat, by omega⟩
  have hn : n ≤ 4 := by omega
  obtain ⟨e0, e1, e2, e3, e4⟩ := two_pow n hn
  have hm := bayM_mat n hn
  have hlen := bayM_len n
  refine Ev.bind (implBayM_ev n hn) (Ev_pos rfl (Ev.bind (power_ev n (by omega)) (Ev_pos rfl (Ev.bind (power_ev n (by omega)) (Ev_pos rfl ?_)))))
  dsimp only
  rw [wid (2 ^ n * 2 ^ n) (by omega) (by omega)]
  refine Ev_pos (by rw [hlen, e3]) (Ev.bind (Ev_eq (impl_IsMatrix.eq _ _ _)) ?_)
  rw [hm]
  refine Ev.step (fun k => by rw [laws_FnBayer.j0]) (Ev_neg (by simp) (Ev.bind (Ev_eq ex) (Ev.bind (Ev_eq ey) (Ev.bind (Ev_eq (rankAt_eq hm _ _)) (Ev.bind (implBayR_ev n hn _ _) (Ev_pos (bay_rank n hn _ _) ?_))))))
  have key : ∀ d i : Nat, i + d = (bayM n).length → Ev (fun k => laws_FnBayer.l0 k (n : Int) (bayM n) ((bayM n).length : Int) (i : Int) (2 ^ n) (2 ^ n) (bayM n)) true := by
    intro d
    induction d with
    | zero =>
      intro i hi
      refine Ev.step (fun k => by rw [laws_FnBayer.l0]) (Ev_neg (by omega) ?_)
      rw [wid ((n : Int) + 1) (by omega) (by omega)]
      by_cases c : n < 4
      · refine Ev.bind (Ev_eq (bay_step n c)) (Ev.bind (implBayM_ev (n + 1) (by omega)) ?_)
        dsimp only
        rw [decide_eq_true (by omega)]
        exact Ev_pos rfl (Ev_pos rfl (Ev.bind (alikeM_self _ _ _ (by
          have := two_pow (n + 1) (by omega)
          rw [bayM_len]
          unfold maxLen
          omega)) (Ev.now _)))
      · have hn4 : n = 4 := by omega
        refine Ev.bind (Ev_eq ((implDbl_eq hm).trans (if_pos (by rw [hlen, hn4]; decide)))) (Ev.bind (implBayM_bad _ (by omega)) ?_)
        dsimp only
        rw [decide_eq_false (by omega)]
        exact Ev_pos rfl (Ev_pos rfl (Ev.bind (alikeM_self _ _ _ (by simp)) (Ev.now _)))
    | succ d ih =>
      intro i hi
      have nx := ih (i + 1) (by omega)
      rw [← wsucc i (by omega)] at nx
      obtain ⟨b0, b1, b2, b3, b4⟩ := cell_bd (w := 2 ^ n) (h := 2 ^ n) i (by omega) (by omega) (by omega)
      refine Ev.step (fun k => by rw [laws_FnBayer.l0]) (Ev_pos (by omega) (Ev_pos (by omega) (Ev_pos (by omega) (Ev_neg (by omega) ?_))))
      rw [tmod_nat, tdiv_nat i _ e0, wid ((i : Int) / 2 ^ n) (by omega) (by omega)]
      refine Ev.bind (implBayR_ev n hn _ _) (Ev_pos ?_ nx)
      rw [← bay_rank n hn, Int.emod_eq_of_lt b0 b1, Int.emod_eq_of_lt b2 b3, b4]
  exact key (bayM n).length 0 (by omega)
end Go.Proofs.Ytdlehfnlibddcaa.Q
