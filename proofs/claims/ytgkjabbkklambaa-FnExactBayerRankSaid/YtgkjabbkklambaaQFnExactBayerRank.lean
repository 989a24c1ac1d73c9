/- The law FnExactBayerRank: the program's BayerRank answers what the reference's answers. -/
import Derived.Laws.BitsLemmas
import Derived.Test.YtgkjabbkklambaaFimplBayerRank
import Derived.Test.YtgkjabbkklambaaFimplmod
import Derived.Test.YtgkjabbkklambaaFlawsFnExactBayerRank
import Derived.Test.YtgkjabbkklambaaFspecBayerRank
import Derived.Test.YtgkjabbkklambaaFspecl1In
import Derived.Test.YtgkjabbkklambaaFspecl2Mod
import Derived.Test.YtgkjabbkklambaaP0
namespace Go.Proofs.Ytgkjabbkklambaa.Q
open Go.RowKit Go.Proofs.Ytgkjabbkklambaa.P Go.Proofs.YtgkjabbkklambaaW.PrintWords
set_option linter.unusedVariables false
set_option linter.unusedSimpArgs false
theorem wsucc (i : Nat) (h : i < 9223372036854775807) : wrap64 ((i : Int) + 1) = ((i + 1 : Nat) : Int) := by unfold wrap64; omega
theorem wid (x : Int) (h0 : -9223372036854775808 ≤ x) (h1 : x ≤ 9223372036854775807) : wrap64 x = x := by unfold wrap64; omega
theorem Ev_pos {α : Type} {c : Prop} [Decidable c] {f g : Nat → Option α} {r : α} (hc : c) (h : Ev f r) : Ev (fun k => if c then f k else g k) r := Ev.congr (fun k => if_pos hc) h
theorem Ev_neg {α : Type} {c : Prop} [Decidable c] {f g : Nat → Option α} {r : α} (hc : ¬ c) (h : Ev g r) : Ev (fun k => if c then f k else g k) r := Ev.congr (fun k => if_neg hc) h
/-! The reference's pictures. -/
theorem l1In_eq (x a b : Int) : spec_l1In.f x a b = some (decide (a ≤ x ∧ x ≤ b)) := by
  unfold spec_l1In.f
  by_cases h : x ≥ a
  · rw [if_pos h]
    congr 1
    rw [decide_eq_decide]
    omega
  · rw [if_neg h, decide_eq_false (by omega)]
/-! Ranks. -/
theorem specMod_ev (x w : Int) (hw : 0 < w) (hw2 : w ≤ 1000000000000) : spec_l2Mod.f x w = some (x % w) := by
  have b0 := Int.emod_nonneg x (b := w) (by omega)
  have b1 := Int.emod_lt_of_pos x hw
  unfold spec_l2Mod.f
  rw [if_neg (by omega)]
  by_cases hx : 0 ≤ x
  · rw [Int.tmod_eq_emod_of_nonneg hx, if_neg (by omega)]
  · have e : Int.tmod x w = -((-x) % w) := by
      rw [← Int.tmod_eq_emod_of_nonneg (by omega : 0 ≤ -x), Int.neg_tmod, Int.neg_neg]
    have c0 := Int.emod_nonneg (-x) (b := w) (by omega)
    have c1 := Int.emod_lt_of_pos (-x) hw
    rw [e]
    have d1 := Int.mul_ediv_add_emod x w
    have d2 := Int.mul_ediv_add_emod (-x) w
    by_cases hz : (-x) % w = 0
    · rw [hz, if_neg (by omega)]
      have : x % w = 0 := Int.emod_eq_zero_of_dvd ((Int.dvd_neg.1 (Int.dvd_of_emod_eq_zero hz)))
      rw [this]
      rfl
    · rw [if_pos (by omega), wid _ (by omega) (by omega)]
      congr 1
      have e3 : w * (x / w) + w * (-x / w) = w * (x / w + -x / w) := (Int.mul_add _ _ _).symm
      have k1 : x / w + -x / w < 0 := by
        by_cases k : 0 ≤ x / w + -x / w
        · have := Int.mul_nonneg (by omega : 0 ≤ w) k
          omega
        · omega
      have k2 : -2 < x / w + -x / w := by
        by_cases k : x / w + -x / w ≤ -2
        · have := Int.mul_le_mul_of_nonneg_left k (by omega : 0 ≤ w)
          omega
        · omega
      rw [show x / w + -x / w = -1 by omega] at e3
      omega
/-! The rank of a cell by its bits. -/
theorem and1 (n : Int) : Go.bits .and .i64 n 1 = n % 2 := by
  have h127 : (BitVec.ofInt 64 1).toNat = 2 ^ 1 - 1 := by decide
  have key : (BitVec.ofInt 64 n &&& BitVec.ofInt 64 1).toNat = (n % ((2 ^ 64 : Nat) : Int)).toNat % 2 ^ 1 := by
    rw [BitVec.toNat_and, BitVec.toNat_ofInt, h127, Nat.and_two_pow_sub_one_eq_mod]
  show IntKind.i64.wrap ((BitVec.ofInt 64 n &&& BitVec.ofInt 64 1).toNat : Nat) = n % 2
  rw [key, IntKind.wrap_i64]
  omega
theorem xor01 (a b : Int) (ha : a = 0 ∨ a = 1) (hb : b = 0 ∨ b = 1) : Go.bits .xor .i64 a b = 0 ∨ Go.bits .xor .i64 a b = 1 := by
  rcases ha with rfl | rfl <;> rcases hb with rfl | rfl
  · exact Or.inl (by decide)
  · exact Or.inr (by decide)
  · exact Or.inr (by decide)
  · exact Or.inl (by decide)
def bitQ (Y : Int) (j : Nat) : Int := Go.bits .and .i64 (shr .i64 Y (j : Int)) 1
def bitP (X Y : Int) (j : Nat) : Int := Go.bits .xor .i64 (Go.bits .and .i64 (shr .i64 X (j : Int)) 1) (Go.bits .and .i64 (shr .i64 Y (j : Int)) 1)
theorem bitQ_bd (Y : Int) (j : Nat) : bitQ Y j = 0 ∨ bitQ Y j = 1 := by
  unfold bitQ
  rw [and1]
  omega
theorem bitP_bd (X Y : Int) (j : Nat) : bitP X Y j = 0 ∨ bitP X Y j = 1 := by
  unfold bitP
  exact xor01 _ _ (bitQ_bd X j) (bitQ_bd Y j)
def bayS (X Y : Int) : Nat → Int
  | 0 => 0
  | j + 1 => 4 * bayS X Y j + 2 * bitP X Y j + bitQ Y j
def bayT (X Y : Int) (n : Nat) : Nat → Int
  | 0 => 0
  | i + 1 => bayT X Y n i + 4 ^ i * (2 * bitP X Y (n - 1 - i) + bitQ Y (n - 1 - i))
theorem bayS_bd (X Y : Int) (j : Nat) (hj : j ≤ 4) : 0 ≤ bayS X Y j ∧ bayS X Y j ≤ 1000 := by
  have p0 := bitP_bd X Y 0
  have p1 := bitP_bd X Y 1
  have p2 := bitP_bd X Y 2
  have p3 := bitP_bd X Y 3
  have q0 := bitQ_bd Y 0
  have q1 := bitQ_bd Y 1
  have q2 := bitQ_bd Y 2
  have q3 := bitQ_bd Y 3
  match j, hj with
  | 0, _ => simp only [bayS]; omega
  | 1, _ => simp only [bayS]; omega
  | 2, _ => simp only [bayS]; omega
  | 3, _ => simp only [bayS]; omega
  | 4, _ => simp only [bayS]; omega
theorem bayT_bd (X Y : Int) (n i : Nat) (hi : i ≤ 4) : 0 ≤ bayT X Y n i ∧ bayT X Y n i ≤ 1000 := by
  have p0 := bitP_bd X Y (n - 1 - 0)
  have p1 := bitP_bd X Y (n - 1 - 1)
  have p2 := bitP_bd X Y (n - 1 - 2)
  have p3 := bitP_bd X Y (n - 1 - 3)
  have q0 := bitQ_bd Y (n - 1 - 0)
  have q1 := bitQ_bd Y (n - 1 - 1)
  have q2 := bitQ_bd Y (n - 1 - 2)
  have q3 := bitQ_bd Y (n - 1 - 3)
  match i, hi with
  | 0, _ => simp only [bayT]; omega
  | 1, _ => simp only [bayT]; omega
  | 2, _ => simp only [bayT]; omega
  | 3, _ => simp only [bayT]; omega
  | 4, _ => simp only [bayT]; omega
theorem bay_eq (X Y : Int) (n : Nat) (hn : n ≤ 4) : bayT X Y n n = bayS X Y n := by
  match n, hn with
  | 0, _ => rfl
  | 1, _ => simp only [bayT, bayS, Nat.reduceSub]; omega
  | 2, _ => simp only [bayT, bayS, Nat.reduceSub]; omega
  | 3, _ => simp only [bayT, bayS, Nat.reduceSub]; omega
  | 4, _ => simp only [bayT, bayS, Nat.reduceSub]; omega
theorem specBay_loop (X Y : Int) (n : Nat) (hn : n ≤ 4) : ∀ d j : Nat, j + d = n → Ev (fun k => spec_BayerRank.l0 k (n : Int) X Y (bayS X Y j) ((d : Int) - 1)) (bayS X Y n) := by
  intro d
  induction d with
  | zero =>
    intro j hj
    obtain rfl : j = n := by omega
    refine Ev.step (fun k => by rw [spec_BayerRank.l0]) ?_
    exact Ev_neg (by omega) (Ev.now _)
  | succ d ih =>
    intro j hj
    have b := bayS_bd X Y j (by omega)
    have p := bitP_bd X Y j
    have q := bitQ_bd Y j
    have nx := ih (j + 1) (by omega)
    have hs : wrap64 (wrap64 ((n : Int) - 1) - (((d + 1 : Nat) : Int) - 1)) = (j : Int) := by
      rw [wid ((n : Int) - 1) (by omega) (by omega), wid _ (by omega) (by omega)]
      omega
    have hd : wrap64 (((d + 1 : Nat) : Int) - 1 - 1) = (d : Int) - 1 := by
      rw [wid _ (by omega) (by omega)]
      omega
    refine Ev.step (fun k => by rw [spec_BayerRank.l0]) ?_
    refine Ev_pos (by omega) ?_
    rw [hs, hd]
    refine Ev_pos (by omega) ?_
    have e : wrap64 (wrap64 (wrap64 (4 * bayS X Y j) + wrap64 (2 * bitP X Y j)) + bitQ Y j) = bayS X Y (j + 1) := by
      rw [wid (4 * bayS X Y j) (by omega) (by omega), wid (2 * bitP X Y j) (by omega) (by omega), wid (4 * bayS X Y j + 2 * bitP X Y j) (by omega) (by omega), wid _ (by omega) (by omega)]
      rfl
    rw [← e] at nx
    exact nx
theorem four_shl (i : Nat) (hi : i < 4) : shl .i64 1 ((2 * i : Nat) : Int) = 4 ^ i := by
  match i, hi with
  | 0, _ => decide
  | 1, _ => decide
  | 2, _ => decide
  | 3, _ => decide
theorem implBay_loop (X Y : Int) (n : Nat) (hn : n ≤ 4) : ∀ d i : Nat, i + d = n → Ev (fun k => impl_BayerRank.l0 k (n : Int) X Y (bayT X Y n i) (n : Int) (i : Int)) (bayT X Y n n) := by
  intro d
  induction d with
  | zero =>
    intro i hi
    obtain rfl : i = n := by omega
    refine Ev.step (fun k => by rw [impl_BayerRank.l0]) ?_
    exact Ev_neg (by omega) (Ev.now _)
  | succ d ih =>
    intro i hi
    have b := bayT_bd X Y n (i + 1) (by omega)
    have p := bitP_bd X Y (n - 1 - i)
    have q := bitQ_bd Y (n - 1 - i)
    have nx := ih (i + 1) (by omega)
    have hs : wrap64 (wrap64 ((n : Int) - 1) - (i : Int)) = ((n - 1 - i : Nat) : Int) := by
      rw [wid ((n : Int) - 1) (by omega) (by omega), wid _ (by omega) (by omega)]
      omega
    have h2 : wrap64 (2 * (i : Int)) = ((2 * i : Nat) : Int) := by
      rw [wid _ (by omega) (by omega)]
      omega
    refine Ev.step (fun k => by rw [impl_BayerRank.l0]) ?_
    refine Ev_pos (by omega) ?_
    rw [hs, h2, four_shl i (by omega), wsucc i (by omega)]
    refine Ev_pos (by omega) (Ev_pos (by omega) ?_)
    have f0 : (0 : Int) ≤ 4 ^ i * (2 * bitP X Y (n - 1 - i) + bitQ Y (n - 1 - i)) ∧ (4 : Int) ^ i * (2 * bitP X Y (n - 1 - i) + bitQ Y (n - 1 - i)) ≤ 192 := by
      have h4 : i < 4 := by omega
      match i, h4 with
      | 0, _ => simp only [Int.pow_zero]; omega
      | 1, _ => omega
      | 2, _ => omega
      | 3, _ => omega
    have e : wrap64 (bayT X Y n i + wrap64 (4 ^ i * wrap64 (wrap64 (2 * bitP X Y (n - 1 - i)) + bitQ Y (n - 1 - i)))) = bayT X Y n (i + 1) := by
      have b0 := bayT_bd X Y n i (by omega)
      rw [wid (2 * bitP X Y (n - 1 - i)) (by omega) (by omega), wid (2 * bitP X Y (n - 1 - i) + bitQ Y (n - 1 - i)) (by omega) (by omega), wid (4 ^ i * (2 * bitP X Y (n - 1 - i) + bitQ Y (n - 1 - i))) (by omega) (by omega), wid _ (by omega) (by omega)]
      rfl
    rw [← e] at nx
    exact nx
theorem one_shl (n : Nat) (hn : n ≤ 4) : shl .i64 1 (n : Int) = 2 ^ n ∧ (0 : Int) < 2 ^ n ∧ (2 : Int) ^ n ≤ 16 := by
  match n, hn with
  | 0, _ => exact ⟨by decide, by decide, by decide⟩
  | 1, _ => exact ⟨by decide, by decide, by decide⟩
  | 2, _ => exact ⟨by decide, by decide, by decide⟩
  | 3, _ => exact ⟨by decide, by decide, by decide⟩
  | 4, _ => exact ⟨by decide, by decide, by decide⟩
theorem BayerRank_same (a x y : Int) : ∃ r : Int, Ev (fun k => spec_BayerRank.f k a x y) r ∧ Ev (fun k => impl_BayerRank.f k a x y) r := by
  unfold spec_BayerRank.f impl_BayerRank.f
  rw [l1In_eq]
  simp only [Option.bind_some]
  have bad : Ev (fun k => impl_BayerRank.j0 k a x y true) (-1) := by
    refine Ev.step (f := fun _ => some (-1)) (fun k => ?_) (Ev.now _)
    simp only [impl_BayerRank.j0, if_true]
  by_cases ha : 0 ≤ a ∧ a ≤ 4
  · obtain ⟨n, rfl⟩ : ∃ n : Nat, a = (n : Int) := ⟨a.toNat, by omega⟩
    obtain ⟨e, e0, e1⟩ := one_shl n (by omega)
    have s1 := specMod_ev x (2 ^ n) e0 (by omega)
    have s2 := specMod_ev y (2 ^ n) e0 (by omega)
    have i1 := impl_mod.eq x (2 ^ n) e0 (by omega)
    have i2 := impl_mod.eq y (2 ^ n) e0 (by omega)
    refine ⟨bayS (x % 2 ^ n) (y % 2 ^ n) n, Ev_pos (decide_eq_true ha) (Ev_pos ha.1 ?_), Ev_neg (by omega) ?_⟩
    · rw [e, s1, s2]
      simp only [Option.bind_some]
      have := specBay_loop (x % 2 ^ n) (y % 2 ^ n) n (by omega) n 0 (by omega)
      rw [wid ((n : Int) - 1) (by omega) (by omega)]
      exact this
    · rw [decide_eq_false (by omega)]
      refine Ev.step (fun k => by rw [impl_BayerRank.j0]) ?_
      refine Ev_neg (by simp) (Ev_pos ha.1 ?_)
      rw [e, i1, i2]
      simp only [Option.bind_some]
      have := implBay_loop (x % 2 ^ n) (y % 2 ^ n) n (by omega) n 0 (by omega)
      rw [bay_eq _ _ n (by omega)] at this
      exact this
  · refine ⟨-1, Ev_neg (by rw [decide_eq_false ha]; simp) (Ev.now _), ?_⟩
    by_cases c : a < 0
    · exact Ev_pos c bad
    · refine Ev_neg c ?_
      rw [decide_eq_true (by omega)]
      exact bad
/-- The law FnExactBayerRank: the program's BayerRank answers what the reference's answers. -/
theorem FnExactBayerRank (a0 : Int) (a1 : Int) (a2 : Int) (h0_ : (Lit.int .i64 a0).wf = true) (h1_ : (Lit.int .i64 a1).wf = true) (h2_ : (Lit.int .i64 a2).wf = true) :
    ∃ k, P.laws_FnExactBayerRank.f k a0 a1 a2 = some true := by
  refine Ev.rounds ?_
  unfold laws_FnExactBayerRank.f
  obtain ⟨r, HS, HI⟩ := BayerRank_same a0 a1 a2 
  repeat (first
    | exact Ev.now _
    | (refine Ev.bind HS ?_; try dsimp only)
    | (refine Ev.bind HI ?_; try dsimp only)
    | (refine Ev_pos (by first | rfl | omega) ?_)
    | (refine Ev_neg (by first | omega | simp) ?_))
end Go.Proofs.Ytgkjabbkklambaa.Q
