/- The law FnMean: the mean is the sum over the cells, in lowest terms; for the inputs that the law draws. -/
import Derived.Laws.BitsLemmas
import Derived.Test.YtbgbbfdmgpcgmaaFimplIsPicture
import Derived.Test.YtbgbbfdmgpcgmaaFimplMeanOf
import Derived.Test.YtbgbbfdmgpcgmaaFimplSumInk
import Derived.Test.YtbgbbfdmgpcgmaaFimplgcd
import Derived.Test.YtbgbbfdmgpcgmaaFlawsFnMean
import Derived.Test.YtbgbbfdmgpcgmaaFlawstotal
import Derived.Test.YtbgbbfdmgpcgmaaFpre
import Derived.Test.YtbgbbfdmgpcgmaaFspecMakePicture
import Derived.Test.YtbgbbfdmgpcgmaaFspecl01Below
import Derived.Test.YtbgbbfdmgpcgmaaFspecl01Byte
import Derived.Test.YtbgbbfdmgpcgmaaFspecl01Int
import Derived.Test.YtbgbbfdmgpcgmaaFspecl01New
import Derived.Test.YtbgbbfdmgpcgmaaFspecl1Draw
import Derived.Test.YtbgbbfdmgpcgmaaFspecl1Empty
import Derived.Test.YtbgbbfdmgpcgmaaP0
namespace Go.Proofs.Ytbgbbfdmgpcgmaa.Q
open Go.RowKit Go.Proofs.Ytbgbbfdmgpcgmaa.P Go.Proofs.YtbgbbfdmgpcgmaaW.PrintWords
set_option linter.unusedVariables false
set_option linter.unusedSimpArgs false
theorem wsucc (i : Nat) (h : i < 9223372036854775807) : wrap64 ((i : Int) + 1) = ((i + 1 : Nat) : Int) := by unfold wrap64; omega
theorem wid (x : Int) (h0 : -9223372036854775808 ≤ x) (h1 : x ≤ 9223372036854775807) : wrap64 x = x := by unfold wrap64; omega
theorem rd_nat (l : List Int) (i : Nat) : rd l (i : Int) = l.getD i 0 := by unfold rd; rw [Int.toNat_natCast]
theorem getD_of_lt {α : Type} (l : List α) (d : α) (i : Nat) (h : i < l.length) : l.getD i d = l[i] := by simp [List.getD_eq_getElem?_getD, List.getElem?_eq_getElem h]
theorem getD_mem (l : List Int) (i : Nat) (h : i < l.length) : l.getD i 0 ∈ l := by rw [getD_of_lt l 0 i h]; exact List.getElem_mem h
/-! Sums. -/
def sumTo (l : List Int) (i : Nat) : Int := (l.take i).foldl (· + ·) 0
def sumL (l : List Int) : Int := l.foldl (· + ·) 0
theorem sumTo_succ (l : List Int) (i : Nat) (h : i < l.length) : sumTo l (i + 1) = sumTo l i + l.getD i 0 := by
  unfold sumTo
  rw [List.take_succ_eq_append_getElem h, List.foldl_append, getD_of_lt l 0 i h]
  simp
theorem sumTo_zero (l : List Int) : sumTo l 0 = 0 := by simp [sumTo]
theorem sumTo_all (l : List Int) : sumTo l l.length = sumL l := by simp [sumTo, sumL]
theorem sumTo_bd (l : List Int) (lo hi : Int) (h0 : lo ≤ 0) (h1 : 0 ≤ hi) (h : ∀ x ∈ l, lo ≤ x ∧ x ≤ hi) (i : Nat) (hi' : i ≤ l.length) : lo * i ≤ sumTo l i ∧ sumTo l i ≤ hi * i := by
  induction i with
  | zero => simp [sumTo_zero]
  | succ i ih =>
    have ih := ih (by omega)
    have hm := h _ (getD_mem l i (by omega))
    rw [sumTo_succ l i (by omega)]
    push_cast
    rw [Int.mul_add, Int.mul_add]
    omega
theorem Ev_pos {α : Type} {c : Prop} [Decidable c] {f g : Nat → Option α} {r : α} (hc : c) (h : Ev f r) : Ev (fun k => if c then f k else g k) r := Ev.congr (fun k => if_pos hc) h
theorem Ev_neg {α : Type} {c : Prop} [Decidable c] {f g : Nat → Option α} {r : α} (hc : ¬ c) (h : Ev g r) : Ev (fun k => if c then f k else g k) r := Ev.congr (fun k => if_neg hc) h
theorem l1Empty_eq (w h : Int) (hs : sizedB w h = true) : spec_l1Empty.f w h = some (w, h, List.replicate (h.toNat * w.toNat) 0) := by
  obtain ⟨h0, h1, h2, h3, h4⟩ := sized_spec hs
  have e0 : 0 ≤ w * h := Int.mul_nonneg (by omega) (by omega)
  unfold spec_l1Empty.f
  rw [wid (w * h) (by omega) (by omega), if_pos e0, if_pos (by omega)]
  have : (w * h).toNat = h.toNat * w.toNat := by rw [Int.toNat_mul (by omega) (by omega), Nat.mul_comm]
  rw [this]
theorem area_eq {w h : Int} (h0 : 0 ≤ w) (h1 : 0 ≤ h) : ((h.toNat * w.toNat : Nat) : Int) = w * h := by
  rw [Int.natCast_mul, Int.toNat_of_nonneg h0, Int.toNat_of_nonneg h1, Int.mul_comm]
theorem tmod_nat (i : Nat) (w : Int) : Int.tmod (i : Int) w = (i : Int) % w := Int.tmod_eq_emod_of_nonneg (by omega)
theorem implSum_ev (w h : Int) (l : List Int) (hl : l.length ≤ 1048576) : Ev (fun k => impl_SumInk.f k w h l) (if picB w h l 255 = true then sumL l else 0) := by
  unfold impl_SumInk.f
  rw [impl_IsPicture.eq]
  simp only [Option.bind_some]
  by_cases hp : picB w h l 255 = true
  · obtain ⟨h0, h1, h2, h3, h4, h5, h6⟩ := pic_spec hp
    simp only [if_pos hp]
    have key : ∀ d i : Nat, i + d = l.length → Ev (fun k => impl_SumInk.l0 k (sumTo l i) l (l.length : Int) (i : Int)) (sumL l) := by
      intro d
      induction d with
      | zero =>
        intro i hi
        obtain rfl : i = l.length := by omega
        refine Ev.step (f := fun _ => some (sumL l)) (fun k => ?_) (Ev.now _)
        simp only [impl_SumInk.l0]
        rw [if_neg (by omega), sumTo_all]
      | succ d ih =>
        intro i hi
        have hb := sumTo_bd l 0 255 (by omega) (by omega) h6 (i + 1) (by omega)
        have hs := sumTo_succ l i (by omega)
        refine Ev.step (fun k => ?_) (ih (i + 1) (by omega))
        simp only [impl_SumInk.l0]
        rw [if_pos (by omega), if_pos (by omega), if_pos (by omega), rd_nat, ← hs, wid (sumTo l (i + 1)) (by omega) (by omega), wsucc i (by omega)]
    have := key l.length 0 (by omega)
    rw [sumTo_zero] at this
    exact this
  · simp only [if_neg hp]
    exact Ev.now _
theorem sumL_bd (l : List Int) (lo hi : Int) (h0 : lo ≤ 0) (h1 : 0 ≤ hi) (h : ∀ x ∈ l, lo ≤ x ∧ x ≤ hi) : lo * l.length ≤ sumL l ∧ sumL l ≤ hi * l.length := by
  rw [← sumTo_all]
  exact sumTo_bd l lo hi h0 h1 h l.length (Nat.le_refl _)
/-! The drawing of inputs. -/
theorem and255 (n : Int) : Go.bits .and .i64 n 255 = n % 256 := by
  have h127 : (BitVec.ofInt 64 255).toNat = 2 ^ 8 - 1 := by decide
  have key : (BitVec.ofInt 64 n &&& BitVec.ofInt 64 255).toNat = (n % ((2 ^ 64 : Nat) : Int)).toNat % 2 ^ 8 := by
    rw [BitVec.toNat_and, BitVec.toNat_ofInt, h127, Nat.and_two_pow_sub_one_eq_mod]
  show IntKind.i64.wrap ((BitVec.ofInt 64 n &&& BitVec.ofInt 64 255).toNat : Nat) = n % 256
  rw [key, IntKind.wrap_i64]
  omega
theorem byte_ok (s : List Int) (a b : Int) (ha : 0 ≤ a) (hl : s.length ≤ maxLen) : ∃ v a2 b2 : Int, spec_l01Byte.f s a b = some (v, a2, b2) ∧ 0 ≤ v ∧ v ≤ 255 ∧ 0 ≤ a2 := by
  unfold maxLen at hl
  unfold spec_l01Byte.f
  simp only [and255]
  by_cases h : a < (s.length : Int)
  · rw [if_pos h, if_pos ha, wid (a + 1) (by omega) (by omega)]
    exact ⟨_, _, _, rfl, by omega, by omega, by omega⟩
  · rw [if_neg h]
    exact ⟨_, _, _, rfl, by omega, by omega, by omega⟩
theorem below_ok (s : List Int) (a b n : Int) (ha : 0 ≤ a) (hl : s.length ≤ maxLen) (h1 : 1 ≤ n) (h2 : n ≤ 256) : ∃ v a2 b2 : Int, spec_l01Below.f s a b n = some (v, a2, b2) ∧ 0 ≤ v ∧ v < n ∧ 0 ≤ a2 := by
  obtain ⟨v, a2, b2, e, h3, h4, h5⟩ := byte_ok s a b ha hl
  unfold spec_l01Below.f
  rw [if_neg (by omega), if_pos h2, e, Option.bind_some, if_neg (by omega)]
  exact ⟨_, _, _, rfl, Int.tmod_nonneg _ h3, Int.tmod_lt_of_pos _ (by omega), h5⟩
theorem draw_ok (s : List Int) (a b : Int) (L : List Int) (ha : 0 ≤ a) (hl : s.length ≤ maxLen) (h1 : 1 ≤ L.length) (h2 : L.length ≤ 256) : ∃ v a2 b2 : Int, spec_l01Int.f s a b L = some (v, a2, b2) ∧ v ∈ L ∧ 0 ≤ a2 := by
  obtain ⟨v, a2, b2, e, h3, h4, h5⟩ := below_ok s a b (L.length : Int) ha hl (by omega) (by omega)
  unfold spec_l01Int.f
  rw [e, Option.bind_some, if_pos h3, if_pos h4]
  refine ⟨_, _, _, rfl, ?_, h5⟩
  obtain ⟨m, rfl⟩ : ∃ m : Nat, v = (m : Int) := ⟨v.toNat, by omega⟩
  rw [rd_nat]
  exact getD_mem L m (by omega)
theorem new_ok (s : List Int) (hl : s.length ≤ maxLen) : ∃ b : Int, Ev (fun k => spec_l01New.f k s) (s, 0, b) := by
  unfold maxLen at hl
  have key : ∀ (d i : Nat) (x : Int), i + d = s.length → ∃ b : Int, Ev (fun k => spec_l01New.l0 k s x (i : Int)) (s, 0, b) := by
    intro d
    induction d with
    | zero =>
      intro i x hi
      refine ⟨x, Ev.step (fun k => by rw [spec_l01New.l0]) ?_⟩
      exact Ev_neg (by omega) (Ev.now _)
    | succ d ih =>
      intro i x hi
      by_cases h : (i : Int) < 4000
      · obtain ⟨b, hb⟩ := ih (i + 1) (Go.bits .and .i64 (wrap64 ((wrap64 ((wrap64 (x * 1103)) + (wrap64 (rd s (i : Int))))) + 7)) 1073741823) (by omega)
        refine ⟨b, Ev.step (fun k => ?_) hb⟩
        simp only [spec_l01New.l0]
        rw [if_pos (by omega), if_pos h, if_pos (by omega), wsucc i (by omega)]
      · refine ⟨x, Ev.step (fun k => by rw [spec_l01New.l0]) ?_⟩
        exact Ev_pos (by omega) (Ev_neg h (Ev.now _))
  exact key s.length 0 _ (by omega)
theorem mem_set_bd {L : List Int} {p : Nat} {v lo hi : Int} (hL : ∀ x ∈ L, lo ≤ x ∧ x ≤ hi) (h0 : lo ≤ v) (h1 : v ≤ hi) : ∀ x ∈ L.set p v, lo ≤ x ∧ x ≤ hi := by
  intro x hx
  rcases List.mem_or_eq_of_mem_set hx with h | h
  · exact hL x h
  · subst h
    exact ⟨h0, h1⟩
theorem drawn_ok (s : List Int) (hl : s.length ≤ maxLen) (mode w h : Int) (hm : 0 ≤ mode) (hw : 1 ≤ w) (hw2 : w ≤ 64) (n : Nat) (hn : n ≤ 1048576) : ∀ (d i : Nat) (L : List Int) (a b : Int), i + d = n → L.length = n → (∀ x ∈ L, 0 ≤ x ∧ x ≤ 255) → 0 ≤ a →
    ∃ (L2 : List Int) (a2 b2 : Int), L2.length = n ∧ (∀ x ∈ L2, 0 ≤ x ∧ x ≤ 255) ∧ 0 ≤ a2 ∧ Ev (fun k => spec_l1Draw.l0 k mode (n : Int) (i : Int) s a b w h L) (w, h, L2, a2, b2) := by
  intro d
  induction d with
  | zero =>
    intro i L a b hi hL hx ha
    refine ⟨L, a, b, hL, hx, ha, Ev.step (fun k => by rw [spec_l1Draw.l0]) ?_⟩
    exact Ev_neg (by omega) (Ev.now _)
  | succ d ih =>
    intro i L a b hi hL hx ha
    have go : ∀ v a2 b2 : Int, 0 ≤ v → v ≤ 255 → 0 ≤ a2 → ∃ (L2 : List Int) (a3 b3 : Int), L2.length = n ∧ (∀ x ∈ L2, 0 ≤ x ∧ x ≤ 255) ∧ 0 ≤ a3 ∧ Ev (fun k => if 0 ≤ (i : Int) then (if (i : Int) < (L.length : Int) then (spec_l1Draw.l0 k mode (n : Int) (wrap64 ((i : Int) + 1)) s a2 b2 w h (L.set (i : Int).toNat v)) else none) else none) (w, h, L2, a3, b3) := by
      intro v a2 b2 v0 v1 ha2
      obtain ⟨L2, a3, b3, q1, q2, q3, q4⟩ := ih (i + 1) (L.set i v) a2 b2 (by omega) (by rw [List.length_set]; exact hL) (mem_set_bd hx v0 v1) ha2
      refine ⟨L2, a3, b3, q1, q2, q3, Ev_pos (by omega) (Ev_pos (by omega) ?_)⟩
      rw [wsucc i (by omega), Int.toNat_natCast]
      exact q4
    by_cases m0 : mode = 0
    · obtain ⟨v, a2, b2, e, v0, v1, ha2⟩ := below_ok s a b 256 ha hl (by omega) (by omega)
      obtain ⟨L2, a3, b3, q1, q2, q3, q4⟩ := go v a2 b2 v0 (by omega) ha2
      refine ⟨L2, a3, b3, q1, q2, q3, Ev.step (fun k => by rw [spec_l1Draw.l0]) (Ev_pos (by omega) (Ev_pos m0 ?_))⟩
      rw [e]
      exact q4
    by_cases m1 : mode = 1
    · obtain ⟨v, a2, b2, e, v0, ha2⟩ := draw_ok s a b [0, 255, 128, 127, 1, 254] ha hl (by simp) (by simp)
      have vb : 0 ≤ v ∧ v ≤ 255 := by
        simp only [List.mem_cons, List.not_mem_nil, or_false] at v0
        omega
      obtain ⟨L2, a3, b3, q1, q2, q3, q4⟩ := go v a2 b2 vb.1 vb.2 ha2
      refine ⟨L2, a3, b3, q1, q2, q3, Ev.step (fun k => by rw [spec_l1Draw.l0]) (Ev_pos (by omega) (Ev_neg m0 (Ev_pos m1 ?_)))⟩
      rw [e]
      exact q4
    by_cases m2 : mode = 2
    · obtain ⟨v, a2, b2, e, v0, v1, ha2⟩ := below_ok s a b 2 ha hl (by omega) (by omega)
      obtain ⟨L2, a3, b3, q1, q2, q3, q4⟩ := go v a2 b2 v0 (by omega) ha2
      refine ⟨L2, a3, b3, q1, q2, q3, Ev.step (fun k => by rw [spec_l1Draw.l0]) (Ev_pos (by omega) (Ev_neg m0 (Ev_neg m1 (Ev_pos m2 ?_))))⟩
      rw [e]
      exact q4
    · have hx1 : mx 1 (wrap64 (w - 1)) = if w = 1 then 1 else w - 1 := by
        rw [wid (w - 1) (by omega) (by omega)]
        unfold mx
        by_cases c : w = 1
        · subst c
          rfl
        · rw [if_neg c]
          by_cases c2 : 1 < w - 1
          · rw [if_pos c2]
          · rw [if_neg c2]
            omega
      have b0 := Int.emod_nonneg (i : Int) (b := w) (by omega)
      have b1 := Int.emod_lt_of_pos (i : Int) (b := w) (by omega)
      have hv : 0 ≤ wrap64 (Int.tdiv (wrap64 ((Int.tmod (i : Int) w) * 255)) (mx 1 (wrap64 (w - 1)))) ∧ wrap64 (Int.tdiv (wrap64 ((Int.tmod (i : Int) w) * 255)) (mx 1 (wrap64 (w - 1)))) ≤ 255 := by
        rw [hx1, tmod_nat, wid ((i : Int) % w * 255) (by omega) (by omega), Int.tdiv_eq_ediv_of_nonneg (by omega)]
        by_cases c : w = 1
        · subst c
          rw [if_pos rfl, show (i : Int) % 1 * 255 = 0 by omega, Int.zero_ediv]
          exact ⟨by unfold wrap64; omega, by unfold wrap64; omega⟩
        · rw [if_neg c]
          have d0 : 0 ≤ (i : Int) % w * 255 / (w - 1) := Int.ediv_nonneg (by omega) (by omega)
          have d1 : (i : Int) % w * 255 / (w - 1) ≤ 255 := by
            have : (i : Int) % w * 255 ≤ 255 * (w - 1) := by omega
            exact Int.ediv_le_of_le_mul (by omega) this
          rw [wid _ (by omega) (by omega)]
          exact ⟨d0, d1⟩
      obtain ⟨L2, a3, b3, q1, q2, q3, q4⟩ := go _ a b hv.1 hv.2 ha
      refine ⟨L2, a3, b3, q1, q2, q3, Ev.step (fun k => by rw [spec_l1Draw.l0]) (Ev_pos (by omega) (Ev_neg m0 (Ev_neg m1 (Ev_neg m2 (Ev_neg (by omega) (Ev_neg ?_ q4))))))⟩
      rw [hx1]
      split <;> omega
theorem rep_bd (n : Nat) (hi : Int) (h : 0 ≤ hi) : ∀ x ∈ List.replicate n (0 : Int), 0 ≤ x ∧ x ≤ hi := by
  intro x hx
  rw [(List.mem_replicate.1 hx).2]
  omega
theorem pic_mk {w h : Int} {l : List Int} {m : Int} (hs : sizedB w h = true) (hl : l.length = h.toNat * w.toNat) (hx : ∀ x ∈ l, 0 ≤ x ∧ x ≤ m) : picB w h l m = true := by
  obtain ⟨h0, h1, h2, h3, h4⟩ := sized_spec hs
  unfold picB withinB
  rw [Bool.and_eq_true, Bool.and_eq_true, List.all_eq_true]
  have := area_eq (w := w) (h := h) (by omega) (by omega)
  exact ⟨hs, decide_eq_true (by omega), fun x hxl => decide_eq_true (hx x hxl)⟩
theorem sized_small {w h : Int} (h0 : 1 ≤ w) (h1 : w ≤ 16) (h2 : 1 ≤ h) (h3 : h ≤ 16) : sizedB w h = true := by
  have e : w * h ≤ 16 * 16 := Int.le_trans (Int.mul_le_mul_of_nonneg_right h1 (by omega)) (Int.mul_le_mul_of_nonneg_left h3 (by omega))
  exact decide_eq_true ⟨h0, by omega, h2, by omega, by omega⟩
theorem l1Draw_ok (s : List Int) (a b m : Int) (ha : 0 ≤ a) (hl : s.length ≤ maxLen) (h1 : 1 ≤ m) (h2 : m ≤ 16) : ∃ (w h : Int) (l : List Int) (a2 b2 : Int), picB w h l 255 = true ∧ w ≤ m ∧ h ≤ m ∧ 0 ≤ a2 ∧ Ev (fun k => spec_l1Draw.f k s a b m) (w, h, l, a2, b2) := by
  obtain ⟨w, a2, b2, e1, w0, w1, ha2⟩ := below_ok s a b m ha hl h1 (by omega)
  obtain ⟨h, a3, b3, e2, v0, v1, ha3⟩ := below_ok s a2 b2 m ha2 hl h1 (by omega)
  obtain ⟨q, a4, b4, e3, q0, q1, ha4⟩ := below_ok s a3 b3 4 ha3 hl (by omega) (by omega)
  have hs : sizedB (1 + w) (1 + h) = true := sized_small (by omega) (by omega) (by omega) (by omega)
  obtain ⟨g0, g1, g2, g3, g4⟩ := sized_spec hs
  have hn := area_eq (w := 1 + w) (h := 1 + h) (by omega) (by omega)
  obtain ⟨L2, a5, b5, p1, p2, p3, p4⟩ := drawn_ok s hl q (1 + w) (1 + h) q0 (by omega) (by omega) ((1 + h).toNat * (1 + w).toNat) (by omega) ((1 + h).toNat * (1 + w).toNat) 0 (List.replicate ((1 + h).toNat * (1 + w).toNat) 0) a4 b4 (by omega) (by simp) (rep_bd _ _ (by omega)) ha4
  refine ⟨1 + w, 1 + h, L2, a5, b5, pic_mk hs p1 p2, by omega, by omega, p3, ?_⟩
  unfold spec_l1Draw.f
  simp only [e1, e2, Option.bind_some]
  rw [wid (1 + w) (by omega) (by omega), wid (1 + h) (by omega) (by omega), l1Empty_eq _ _ hs]
  simp only [e3, Option.bind_some, List.length_replicate]
  exact p4
theorem MakePicture_ok (s : List Int) (m : Int) (hl : s.length ≤ maxLen) (h1 : 1 ≤ m) (h2 : m ≤ 16) : ∃ (w h : Int) (l : List Int), picB w h l 255 = true ∧ w ≤ m ∧ h ≤ m ∧ Ev (fun k => spec_MakePicture.f k s m) (w, h, l) := by
  obtain ⟨b, hb⟩ := new_ok s hl
  have hm : mx 1 (mn m 16) = m := by
    unfold mx mn
    rw [show (if 16 < m then (16 : Int) else m) = m from if_neg (by omega)]
    by_cases c : 1 < m
    · rw [if_pos c]
    · rw [if_neg c]
      omega
  obtain ⟨w, h, l, a2, b2, p1, p2, p3, p4, p5⟩ := l1Draw_ok s 0 b m (by omega) hl h1 h2
  refine ⟨w, h, l, p1, p2, p3, ?_⟩
  unfold spec_MakePicture.f
  rw [hm]
  exact Ev.bind hb (Ev.bind p5 (Ev.now _))
/-! The laws' own reckoning. -/
theorem total_ev (l : List Int) (hl : l.length ≤ 1048576) (hx : ∀ x ∈ l, -1000000 ≤ x ∧ x ≤ 1000000) : Ev (fun k => laws_total.f k l) (sumL l) := by
  have key : ∀ d i : Nat, i + d = l.length → Ev (fun k => laws_total.l0 k (sumTo l i) l (l.length : Int) (i : Int)) (sumL l) := by
    intro d
    induction d with
    | zero =>
      intro i hi
      obtain rfl : i = l.length := by omega
      refine Ev.step (f := fun _ => some (sumL l)) (fun k => ?_) (Ev.now _)
      simp only [laws_total.l0]
      rw [if_neg (by omega), sumTo_all]
    | succ d ih =>
      intro i hi
      have hb := sumTo_bd l (-1000000) 1000000 (by omega) (by omega) hx (i + 1) (by omega)
      have hs := sumTo_succ l i (by omega)
      refine Ev.step (fun k => ?_) (ih (i + 1) (by omega))
      simp only [laws_total.l0]
      rw [if_pos (by omega), if_pos (by omega), if_pos (by omega), rd_nat, ← hs, wid (sumTo l (i + 1)) (by omega) (by omega), wsucc i (by omega)]
  have := key l.length 0 (by omega)
  rw [sumTo_zero] at this
  exact this
theorem pic_small {w h : Int} {l : List Int} {m : Int} (hp : picB w h l m = true) : l.length ≤ 1024 := by
  obtain ⟨h0, h1, h2, h3, h4, h5, h6⟩ := pic_spec hp
  omega
theorem pic_total {w h : Int} {l : List Int} {m : Int} (hp : picB w h l m = true) (hm : m ≤ 255) : Ev (fun k => laws_total.f k l) (sumL l) := by
  have := pic_small hp
  obtain ⟨h0, h1, h2, h3, h4, h5, h6⟩ := pic_spec hp
  exact total_ev l (by omega) (fun x hx => by have := h6 x hx; omega)
theorem pic_sum {w h : Int} {l : List Int} (hp : picB w h l 255 = true) : Ev (fun k => impl_SumInk.f k w h l) (sumL l) := by
  have := implSum_ev w h l (by have := pic_small hp; omega)
  rwa [if_pos hp] at this
theorem pic_sum_bd {w h : Int} {l : List Int} (hp : picB w h l 255 = true) : 0 ≤ sumL l ∧ sumL l ≤ 262144 := by
  have := pic_small hp
  obtain ⟨h0, h1, h2, h3, h4, h5, h6⟩ := pic_spec hp
  have := sumL_bd l 0 255 (by omega) (by omega) h6
  omega
/-- The greatest common divisor. -/
theorem gcd_ev (a b : Int) (ha : 0 ≤ a) (hb : 0 < b) : ∃ g : Int, 0 < g ∧ Ev (fun k => impl_gcd.f k a b) g ∧ g ∣ a ∧ g ∣ b ∧ ∀ d : Int, d ∣ a → d ∣ b → d ∣ g := by
  unfold impl_gcd.f
  have key : ∀ (n : Nat) (a b : Int), 0 ≤ a → 0 ≤ b → 0 < a ∨ 0 < b → b.toNat ≤ n → ∃ g : Int, 0 < g ∧ Ev (fun k => impl_gcd.l0 k a b) g ∧ g ∣ a ∧ g ∣ b ∧ ∀ d : Int, d ∣ a → d ∣ b → d ∣ g := by
    intro n
    induction n with
    | zero =>
      intro a b ha hb h0 hn
      obtain rfl : b = 0 := by omega
      refine ⟨a, by omega, Ev.step (f := fun _ => some a) (fun k => ?_) (Ev.now _), Int.dvd_refl _, Int.dvd_zero _, fun d h _ => h⟩
      simp only [impl_gcd.l0, if_true]
    | succ n ih =>
      intro a b ha hb h0 hn
      by_cases e : b = 0
      · subst e
        refine ⟨a, by omega, Ev.step (f := fun _ => some a) (fun k => ?_) (Ev.now _), Int.dvd_refl _, Int.dvd_zero _, fun d h _ => h⟩
        simp only [impl_gcd.l0, if_true]
      · have q0 : 0 ≤ Int.tmod a b := Int.tmod_nonneg _ ha
        have q1 : Int.tmod a b < b := Int.tmod_lt_of_pos _ (by omega)
        have q2 : Int.tmod a b = a - b * (a / b) := by rw [Int.tmod_eq_emod_of_nonneg ha, Int.emod_def]
        obtain ⟨g, hg, h1, h2, h3, h4⟩ := ih b (Int.tmod a b) hb q0 (by omega) (by omega)
        refine ⟨g, hg, Ev.step (fun k => ?_) h1, ?_, h2, fun d d1 d2 => h4 d d2 ?_⟩
        · simp only [impl_gcd.l0]
          rw [if_neg e]
        · have : a = Int.tmod a b + b * (a / b) := by omega
          rw [this]
          exact Int.dvd_add h3 (Int.dvd_mul_of_dvd_left h2)
        · rw [q2]
          exact Int.dvd_sub d1 (Int.dvd_mul_of_dvd_left d2)
  exact key b.toNat a b ha (by omega) (by omega) (Nat.le_refl _)
theorem mean_ev {w h : Int} {l : List Int} (hp : picB w h l 255 = true) : ∃ g s n : Int, 0 < g ∧ 0 ≤ s ∧ 0 < n ∧ sumL l = g * s ∧ (l.length : Int) = g * n ∧ (∀ d : Int, 2 ≤ d → ¬ (d ∣ s ∧ d ∣ n)) ∧ Ev (fun k => impl_MeanOf.f k w h l) (s, n) := by
  obtain ⟨h0, h1, h2, h3, h4, h5, h6⟩ := pic_spec hp
  have hb := pic_sum_bd hp
  have hpos : 0 < w * h := Int.mul_pos (by omega) (by omega)
  obtain ⟨g, hg, he, ⟨s, hs⟩, ⟨n, hn⟩, hd⟩ := gcd_ev (sumL l) (l.length : Int) (by omega) (by omega)
  have hs0 : 0 ≤ s := by
    by_cases c : 0 ≤ s
    · exact c
    · have : g * s ≤ g * (-1) := Int.mul_le_mul_of_nonneg_left (by omega) (by omega)
      omega
  have hn0 : 0 < n := by
    by_cases c : 0 < n
    · exact c
    · have : g * n ≤ g * 0 := Int.mul_le_mul_of_nonneg_left (by omega) (by omega)
      omega
  have sle : s ≤ g * s := by
    have : 1 * s ≤ g * s := Int.mul_le_mul_of_nonneg_right (by omega) hs0
    omega
  have nle : n ≤ g * n := by
    have : 1 * n ≤ g * n := Int.mul_le_mul_of_nonneg_right (by omega) (by omega)
    omega
  refine ⟨g, s, n, hg, hs0, hn0, hs, hn, fun d d2 ⟨⟨u, hu⟩, ⟨v, hv⟩⟩ => ?_, ?_⟩
  · have e1 : g * d ∣ sumL l := ⟨u, by rw [hs, hu, Int.mul_assoc]⟩
    have e2 : g * d ∣ (l.length : Int) := ⟨v, by rw [hn, hv, Int.mul_assoc]⟩
    have e3 := Int.le_of_dvd hg (hd _ e1 e2)
    have e4 : g * 2 ≤ g * d := Int.mul_le_mul_of_nonneg_left d2 (by omega)
    omega
  · unfold impl_MeanOf.f
    rw [impl_IsPicture.eq]
    simp only [Option.bind_some]
    refine Ev_pos hp (Ev.bind (pic_sum hp) (Ev.bind he (Ev_neg (by omega) ?_)))
    have t1 : Int.tdiv (sumL l) g = s := by rw [hs, Int.mul_tdiv_cancel_left _ (by omega)]
    have t2 : (l.length : Int) / g = n := by rw [hn, Int.mul_ediv_cancel_left _ (by omega)]
    rw [t1, t2, wid s (by omega) (by omega), wid n (by omega) (by omega)]
    exact Ev.now _
/-- The law FnMean: the mean is the sum over the cells, in lowest terms; for the inputs that the law draws. -/
theorem FnMean (l0 : List Int) (h0_ : l0.length ≤ maxLen) (h1_ : l0.length * 1 ≤ 140737488351232) (h2_ : (∀ x ∈ l0, (Lit.int .u8 x).wf = true)) :
    ∃ k, P.laws_FnMean.f k l0 = some true := by
  refine Ev.rounds ?_
  unfold laws_FnMean.f
  by_cases hl : (l0.length : Int) > 1048576
  · exact Ev_pos hl (Ev.now _)
  refine Ev_neg hl ?_
  obtain ⟨w, h, l, hp, hw, hh, HM⟩ := MakePicture_ok l0 9 h0_ (by omega) (by omega)
  obtain ⟨g, s, n, hg, hs, hn, e1, e2, hd, HE⟩ := mean_ev hp
  have sp := pic_small hp
  have sb := pic_sum_bd hp
  have nle : n ≤ g * n := by
    have : 1 * n ≤ g * n := Int.mul_le_mul_of_nonneg_right (by omega) (by omega)
    omega
  have gle : g ≤ g * n := by
    have : g * 1 ≤ g * n := Int.mul_le_mul_of_nonneg_left (by omega) (by omega)
    omega
  refine Ev.bind HM (Ev.bind HE ?_)
  refine Ev_neg (by show ¬ n < 1; omega) (Ev_neg (by show ¬ n = 0; omega) (Ev_pos ?_ (Ev.bind (pic_total hp (by omega)) ?_)))
  · show (l.length : Int) % n = 0
    rw [e2, Int.mul_emod_left]
  have t1 : (l.length : Int) / n = g := by rw [e2, Int.mul_ediv_cancel _ (by omega)]
  have t2 : wrap64 (s * wrap64 ((l.length : Int) / n)) = sumL l := by
    rw [t1, wid g (by omega) (by omega), Int.mul_comm, ← e1, wid _ (by omega) (by omega)]
  show Ev (fun k => laws_FnMean.j0 k s n (wrap64 (s * wrap64 ((l.length : Int) / n)) != sumL l)) true
  rw [t2, bne_self_eq_false]
  refine Ev.step (fun k => by rw [laws_FnMean.j0]) (Ev_neg (by simp) ?_)
  have key : ∀ (d : Nat) (x : Int), 2 ≤ x → x + d = n + 1 ∨ n < x → Ev (fun k => laws_FnMean.l0 k s n x) true := by
    intro d
    induction d with
    | zero =>
      intro x h2 hx
      refine Ev.step (fun k => by rw [laws_FnMean.l0]) (Ev_neg (by omega) (Ev.now _))
    | succ d ih =>
      intro x h2 hx
      by_cases c : x ≤ n
      · have nx : Ev (fun k => laws_FnMean.l0 k s n (wrap64 (x + 1))) true := by
          rw [wid (x + 1) (by omega) (by omega)]
          exact ih (x + 1) (by omega) (by omega)
        refine Ev.step (fun k => by rw [laws_FnMean.l0]) (Ev_pos c (Ev_neg (by omega) ?_))
        by_cases c1 : Int.tmod s x = 0
        · refine Ev_pos c1 (Ev_neg (fun c2 => ?_) nx)
          exact hd x h2 ⟨Int.dvd_of_tmod_eq_zero c1, Int.dvd_of_tmod_eq_zero c2⟩
        · exact Ev_neg c1 nx
      · exact Ev.step (fun k => by rw [laws_FnMean.l0]) (Ev_neg c (Ev.now _))
  exact key (n - 1).toNat 2 (by omega) (by omega)
end Go.Proofs.Ytbgbbfdmgpcgmaa.Q
