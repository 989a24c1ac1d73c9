/- The law FnNearest: no plate errs less than the one that takes the nearest of black and white in each cell; for the inputs that the law draws. -/
import Derived.Laws.BitsLemmas
import Derived.Test.YtgkjabbkklambaaFimplErrorOf
import Derived.Test.YtgkjabbkklambaaFimplIsPlate
import Derived.Test.YtgkjabbkklambaaFimplalike
import Derived.Test.YtgkjabbkklambaaFlawsFnNearest
import Derived.Test.YtgkjabbkklambaaFlawsfresh
import Derived.Test.YtgkjabbkklambaaFpre
import Derived.Test.YtgkjabbkklambaaFspecMakeLike
import Derived.Test.YtgkjabbkklambaaFspecMakePicture
import Derived.Test.YtgkjabbkklambaaFspecl01Below
import Derived.Test.YtgkjabbkklambaaFspecl01Byte
import Derived.Test.YtgkjabbkklambaaFspecl01Int
import Derived.Test.YtgkjabbkklambaaFspecl01New
import Derived.Test.YtgkjabbkklambaaFspecl1Draw
import Derived.Test.YtgkjabbkklambaaFspecl1Empty
import Derived.Test.YtgkjabbkklambaaP0
namespace Go.Proofs.Ytgkjabbkklambaa.Q
open Go.RowKit Go.Proofs.Ytgkjabbkklambaa.P Go.Proofs.YtgkjabbkklambaaW.PrintWords
set_option linter.unusedVariables false
set_option linter.unusedSimpArgs false
theorem wsucc (i : Nat) (h : i < 9223372036854775807) : wrap64 ((i : Int) + 1) = ((i + 1 : Nat) : Int) := by unfold wrap64; omega
theorem wid (x : Int) (h0 : -9223372036854775808 ≤ x) (h1 : x ≤ 9223372036854775807) : wrap64 x = x := by unfold wrap64; omega
theorem rd_nat (l : List Int) (i : Nat) : rd l (i : Int) = l.getD i 0 := by unfold rd; rw [Int.toNat_natCast]
theorem getD_of_lt {α : Type} (l : List α) (d : α) (i : Nat) (h : i < l.length) : l.getD i d = l[i] := by simp [List.getD_eq_getElem?_getD, List.getElem?_eq_getElem h]
theorem getD_mem (l : List Int) (i : Nat) (h : i < l.length) : l.getD i 0 ∈ l := by rw [getD_of_lt l 0 i h]; exact List.getElem_mem h
theorem foldl_add (l : List Int) (a : Int) : l.foldl (· + ·) a = a + l.foldl (· + ·) 0 := by
  induction l generalizing a with
  | nil => simp
  | cons x r ih => simp only [List.foldl_cons]; rw [ih (a + x), ih (0 + x)]; omega
def sumL (l : List Int) : Int := l.foldl (· + ·) 0
theorem sumL_append (a b : List Int) : sumL (a ++ b) = sumL a + sumL b := by unfold sumL; rw [List.foldl_append, foldl_add]
theorem sumL_one (x : Int) : sumL [x] = x := by simp [sumL]
theorem Ev_pos {α : Type} {c : Prop} [Decidable c] {f g : Nat → Option α} {r : α} (hc : c) (h : Ev f r) : Ev (fun k => if c then f k else g k) r := Ev.congr (fun k => if_pos hc) h
theorem Ev_neg {α : Type} {c : Prop} [Decidable c] {f g : Nat → Option α} {r : α} (hc : ¬ c) (h : Ev g r) : Ev (fun k => if c then f k else g k) r := Ev.congr (fun k => if_neg hc) h
theorem within_le (l : List Int) (a b : Int) (h : a ≤ b) (hw : withinB l a = true) : withinB l b = true := by
  unfold withinB at hw ⊢
  rw [List.all_eq_true] at hw ⊢
  intro x hx
  have := of_decide_eq_true (hw x hx)
  exact decide_eq_true (by omega)
theorem plateB_eq (w h : Int) (l : List Int) : plateB w h l = picB w h l 1 := by
  unfold plateB picB
  cases sizedB w h <;> simp only [Bool.false_and, Bool.true_and]
  cases decide ((l.length : Int) = w * h) <;> simp only [Bool.false_and, Bool.true_and]
  cases hb : withinB l 1 with
  | false => rw [Bool.and_false]
  | true => rw [within_le l 1 255 (by omega) hb, Bool.and_true]
theorem l1Empty_eq (w h : Int) (hs : sizedB w h = true) : spec_l1Empty.f w h = some (w, h, List.replicate (h.toNat * w.toNat) 0) := by
  obtain ⟨h0, h1, h2, h3, h4⟩ := sized_spec hs
  have e0 : 0 ≤ w * h := Int.mul_nonneg (by omega) (by omega)
  unfold spec_l1Empty.f
  rw [wid (w * h) (by omega) (by omega), if_pos e0, if_pos (by omega)]
  have : (w * h).toNat = h.toNat * w.toNat := by rw [Int.toNat_mul (by omega) (by omega), Nat.mul_comm]
  rw [this]
theorem area_eq {w h : Int} (h0 : 0 ≤ w) (h1 : 0 ≤ h) : ((h.toNat * w.toNat : Nat) : Int) = w * h := by
  rw [Int.natCast_mul, Int.toNat_of_nonneg h0, Int.toNat_of_nonneg h1, Int.mul_comm]
theorem tmod_nat (i : Nat) (w : Int) : Int.tmod (i : Int) w = (i : Int) % w := Int.tmod_eq_emod_of_nonneg (by omega)
/-! Pictures made from a picture. -/
theorem pic_len {w h : Int} {l : List Int} {m : Int} (hp : picB w h l m = true) : h.toNat * w.toNat = l.length := by
  obtain ⟨h0, h1, h2, h3, h4, h5, h6⟩ := pic_spec hp
  have := area_eq (w := w) (h := h) (by omega) (by omega)
  omega
/-! The drawing of inputs. -/
theorem and255 (n : Int) : Go.bits .and .i64 n 255 = n % 256 := by
  have h127 : (BitVec.ofInt 64 255).toNat = 2 ^ 8 - 1 := by decide
  have key : (BitVec.ofInt 64 n &&& BitVec.ofInt 64 255).toNat = (n % ((2 ^ 64 : Nat) : Int)).toNat % 2 ^ 8 := by
    rw [BitVec.toNat_and, BitVec.toNat_ofInt, h127, Nat.and_two_pow_sub_one_eq_mod]
  show IntKind.i64.wrap ((BitVec.ofInt 64 n &&& BitVec.ofInt 64 255).toNat : Nat) = n % 256
  rw [key, IntKind.wrap_i64]
  omega
theorem byte_ok (s : List Int) (a b : Int) (ha : 0 ≤ a) (hl : s.length ≤ maxLen) : ∃ v a2 b2 : Int, spec_l01Byte.f s a b = some (v, a2, b2) ∧ 0 ≤ v ∧ v ≤ 255 ∧ 0 ≤ a2 := by
  unfold maxLen at hl
  unfold spec_l01Byte.f
  simp only [and255]
  by_cases h : a < (s.length : Int)
  · rw [if_pos h, if_pos ha, wid (a + 1) (by omega) (by omega)]
    exact ⟨_, _, _, rfl, by omega, by omega, by omega⟩
  · rw [if_neg h]
    exact ⟨_, _, _, rfl, by omega, by omega, by omega⟩
theorem below_ok (s : List Int) (a b n : Int) (ha : 0 ≤ a) (hl : s.length ≤ maxLen) (h1 : 1 ≤ n) (h2 : n ≤ 256) : ∃ v a2 b2 : Int, spec_l01Below.f s a b n = some (v, a2, b2) ∧ 0 ≤ v ∧ v < n ∧ 0 ≤ a2 := by
  obtain ⟨v, a2, b2, e, h3, h4, h5⟩ := byte_ok s a b ha hl
  unfold spec_l01Below.f
  rw [if_neg (by omega), if_pos h2, e, Option.bind_some, if_neg (by omega)]
  exact ⟨_, _, _, rfl, Int.tmod_nonneg _ h3, Int.tmod_lt_of_pos _ (by omega), h5⟩
theorem draw_ok (s : List Int) (a b : Int) (L : List Int) (ha : 0 ≤ a) (hl : s.length ≤ maxLen) (h1 : 1 ≤ L.length) (h2 : L.length ≤ 256) : ∃ v a2 b2 : Int, spec_l01Int.f s a b L = some (v, a2, b2) ∧ v ∈ L ∧ 0 ≤ a2 := by
  obtain ⟨v, a2, b2, e, h3, h4, h5⟩ := below_ok s a b (L.length : Int) ha hl (by omega) (by omega)
  unfold spec_l01Int.f
  rw [e, Option.bind_some, if_pos h3, if_pos h4]
  refine ⟨_, _, _, rfl, ?_, h5⟩
  obtain ⟨m, rfl⟩ : ∃ m : Nat, v = (m : Int) := ⟨v.toNat, by omega⟩
  rw [rd_nat]
  exact getD_mem L m (by omega)
theorem new_ok (s : List Int) (hl : s.length ≤ maxLen) : ∃ b : Int, Ev (fun k => spec_l01New.f k s) (s, 0, b) := by
  unfold maxLen at hl
  have key : ∀ (d i : Nat) (x : Int), i + d = s.length → ∃ b : Int, Ev (fun k => spec_l01New.l0 k s x (i : Int)) (s, 0, b) := by
    intro d
    induction d with
    | zero =>
      intro i x hi
      refine ⟨x, Ev.step (fun k => by rw [spec_l01New.l0]) ?_⟩
      exact Ev_neg (by omega) (Ev.now _)
    | succ d ih =>
      intro i x hi
      by_cases h : (i : Int) < 4000
      · obtain ⟨b, hb⟩ := ih (i + 1) (Go.bits .and .i64 (wrap64 ((wrap64 ((wrap64 (x * 1103)) + (wrap64 (rd s (i : Int))))) + 7)) 1073741823) (by omega)
        refine ⟨b, Ev.step (fun k => ?_) hb⟩
        simp only [spec_l01New.l0]
        rw [if_pos (by omega), if_pos h, if_pos (by omega), wsucc i (by omega)]
      · refine ⟨x, Ev.step (fun k => by rw [spec_l01New.l0]) ?_⟩
        exact Ev_pos (by omega) (Ev_neg h (Ev.now _))
  exact key s.length 0 _ (by omega)
theorem mem_set_bd {L : List Int} {p : Nat} {v lo hi : Int} (hL : ∀ x ∈ L, lo ≤ x ∧ x ≤ hi) (h0 : lo ≤ v) (h1 : v ≤ hi) : ∀ x ∈ L.set p v, lo ≤ x ∧ x ≤ hi := by
  intro x hx
  rcases List.mem_or_eq_of_mem_set hx with h | h
  · exact hL x h
  · subst h
    exact ⟨h0, h1⟩
theorem drawn_ok (s : List Int) (hl : s.length ≤ maxLen) (mode w h : Int) (hm : 0 ≤ mode) (hw : 1 ≤ w) (hw2 : w ≤ 64) (n : Nat) (hn : n ≤ 1048576) : ∀ (d i : Nat) (L : List Int) (a b : Int), i + d = n → L.length = n → (∀ x ∈ L, 0 ≤ x ∧ x ≤ 255) → 0 ≤ a →
    ∃ (L2 : List Int) (a2 b2 : Int), L2.length = n ∧ (∀ x ∈ L2, 0 ≤ x ∧ x ≤ 255) ∧ 0 ≤ a2 ∧ Ev (fun k => spec_l1Draw.l0 k mode (n : Int) (i : Int) s a b w h L) (w, h, L2, a2, b2) := by
  intro d
  induction d with
  | zero =>
    intro i L a b hi hL hx ha
    refine ⟨L, a, b, hL, hx, ha, Ev.step (fun k => by rw [spec_l1Draw.l0]) ?_⟩
    exact Ev_neg (by omega) (Ev.now _)
  | succ d ih =>
    intro i L a b hi hL hx ha
    have go : ∀ v a2 b2 : Int, 0 ≤ v → v ≤ 255 → 0 ≤ a2 → ∃ (L2 : List Int) (a3 b3 : Int), L2.length = n ∧ (∀ x ∈ L2, 0 ≤ x ∧ x ≤ 255) ∧ 0 ≤ a3 ∧ Ev (fun k => if 0 ≤ (i : Int) then (if (i : Int) < (L.length : Int) then (spec_l1Draw.l0 k mode (n : Int) (wrap64 ((i : Int) + 1)) s a2 b2 w h (L.set (i : Int).toNat v)) else none) else none) (w, h, L2, a3, b3) := by
      intro v a2 b2 v0 v1 ha2
      obtain ⟨L2, a3, b3, q1, q2, q3, q4⟩ := ih (i + 1) (L.set i v) a2 b2 (by omega) (by rw [List.length_set]; exact hL) (mem_set_bd hx v0 v1) ha2
      refine ⟨L2, a3, b3, q1, q2, q3, Ev_pos (by omega) (Ev_pos (by omega) ?_)⟩
      rw [wsucc i (by omega), Int.toNat_natCast]
      exact q4
    by_cases m0 : mode = 0
    · obtain ⟨v, a2, b2, e, v0, v1, ha2⟩ := below_ok s a b 256 ha hl (by omega) (by omega)
      obtain ⟨L2, a3, b3, q1, q2, q3, q4⟩ := go v a2 b2 v0 (by omega) ha2
      refine ⟨L2, a3, b3, q1, q2, q3, Ev.step (fun k => by rw [spec_l1Draw.l0]) (Ev_pos (by omega) (Ev_pos m0 ?_))⟩
      rw [e]
      exact q4
    by_cases m1 : mode = 1
    · obtain ⟨v, a2, b2, e, v0, ha2⟩ := draw_ok s a b [0, 255, 128, 127, 1, 254] ha hl (by simp) (by simp)
      have vb : 0 ≤ v ∧ v ≤ 255 := by
        simp only [List.mem_cons, List.not_mem_nil, or_false] at v0
        omega
      obtain ⟨L2, a3, b3, q1, q2, q3, q4⟩ := go v a2 b2 vb.1 vb.2 ha2
      refine ⟨L2, a3, b3, q1, q2, q3, Ev.step (fun k => by rw [spec_l1Draw.l0]) (Ev_pos (by omega) (Ev_neg m0 (Ev_pos m1 ?_)))⟩
      rw [e]
      exact q4
    by_cases m2 : mode = 2
    · obtain ⟨v, a2, b2, e, v0, v1, ha2⟩ := below_ok s a b 2 ha hl (by omega) (by omega)
      obtain ⟨L2, a3, b3, q1, q2, q3, q4⟩ := go v a2 b2 v0 (by omega) ha2
      refine ⟨L2, a3, b3, q1, q2, q3, Ev.step (fun k => by rw [spec_l1Draw.l0]) (Ev_pos (by omega) (Ev_neg m0 (Ev_neg m1 (Ev_pos m2 ?_))))⟩
      rw [e]
      exact q4
    · have hx1 : mx 1 (wrap64 (w - 1)) = if w = 1 then 1 else w - 1 := by
        rw [wid (w - 1) (by omega) (by omega)]
        unfold mx
        by_cases c : w = 1
        · subst c
          rfl
        · rw [if_neg c]
          by_cases c2 : 1 < w - 1
          · rw [if_pos c2]
          · rw [if_neg c2]
            omega
      have b0 := Int.emod_nonneg (i : Int) (b := w) (by omega)
      have b1 := Int.emod_lt_of_pos (i : Int) (b := w) (by omega)
      have hv : 0 ≤ wrap64 (Int.tdiv (wrap64 ((Int.tmod (i : Int) w) * 255)) (mx 1 (wrap64 (w - 1)))) ∧ wrap64 (Int.tdiv (wrap64 ((Int.tmod (i : Int) w) * 255)) (mx 1 (wrap64 (w - 1)))) ≤ 255 := by
        rw [hx1, tmod_nat, wid ((i : Int) % w * 255) (by omega) (by omega), Int.tdiv_eq_ediv_of_nonneg (by omega)]
        by_cases c : w = 1
        · subst c
          rw [if_pos rfl, show (i : Int) % 1 * 255 = 0 by omega, Int.zero_ediv]
          exact ⟨by unfold wrap64; omega, by unfold wrap64; omega⟩
        · rw [if_neg c]
          have d0 : 0 ≤ (i : Int) % w * 255 / (w - 1) := Int.ediv_nonneg (by omega) (by omega)
          have d1 : (i : Int) % w * 255 / (w - 1) ≤ 255 := by
            have : (i : Int) % w * 255 ≤ 255 * (w - 1) := by omega
            exact Int.ediv_le_of_le_mul (by omega) this
          rw [wid _ (by omega) (by omega)]
          exact ⟨d0, d1⟩
      obtain ⟨L2, a3, b3, q1, q2, q3, q4⟩ := go _ a b hv.1 hv.2 ha
      refine ⟨L2, a3, b3, q1, q2, q3, Ev.step (fun k => by rw [spec_l1Draw.l0]) (Ev_pos (by omega) (Ev_neg m0 (Ev_neg m1 (Ev_neg m2 (Ev_neg (by omega) (Ev_neg ?_ q4))))))⟩
      rw [hx1]
      split <;> omega
theorem rep_bd (n : Nat) (hi : Int) (h : 0 ≤ hi) : ∀ x ∈ List.replicate n (0 : Int), 0 ≤ x ∧ x ≤ hi := by
  intro x hx
  rw [(List.mem_replicate.1 hx).2]
  omega
theorem pic_mk {w h : Int} {l : List Int} {m : Int} (hs : sizedB w h = true) (hl : l.length = h.toNat * w.toNat) (hx : ∀ x ∈ l, 0 ≤ x ∧ x ≤ m) : picB w h l m = true := by
  obtain ⟨h0, h1, h2, h3, h4⟩ := sized_spec hs
  unfold picB withinB
  rw [Bool.and_eq_true, Bool.and_eq_true, List.all_eq_true]
  have := area_eq (w := w) (h := h) (by omega) (by omega)
  exact ⟨hs, decide_eq_true (by omega), fun x hxl => decide_eq_true (hx x hxl)⟩
theorem sized_small {w h : Int} (h0 : 1 ≤ w) (h1 : w ≤ 16) (h2 : 1 ≤ h) (h3 : h ≤ 16) : sizedB w h = true := by
  have e : w * h ≤ 16 * 16 := Int.le_trans (Int.mul_le_mul_of_nonneg_right h1 (by omega)) (Int.mul_le_mul_of_nonneg_left h3 (by omega))
  exact decide_eq_true ⟨h0, by omega, h2, by omega, by omega⟩
theorem l1Draw_ok (s : List Int) (a b m : Int) (ha : 0 ≤ a) (hl : s.length ≤ maxLen) (h1 : 1 ≤ m) (h2 : m ≤ 16) : ∃ (w h : Int) (l : List Int) (a2 b2 : Int), picB w h l 255 = true ∧ w ≤ m ∧ h ≤ m ∧ 0 ≤ a2 ∧ Ev (fun k => spec_l1Draw.f k s a b m) (w, h, l, a2, b2) := by
  obtain ⟨w, a2, b2, e1, w0, w1, ha2⟩ := below_ok s a b m ha hl h1 (by omega)
  obtain ⟨h, a3, b3, e2, v0, v1, ha3⟩ := below_ok s a2 b2 m ha2 hl h1 (by omega)
  obtain ⟨q, a4, b4, e3, q0, q1, ha4⟩ := below_ok s a3 b3 4 ha3 hl (by omega) (by omega)
  have hs : sizedB (1 + w) (1 + h) = true := sized_small (by omega) (by omega) (by omega) (by omega)
  obtain ⟨g0, g1, g2, g3, g4⟩ := sized_spec hs
  have hn := area_eq (w := 1 + w) (h := 1 + h) (by omega) (by omega)
  obtain ⟨L2, a5, b5, p1, p2, p3, p4⟩ := drawn_ok s hl q (1 + w) (1 + h) q0 (by omega) (by omega) ((1 + h).toNat * (1 + w).toNat) (by omega) ((1 + h).toNat * (1 + w).toNat) 0 (List.replicate ((1 + h).toNat * (1 + w).toNat) 0) a4 b4 (by omega) (by simp) (rep_bd _ _ (by omega)) ha4
  refine ⟨1 + w, 1 + h, L2, a5, b5, pic_mk hs p1 p2, by omega, by omega, p3, ?_⟩
  unfold spec_l1Draw.f
  simp only [e1, e2, Option.bind_some]
  rw [wid (1 + w) (by omega) (by omega), wid (1 + h) (by omega) (by omega), l1Empty_eq _ _ hs]
  simp only [e3, Option.bind_some, List.length_replicate]
  exact p4
theorem MakePicture_ok (s : List Int) (m : Int) (hl : s.length ≤ maxLen) (h1 : 1 ≤ m) (h2 : m ≤ 16) : ∃ (w h : Int) (l : List Int), picB w h l 255 = true ∧ w ≤ m ∧ h ≤ m ∧ Ev (fun k => spec_MakePicture.f k s m) (w, h, l) := by
  obtain ⟨b, hb⟩ := new_ok s hl
  have hm : mx 1 (mn m 16) = m := by
    unfold mx mn
    rw [show (if 16 < m then (16 : Int) else m) = m from if_neg (by omega)]
    by_cases c : 1 < m
    · rw [if_pos c]
    · rw [if_neg c]
      omega
  obtain ⟨w, h, l, a2, b2, p1, p2, p3, p4, p5⟩ := l1Draw_ok s 0 b m (by omega) hl h1 h2
  refine ⟨w, h, l, p1, p2, p3, ?_⟩
  unfold spec_MakePicture.f
  rw [hm]
  exact Ev.bind hb (Ev.bind p5 (Ev.now _))
theorem MakeLike_ok (s : List Int) (w h : Int) (l : List Int) (hl : s.length ≤ maxLen) (hs : sizedB w h = true) : ∃ L : List Int, plateB w h L = true ∧ Ev (fun k => spec_MakeLike.f k s w h l) (w, h, L) := by
  obtain ⟨b, hb⟩ := new_ok s hl
  obtain ⟨g0, g1, g2, g3, g4⟩ := sized_spec hs
  have hn := area_eq (w := w) (h := h) (by omega) (by omega)
  have key : ∀ n : Nat, n ≤ 1048576 → ∀ (d i : Nat) (L : List Int) (a b : Int), i + d = n → L.length = n → (∀ x ∈ L, 0 ≤ x ∧ x ≤ 1) → 0 ≤ a →
      ∃ L2 : List Int, L2.length = n ∧ (∀ x ∈ L2, 0 ≤ x ∧ x ≤ 1) ∧ Ev (fun k => spec_MakeLike.l0 k (n : Int) (i : Int) s a b w h L) (w, h, L2) := by
    intro n hn d
    induction d with
    | zero =>
      intro i L a b hi hL hx ha
      refine ⟨L, hL, hx, Ev.step (fun k => by rw [spec_MakeLike.l0]) ?_⟩
      exact Ev_neg (by omega) (Ev.now _)
    | succ d ih =>
      intro i L a b hi hL hx ha
      obtain ⟨v, a3, b3, e, v0, v1, ha3⟩ := below_ok s a b 2 ha hl (by omega) (by omega)
      obtain ⟨L2, q1, q2, q3⟩ := ih (i + 1) (L.set i v) a3 b3 (by omega) (by rw [List.length_set]; exact hL) (mem_set_bd hx v0 (by omega)) ha3
      refine ⟨L2, q1, q2, Ev.step (fun k => by rw [spec_MakeLike.l0]) (Ev_pos (by omega) ?_)⟩
      rw [e]
      simp only [Option.bind_some]
      refine Ev_pos (by omega) (Ev_pos (by omega) ?_)
      rw [wsucc i (by omega), Int.toNat_natCast]
      exact q3
  obtain ⟨L2, p1, p2, p4⟩ := key (h.toNat * w.toNat) (by omega) (h.toNat * w.toNat) 0 (List.replicate (h.toNat * w.toNat) 0) 0 b (by omega) (by simp) (rep_bd _ _ (by omega)) (by omega)
  refine ⟨L2, by rw [plateB_eq]; exact pic_mk hs p1 p2, ?_⟩
  unfold spec_MakeLike.f
  refine Ev.bind hb ?_
  rw [l1Empty_eq _ _ hs]
  simp only [Option.bind_some, List.length_replicate]
  exact p4
theorem fresh_ok (s : List Int) (x : Int) (hl : s.length ≤ 1048576) : ∃ L : List Int, L.length ≤ maxLen ∧ Ev (fun k => laws_fresh.f k s x) L := by
  have key : ∀ (d i : Nat) (L : List Int), i + d = s.length → L.length = i + 1 → ∃ L2 : List Int, L2.length ≤ maxLen ∧ Ev (fun k => laws_fresh.l0 k s x L (i : Int)) L2 := by
    intro d
    induction d with
    | zero =>
      intro i L hi hL
      refine ⟨L, by unfold maxLen; omega, Ev.step (fun k => by rw [laws_fresh.l0]) ?_⟩
      exact Ev_neg (by omega) (Ev.now _)
    | succ d ih =>
      intro i L hi hL
      by_cases h : (i : Int) < 600
      · obtain ⟨L2, q1, q2⟩ := ih (i + 1) (L ++ [(wrap64 ((wrap64 ((wrap64 (rd s (i : Int))) * 3)) + (wrap64 (x * (wrap64 ((Int.tmod (i : Int) 7) + 1)))))) % 256]) (by omega) (by rw [List.length_append, hL]; rfl)
        refine ⟨L2, q1, Ev.step (fun k => ?_) q2⟩
        simp only [laws_fresh.l0]
        rw [if_pos (by omega), if_pos h, if_pos (by omega), if_pos (by omega), wsucc i (by omega)]
      · refine ⟨L, by unfold maxLen; omega, Ev.step (fun k => by rw [laws_fresh.l0]) ?_⟩
        exact Ev_pos (by omega) (Ev_neg h (Ev.now _))
  exact key s.length 0 _ (by omega) rfl
theorem pic_small {w h : Int} {l : List Int} {m : Int} (hp : picB w h l m = true) : l.length ≤ 1024 := by
  obtain ⟨h0, h1, h2, h3, h4, h5, h6⟩ := pic_spec hp
  omega
theorem plate_pic {w h : Int} {l : List Int} (hp : plateB w h l = true) : picB w h l 255 = true := by
  unfold plateB at hp
  rw [Bool.and_eq_true] at hp
  exact hp.1
/-! Sums over grids. -/
def sumN (n : Nat) (g : Nat → Int) : Int := sumL ((List.range n).map g)
theorem sumN_zero (g : Nat → Int) : sumN 0 g = 0 := rfl
theorem sumN_succ (n : Nat) (g : Nat → Int) : sumN (n + 1) g = sumN n g + g n := by
  unfold sumN
  rw [List.range_succ, List.map_append, sumL_append, List.map_cons, List.map_nil, sumL_one]
/-! Squared errors. -/
def sqE (a b : Int) : Int := (255 * b - a) * (255 * b - a)
theorem sq_bd (t : Int) (h0 : -255 ≤ t) (h1 : t ≤ 255) : 0 ≤ t * t ∧ t * t ≤ 65025 := by
  by_cases c : 0 ≤ t
  · have a := Int.mul_nonneg c c
    have b := Int.mul_le_mul_of_nonneg_right h1 c
    omega
  · have a := Int.mul_nonneg (by omega : 0 ≤ -t) (by omega : 0 ≤ -t)
    have b := Int.mul_le_mul_of_nonneg_right (by omega : -t ≤ 255) (by omega : 0 ≤ -t)
    rw [Int.neg_mul_neg] at a b
    omega
theorem sq_mono {s t : Int} (h0 : 0 ≤ s) (h1 : s ≤ t) : s * s ≤ t * t := Int.le_trans (Int.mul_le_mul_of_nonneg_right h1 h0) (Int.mul_le_mul_of_nonneg_left h1 (by omega))
theorem sumN_le (n : Nat) (f g : Nat → Int) (h : ∀ i, i < n → f i ≤ g i) : sumN n f ≤ sumN n g := by
  induction n with
  | zero => rw [sumN_zero, sumN_zero]; omega
  | succ n ih =>
    rw [sumN_succ, sumN_succ]
    have := ih (fun i hi => h i (by omega))
    have := h n (by omega)
    omega
theorem sumN_bd (n : Nat) (f : Nat → Int) (b : Int) (hb : 0 ≤ b) (h : ∀ i, i < n → 0 ≤ f i ∧ f i ≤ b) : 0 ≤ sumN n f ∧ sumN n f ≤ b * n := by
  induction n with
  | zero => rw [sumN_zero]; simp
  | succ n ih =>
    rw [sumN_succ]
    have h1 := ih (fun i hi => h i (by omega))
    have h2 := h n (by omega)
    push_cast
    rw [Int.mul_add, Int.mul_one]
    omega
def errTo (p q : List Int) (i : Nat) : Int := sumN i (fun j => sqE (p.getD j 0) (q.getD j 0))
theorem plate_one {w h : Int} {q : List Int} (hq : plateB w h q = true) (i : Nat) (hi : i < q.length) : q.getD i 0 = 0 ∨ q.getD i 0 = 1 := by
  rw [plateB_eq] at hq
  obtain ⟨_, _, _, _, _, _, h6⟩ := pic_spec hq
  have := h6 _ (getD_mem q i hi)
  omega
theorem sqE_bd {a b : Int} (h0 : 0 ≤ a) (h1 : a ≤ 255) (hb : b = 0 ∨ b = 1) : 0 ≤ sqE a b ∧ sqE a b ≤ 65025 := by
  unfold sqE
  exact sq_bd _ (by omega) (by omega)
theorem error_ev {w h : Int} {p q : List Int} (hp : picB w h p 255 = true) (hq : plateB w h q = true) : Ev (fun k => impl_ErrorOf.f k w h p w h q) (errTo p q p.length) := by
  have hq2 := plate_pic hq
  have sp := pic_small hp
  have e1 := pic_len hp
  have e2 := pic_len hq2
  obtain ⟨_, _, _, _, _, _, g6⟩ := pic_spec hp
  unfold impl_ErrorOf.f
  rw [impl_alike.eq, impl_IsPlate.eq]
  simp only [Option.bind_some]
  have hal : alikeB w h p w h q = true := by
    unfold alikeB
    rw [hp, hq2, decide_eq_true ⟨rfl, rfl⟩]
    rfl
  refine Ev_pos hal ?_
  rw [hq]
  refine Ev.step (fun k => by rw [impl_ErrorOf.j0]) (Ev_neg (by simp) ?_)
  have key : ∀ d i : Nat, i + d = p.length → Ev (fun k => impl_ErrorOf.l0 k (errTo p q i) p (p.length : Int) (i : Int) w h q) (errTo p q p.length) := by
    intro d
    induction d with
    | zero =>
      intro i hi
      obtain rfl : i = p.length := by omega
      exact Ev.step (fun k => by rw [impl_ErrorOf.l0]) (Ev_neg (by omega) (Ev.now _))
    | succ d ih =>
      intro i hi
      have a := g6 _ (getD_mem p i (by omega))
      have b := plate_one hq i (by omega)
      have t := sq_bd (255 * q.getD i 0 - p.getD i 0) (by omega) (by omega)
      have hb : ∀ n, n ≤ p.length → 0 ≤ errTo p q n ∧ errTo p q n ≤ 65025 * n := fun n hn => sumN_bd n _ 65025 (by omega) (fun j hj => sqE_bd (g6 _ (getD_mem p j (by omega))).1 (g6 _ (getD_mem p j (by omega))).2 (plate_one hq j (by omega)))
      have b1 := hb i (by omega)
      have hs : errTo p q (i + 1) = errTo p q i + sqE (p.getD i 0) (q.getD i 0) := sumN_succ _ _
      refine Ev.step (fun k => ?_) (ih (i + 1) (by omega))
      simp only [impl_ErrorOf.l0]
      rw [if_pos (by omega), if_pos (by omega), if_pos (by omega), if_pos (by omega), rd_nat, rd_nat, wid (255 * q.getD i 0) (by omega) (by omega), wid (255 * q.getD i 0 - p.getD i 0) (by omega) (by omega), wid ((255 * q.getD i 0 - p.getD i 0) * (255 * q.getD i 0 - p.getD i 0)) (by omega) (by omega), wid (errTo p q i + (255 * q.getD i 0 - p.getD i 0) * (255 * q.getD i 0 - p.getD i 0)) (by omega) (by omega), wsucc i (by omega), hs]
      rfl
  exact key p.length 0 (by omega)
def nearL (p : List Int) : List Int := p.map (fun v => if v ≥ 128 then 1 else 0)
theorem near_at (p : List Int) (i : Nat) (hi : i < p.length) : (nearL p).getD i 0 = if p.getD i 0 ≥ 128 then 1 else 0 := by
  unfold nearL
  rw [getD_of_lt _ 0 i (by rw [List.length_map]; exact hi), List.getElem_map, getD_of_lt p 0 i hi]
theorem near_plate {w h : Int} {p : List Int} (hp : picB w h p 255 = true) : plateB w h (nearL p) = true := by
  obtain ⟨h0, h1, h2, h3, h4, h5, h6⟩ := pic_spec hp
  rw [plateB_eq]
  refine pic_mk (decide_eq_true ⟨h0, h1, h2, h3, h4⟩) (by unfold nearL; rw [List.length_map]; exact (pic_len hp).symm) (fun x hx => ?_)
  obtain ⟨v, _, rfl⟩ := List.mem_map.1 hx
  show 0 ≤ (if v ≥ 128 then (1 : Int) else 0) ∧ (if v ≥ 128 then (1 : Int) else 0) ≤ 1
  split <;> omega
theorem near_least {w h : Int} {p q : List Int} (hp : picB w h p 255 = true) (hq : plateB w h q = true) : errTo p (nearL p) p.length ≤ errTo p q p.length := by
  have e1 := pic_len hp
  have e2 := pic_len (plate_pic hq)
  obtain ⟨_, _, _, _, _, _, g6⟩ := pic_spec hp
  refine sumN_le _ _ _ (fun i hi => ?_)
  have a := g6 _ (getD_mem p i hi)
  have b := plate_one hq i (by omega)
  rw [near_at p i hi]
  generalize p.getD i 0 = x at a
  generalize q.getD i 0 = y at b
  unfold sqE
  have n1 : (255 * 0 - x) * (255 * 0 - x) = x * x := by rw [show (255 : Int) * 0 - x = -x by omega, Int.neg_mul_neg]
  by_cases c : x ≥ 128
  · rw [if_pos c]
    rcases b with rfl | rfl
    · rw [n1]
      exact sq_mono (by omega) (by omega)
    · omega
  · rw [if_neg c]
    rcases b with rfl | rfl
    · omega
    · rw [n1]
      exact sq_mono (by omega) (by omega)
/-- The law FnNearest: no plate errs less than the one that takes the nearest of black and white in each cell; for the inputs that the law draws. -/
theorem FnNearest (l0 : List Int) (h0_ : l0.length ≤ maxLen) (h1_ : l0.length * 1 ≤ 140737488351232) (h2_ : (∀ x ∈ l0, (Lit.int .u8 x).wf = true)) :
    ∃ k, P.laws_FnNearest.f k l0 = some true := by
  refine Ev.rounds ?_
  unfold laws_FnNearest.f
  by_cases hl : (l0.length : Int) > 1048576
  · exact Ev_pos hl (Ev.now _)
  refine Ev_neg hl ?_
  obtain ⟨w, h, p, hp, hw, hh, HM⟩ := MakePicture_ok l0 8 h0_ (by omega) (by omega)
  obtain ⟨L, hL, HF⟩ := fresh_ok l0 3 (by omega)
  obtain ⟨g0, g1, g2, g3, g4, g5, g6⟩ := pic_spec hp
  obtain ⟨m, hq, HK⟩ := MakeLike_ok L w h p hL (decide_eq_true ⟨g0, g1, g2, g3, g4⟩)
  have sp := pic_small hp
  have hn := near_plate hp
  refine Ev.bind HM ?_
  have hb : ∀ n, n ≤ p.length → 0 ≤ errTo p (nearL p) n ∧ errTo p (nearL p) n ≤ 65025 * n := fun n hn2 => sumN_bd n _ 65025 (by omega) (fun j hj => by
    have a := g6 _ (getD_mem p j (by omega))
    refine sqE_bd a.1 a.2 (plate_one hn j ?_)
    unfold nearL
    rw [List.length_map]
    omega)
  have key : ∀ d i : Nat, i + d = p.length → Ev (fun k => laws_FnNearest.l0 k l0 (errTo p (nearL p) i) p (p.length : Int) (i : Int) w h p w h (nearL (p.take i))) true := by
    intro d
    induction d with
    | zero =>
      intro i hi
      obtain rfl : i = p.length := by omega
      refine Ev.step (fun k => by rw [laws_FnNearest.l0]) (Ev_neg (by omega) ?_)
      rw [List.take_length]
      refine Ev.bind HF (Ev.bind HK (Ev.bind (error_ev hp hn) (Ev_pos rfl (Ev.bind (error_ev hp hq) ?_))))
      rw [decide_eq_true (near_least hp hq)]
      exact Ev.now _
    | succ d ih =>
      intro i hi
      have a := g6 _ (getD_mem p i (by omega))
      have b1 := hb i (by omega)
      have hs : errTo p (nearL p) (i + 1) = errTo p (nearL p) i + sqE (p.getD i 0) ((nearL p).getD i 0) := sumN_succ _ _
      rw [near_at p i (by omega)] at hs
      have ht : nearL (p.take (i + 1)) = nearL (p.take i) ++ [if p.getD i 0 ≥ 128 then 1 else 0] := by
        unfold nearL
        rw [List.take_succ_eq_append_getElem (by omega), List.map_append, getD_of_lt p 0 i (by omega)]
        rfl
      have hlen : (nearL (p.take i)).length = i := by unfold nearL; rw [List.length_map, List.length_take]; omega
      have nx := ih (i + 1) (by omega)
      rw [ht, hs, ← wsucc i (by omega)] at nx
      refine Ev.step (fun k => by rw [laws_FnNearest.l0]) (Ev_pos (by omega) (Ev_pos (by omega) (Ev_pos (by omega) ?_)))
      rw [rd_nat]
      by_cases c : p.getD i 0 ≥ 128
      · refine Ev_pos c (Ev_pos (by omega) ?_)
        rw [if_pos c] at nx
        have t := sq_bd (255 - p.getD i 0) (by omega) (by omega)
        rw [wid (255 - p.getD i 0) (by omega) (by omega), wid ((255 - p.getD i 0) * (255 - p.getD i 0)) (by omega) (by omega), wid (errTo p (nearL p) i + (255 - p.getD i 0) * (255 - p.getD i 0)) (by omega) (by omega)]
        exact nx
      · refine Ev_neg c (Ev_pos (by omega) ?_)
        rw [if_neg c] at nx
        have t := sq_bd (p.getD i 0) (by omega) (by omega)
        have e : sqE (p.getD i 0) 0 = p.getD i 0 * p.getD i 0 := by unfold sqE; rw [show (255 : Int) * 0 - p.getD i 0 = -p.getD i 0 by omega, Int.neg_mul_neg]
        rw [e] at nx
        rw [wid (p.getD i 0 * p.getD i 0) (by omega) (by omega), wid (errTo p (nearL p) i + p.getD i 0 * p.getD i 0) (by omega) (by omega)]
        exact nx
  exact key p.length 0 (by omega)
end Go.Proofs.Ytgkjabbkklambaa.Q
