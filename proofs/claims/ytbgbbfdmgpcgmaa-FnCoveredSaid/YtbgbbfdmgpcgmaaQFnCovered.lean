/- The law FnCovered: a sum of two pictures covers both, and a picture covers the sum only if it is the sum; for the inputs that the law draws. -/
import Derived.Laws.BitsLemmas
import Derived.Test.YtbgbbfdmgpcgmaaFimplAddPictures
import Derived.Test.YtbgbbfdmgpcgmaaFimplCoversPicture
import Derived.Test.YtbgbbfdmgpcgmaaFimplIsPlate
import Derived.Test.YtbgbbfdmgpcgmaaFimplSamePicture
import Derived.Test.YtbgbbfdmgpcgmaaFimplalike
import Derived.Test.YtbgbbfdmgpcgmaaFlawsFnCovered
import Derived.Test.YtbgbbfdmgpcgmaaFlawsfresh
import Derived.Test.YtbgbbfdmgpcgmaaFlawsints
import Derived.Test.YtbgbbfdmgpcgmaaFlawssame
import Derived.Test.YtbgbbfdmgpcgmaaFpre
import Derived.Test.YtbgbbfdmgpcgmaaFslicesEqualintint
import Derived.Test.YtbgbbfdmgpcgmaaFspecMakeLike
import Derived.Test.YtbgbbfdmgpcgmaaFspecMakePicture
import Derived.Test.YtbgbbfdmgpcgmaaFspecl01Below
import Derived.Test.YtbgbbfdmgpcgmaaFspecl01Byte
import Derived.Test.YtbgbbfdmgpcgmaaFspecl01Int
import Derived.Test.YtbgbbfdmgpcgmaaFspecl01New
import Derived.Test.YtbgbbfdmgpcgmaaFspecl1Draw
import Derived.Test.YtbgbbfdmgpcgmaaFspecl1Empty
import Derived.Test.YtbgbbfdmgpcgmaaP0
namespace Go.Proofs.Ytbgbbfdmgpcgmaa.Q
open Go.RowKit Go.Proofs.Ytbgbbfdmgpcgmaa.P Go.Proofs.YtbgbbfdmgpcgmaaW.PrintWords
set_option linter.unusedVariables false
set_option linter.unusedSimpArgs false
theorem wsucc (i : Nat) (h : i < 9223372036854775807) : wrap64 ((i : Int) + 1) = ((i + 1 : Nat) : Int) := by unfold wrap64; omega
theorem wid (x : Int) (h0 : -9223372036854775808 ≤ x) (h1 : x ≤ 9223372036854775807) : wrap64 x = x := by unfold wrap64; omega
theorem rd_nat (l : List Int) (i : Nat) : rd l (i : Int) = l.getD i 0 := by unfold rd; rw [Int.toNat_natCast]
theorem getD_of_lt {α : Type} (l : List α) (d : α) (i : Nat) (h : i < l.length) : l.getD i d = l[i] := by simp [List.getD_eq_getElem?_getD, List.getElem?_eq_getElem h]
theorem getD_mem (l : List Int) (i : Nat) (h : i < l.length) : l.getD i 0 ∈ l := by rw [getD_of_lt l 0 i h]; exact List.getElem_mem h
theorem ext_getD {a b : List Int} (hl : a.length = b.length) (h : ∀ i, i < a.length → a.getD i 0 = b.getD i 0) : a = b := by
  apply List.ext_getElem hl
  intro i h1 h2
  have := h i h1
  rwa [getD_of_lt a 0 i h1, getD_of_lt b 0 i h2] at this
theorem getD_tab (n : Nat) (f : Nat → Int) (j : Nat) (h : j < n) : ((List.range n).map f).getD j 0 = f j := by
  simp [List.getD_eq_getElem?_getD, List.getElem?_map, List.getElem?_range h]
theorem Ev_pos {α : Type} {c : Prop} [Decidable c] {f g : Nat → Option α} {r : α} (hc : c) (h : Ev f r) : Ev (fun k => if c then f k else g k) r := Ev.congr (fun k => if_pos hc) h
theorem Ev_neg {α : Type} {c : Prop} [Decidable c] {f g : Nat → Option α} {r : α} (hc : ¬ c) (h : Ev g r) : Ev (fun k => if c then f k else g k) r := Ev.congr (fun k => if_neg hc) h
theorem within_le (l : List Int) (a b : Int) (h : a ≤ b) (hw : withinB l a = true) : withinB l b = true := by
  unfold withinB at hw ⊢
  rw [List.all_eq_true] at hw ⊢
  intro x hx
  have := of_decide_eq_true (hw x hx)
  exact decide_eq_true (by omega)
theorem plateB_eq (w h : Int) (l : List Int) : plateB w h l = picB w h l 1 := by
  unfold plateB picB
  cases sizedB w h <;> simp only [Bool.false_and, Bool.true_and]
  cases decide ((l.length : Int) = w * h) <;> simp only [Bool.false_and, Bool.true_and]
  cases hb : withinB l 1 with
  | false => rw [Bool.and_false]
  | true => rw [within_le l 1 255 (by omega) hb, Bool.and_true]
theorem l1Empty_eq (w h : Int) (hs : sizedB w h = true) : spec_l1Empty.f w h = some (w, h, List.replicate (h.toNat * w.toNat) 0) := by
  obtain ⟨h0, h1, h2, h3, h4⟩ := sized_spec hs
  have e0 : 0 ≤ w * h := Int.mul_nonneg (by omega) (by omega)
  unfold spec_l1Empty.f
  rw [wid (w * h) (by omega) (by omega), if_pos e0, if_pos (by omega)]
  have : (w * h).toNat = h.toNat * w.toNat := by rw [Int.toNat_mul (by omega) (by omega), Nat.mul_comm]
  rw [this]
theorem gridL_tab (w : Int) (f : Int → Int → Int) (n : Nat) : gridL w f n = (List.range n).map fun i => cellAt w f i := rfl
theorem area_eq {w h : Int} (h0 : 0 ≤ w) (h1 : 0 ≤ h) : ((h.toNat * w.toNat : Nat) : Int) = w * h := by
  rw [Int.natCast_mul, Int.toNat_of_nonneg h0, Int.toNat_of_nonneg h1, Int.mul_comm]
theorem tmod_nat (i : Nat) (w : Int) : Int.tmod (i : Int) w = (i : Int) % w := Int.tmod_eq_emod_of_nonneg (by omega)
theorem cell_bd {w h : Int} (i : Nat) (h0 : 0 < w) (h1 : 0 < h) (hi : (i : Int) < w * h) : 0 ≤ (i : Int) % w ∧ (i : Int) % w < w ∧ 0 ≤ (i : Int) / w ∧ (i : Int) / w < h ∧ (i : Int) / w * w + (i : Int) % w = i := by
  refine ⟨Int.emod_nonneg _ (by omega), Int.emod_lt_of_pos _ h0, Int.ediv_nonneg (by omega) (by omega), ?_, ?_⟩
  · exact Int.ediv_lt_of_lt_mul h0 (by rw [Int.mul_comm]; exact hi)
  · have := Int.mul_ediv_add_emod (i : Int) w
    rw [Int.mul_comm] at this
    exact this
theorem slEq_ev (a b : List Int) (ha : a.length ≤ maxLen) : Ev (fun k => slices_Equal_int_int.f k a b) (decide (a = b)) := by
  unfold maxLen at ha
  by_cases hl : a.length = b.length
  · have key : ∀ d i : Nat, i + d = a.length → (∀ j, j < i → a.getD j 0 = b.getD j 0) → Ev (fun k => slices_Equal_int_int.l0 k a b (a.length : Int) (i : Int)) (decide (a = b)) := by
      intro d
      induction d with
      | zero =>
        intro i hi hj
        have : a = b := ext_getD hl (fun j h => hj j (by omega))
        rw [decide_eq_true this]
        refine Ev.step (f := fun _ => some true) (fun k => ?_) (Ev.now _)
        simp only [slices_Equal_int_int.l0]
        rw [if_neg (by omega)]
      | succ d ih =>
        intro i hi hj
        by_cases e : a.getD i 0 = b.getD i 0
        · refine Ev.step (fun k => ?_) (ih (i + 1) (by omega) (fun j h => if hji : j = i then hji ▸ e else hj j (by omega)))
          simp only [slices_Equal_int_int.l0]
          rw [if_pos (by omega), if_pos (by omega), if_pos (by omega), if_pos (by omega), rd_nat, rd_nat, if_pos e, wsucc i (by omega)]
        · rw [decide_eq_false (fun h => e (by rw [h]))]
          refine Ev.step (f := fun _ => some false) (fun k => ?_) (Ev.now _)
          simp only [slices_Equal_int_int.l0]
          rw [if_pos (by omega), if_pos (by omega), if_pos (by omega), if_pos (by omega), rd_nat, rd_nat, if_neg e]
    unfold slices_Equal_int_int.f
    exact Ev_pos (by omega) (key a.length 0 (by omega) (fun j h => absurd h (by omega)))
  · rw [decide_eq_false (fun h => hl (by rw [h]))]
    unfold slices_Equal_int_int.f
    exact Ev_neg (by omega) (Ev.now _)
theorem implSame_ev (w h : Int) (l : List Int) (w2 h2 : Int) (l2 : List Int) (hl : l.length ≤ 1048576) : Ev (fun k => impl_SamePicture.f k w h l w2 h2 l2) (decide (w = w2 ∧ h = h2 ∧ l = l2)) := by
  unfold impl_SamePicture.f
  by_cases e1 : w = w2
  · refine Ev_pos e1 ?_
    by_cases e2 : h = h2
    · refine Ev_pos e2 ?_
      refine Ev.bind (slEq_ev l l2 (by unfold maxLen; omega)) ?_
      rw [show decide (w = w2 ∧ h = h2 ∧ l = l2) = decide (l = l2) by rw [decide_eq_decide]; simp [e1, e2]]
      exact Ev.now _
    · refine Ev_neg e2 ?_
      rw [decide_eq_false (by simp [e2])]
      exact Ev.now _
  · refine Ev_neg e1 ?_
    rw [decide_eq_false (by simp [e1])]
    exact Ev.now _
def coversL (a b : List Int) : Bool := (List.range a.length).all fun i => decide (¬ a.getD i 0 > b.getD i 0)
theorem implCov_ev (a : List Int) (w h : Int) (b : List Int) (ha : a.length ≤ 1048576) (hab : a.length = b.length) : Ev (fun k => impl_CoversPicture.l0 k a (a.length : Int) 0 w h b) (coversL a b) := by
  have key : ∀ d i : Nat, i + d = a.length → (∀ j, j < i → ¬ a.getD j 0 > b.getD j 0) → Ev (fun k => impl_CoversPicture.l0 k a (a.length : Int) (i : Int) w h b) (coversL a b) := by
    intro d
    induction d with
    | zero =>
      intro i hi hj
      have : coversL a b = true := by
        unfold coversL
        rw [List.all_eq_true]
        intro j hm
        exact decide_eq_true (hj j (by have := List.mem_range.1 hm; omega))
      rw [this]
      refine Ev.step (f := fun _ => some true) (fun k => ?_) (Ev.now _)
      simp only [impl_CoversPicture.l0]
      rw [if_neg (by omega)]
    | succ d ih =>
      intro i hi hj
      by_cases e : a.getD i 0 > b.getD i 0
      · have : coversL a b = false := by
          unfold coversL
          rw [List.all_eq_false]
          exact ⟨i, List.mem_range.2 (by omega), by simpa using e⟩
        rw [this]
        refine Ev.step (f := fun _ => some false) (fun k => ?_) (Ev.now _)
        simp only [impl_CoversPicture.l0]
        rw [if_pos (by omega), if_pos (by omega), if_pos (by omega), if_pos (by omega), rd_nat, rd_nat, if_pos e]
      · refine Ev.step (fun k => ?_) (ih (i + 1) (by omega) (fun j h => if hji : j = i then hji ▸ e else hj j (by omega)))
        simp only [impl_CoversPicture.l0]
        rw [if_pos (by omega), if_pos (by omega), if_pos (by omega), if_pos (by omega), rd_nat, rd_nat, if_neg e, wsucc i (by omega)]
  exact key a.length 0 (by omega) (fun j h => absurd h (by omega))
/-! Pictures made from a picture. -/
theorem pic_len {w h : Int} {l : List Int} {m : Int} (hp : picB w h l m = true) : h.toNat * w.toNat = l.length := by
  obtain ⟨h0, h1, h2, h3, h4, h5, h6⟩ := pic_spec hp
  have := area_eq (w := w) (h := h) (by omega) (by omega)
  omega
/-! The drawing of inputs. -/
theorem and255 (n : Int) : Go.bits .and .i64 n 255 = n % 256 := by
  have h127 : (BitVec.ofInt 64 255).toNat = 2 ^ 8 - 1 := by decide
  have key : (BitVec.ofInt 64 n &&& BitVec.ofInt 64 255).toNat = (n % ((2 ^ 64 : Nat) : Int)).toNat % 2 ^ 8 := by
    rw [BitVec.toNat_and, BitVec.toNat_ofInt, h127, Nat.and_two_pow_sub_one_eq_mod]
  show IntKind.i64.wrap ((BitVec.ofInt 64 n &&& BitVec.ofInt 64 255).toNat : Nat) = n % 256
  rw [key, IntKind.wrap_i64]
  omega
theorem byte_ok (s : List Int) (a b : Int) (ha : 0 ≤ a) (hl : s.length ≤ maxLen) : ∃ v a2 b2 : Int, spec_l01Byte.f s a b = some (v, a2, b2) ∧ 0 ≤ v ∧ v ≤ 255 ∧ 0 ≤ a2 := by
  unfold maxLen at hl
  unfold spec_l01Byte.f
  simp only [and255]
  by_cases h : a < (s.length : Int)
  · rw [if_pos h, if_pos ha, wid (a + 1) (by omega) (by omega)]
    exact ⟨_, _, _, rfl, by omega, by omega, by omega⟩
  · rw [if_neg h]
    exact ⟨_, _, _, rfl, by omega, by omega, by omega⟩
theorem below_ok (s : List Int) (a b n : Int) (ha : 0 ≤ a) (hl : s.length ≤ maxLen) (h1 : 1 ≤ n) (h2 : n ≤ 256) : ∃ v a2 b2 : Int, spec_l01Below.f s a b n = some (v, a2, b2) ∧ 0 ≤ v ∧ v < n ∧ 0 ≤ a2 := by
  obtain ⟨v, a2, b2, e, h3, h4, h5⟩ := byte_ok s a b ha hl
  unfold spec_l01Below.f
  rw [if_neg (by omega), if_pos h2, e, Option.bind_some, if_neg (by omega)]
  exact ⟨_, _, _, rfl, Int.tmod_nonneg _ h3, Int.tmod_lt_of_pos _ (by omega), h5⟩
theorem draw_ok (s : List Int) (a b : Int) (L : List Int) (ha : 0 ≤ a) (hl : s.length ≤ maxLen) (h1 : 1 ≤ L.length) (h2 : L.length ≤ 256) : ∃ v a2 b2 : Int, spec_l01Int.f s a b L = some (v, a2, b2) ∧ v ∈ L ∧ 0 ≤ a2 := by
  obtain ⟨v, a2, b2, e, h3, h4, h5⟩ := below_ok s a b (L.length : Int) ha hl (by omega) (by omega)
  unfold spec_l01Int.f
  rw [e, Option.bind_some, if_pos h3, if_pos h4]
  refine ⟨_, _, _, rfl, ?_, h5⟩
  obtain ⟨m, rfl⟩ : ∃ m : Nat, v = (m : Int) := ⟨v.toNat, by omega⟩
  rw [rd_nat]
  exact getD_mem L m (by omega)
theorem new_ok (s : List Int) (hl : s.length ≤ maxLen) : ∃ b : Int, Ev (fun k => spec_l01New.f k s) (s, 0, b) := by
  unfold maxLen at hl
  have key : ∀ (d i : Nat) (x : Int), i + d = s.length → ∃ b : Int, Ev (fun k => spec_l01New.l0 k s x (i : Int)) (s, 0, b) := by
    intro d
    induction d with
    | zero =>
      intro i x hi
      refine ⟨x, Ev.step (fun k => by rw [spec_l01New.l0]) ?_⟩
      exact Ev_neg (by omega) (Ev.now _)
    | succ d ih =>
      intro i x hi
      by_cases h : (i : Int) < 4000
      · obtain ⟨b, hb⟩ := ih (i + 1) (Go.bits .and .i64 (wrap64 ((wrap64 ((wrap64 (x * 1103)) + (wrap64 (rd s (i : Int))))) + 7)) 1073741823) (by omega)
        refine ⟨b, Ev.step (fun k => ?_) hb⟩
        simp only [spec_l01New.l0]
        rw [if_pos (by omega), if_pos h, if_pos (by omega), wsucc i (by omega)]
      · refine ⟨x, Ev.step (fun k => by rw [spec_l01New.l0]) ?_⟩
        exact Ev_pos (by omega) (Ev_neg h (Ev.now _))
  exact key s.length 0 _ (by omega)
theorem mem_set_bd {L : List Int} {p : Nat} {v lo hi : Int} (hL : ∀ x ∈ L, lo ≤ x ∧ x ≤ hi) (h0 : lo ≤ v) (h1 : v ≤ hi) : ∀ x ∈ L.set p v, lo ≤ x ∧ x ≤ hi := by
  intro x hx
  rcases List.mem_or_eq_of_mem_set hx with h | h
  · exact hL x h
  · subst h
    exact ⟨h0, h1⟩
theorem drawn_ok (s : List Int) (hl : s.length ≤ maxLen) (mode w h : Int) (hm : 0 ≤ mode) (hw : 1 ≤ w) (hw2 : w ≤ 64) (n : Nat) (hn : n ≤ 1048576) : ∀ (d i : Nat) (L : List Int) (a b : Int), i + d = n → L.length = n → (∀ x ∈ L, 0 ≤ x ∧ x ≤ 255) → 0 ≤ a →
    ∃ (L2 : List Int) (a2 b2 : Int), L2.length = n ∧ (∀ x ∈ L2, 0 ≤ x ∧ x ≤ 255) ∧ 0 ≤ a2 ∧ Ev (fun k => spec_l1Draw.l0 k mode (n : Int) (i : Int) s a b w h L) (w, h, L2, a2, b2) := by
  intro d
  induction d with
  | zero =>
    intro i L a b hi hL hx ha
    refine ⟨L, a, b, hL, hx, ha, Ev.step (fun k => by rw [spec_l1Draw.l0]) ?_⟩
    exact Ev_neg (by omega) (Ev.now _)
  | succ d ih =>
    intro i L a b hi hL hx ha
    have go : ∀ v a2 b2 : Int, 0 ≤ v → v ≤ 255 → 0 ≤ a2 → ∃ (L2 : List Int) (a3 b3 : Int), L2.length = n ∧ (∀ x ∈ L2, 0 ≤ x ∧ x ≤ 255) ∧ 0 ≤ a3 ∧ Ev (fun k => if 0 ≤ (i : Int) then (if (i : Int) < (L.length : Int) then (spec_l1Draw.l0 k mode (n : Int) (wrap64 ((i : Int) + 1)) s a2 b2 w h (L.set (i : Int).toNat v)) else none) else none) (w, h, L2, a3, b3) := by
      intro v a2 b2 v0 v1 ha2
      obtain ⟨L2, a3, b3, q1, q2, q3, q4⟩ := ih (i + 1) (L.set i v) a2 b2 (by omega) (by rw [List.length_set]; exact hL) (mem_set_bd hx v0 v1) ha2
      refine ⟨L2, a3, b3, q1, q2, q3, Ev_pos (by omega) (Ev_pos (by omega) ?_)⟩
      rw [wsucc i (by omega), Int.toNat_natCast]
      exact q4
    by_cases m0 : mode = 0
    · obtain ⟨v, a2, b2, e, v0, v1, ha2⟩ := below_ok s a b 256 ha hl (by omega) (by omega)
      obtain ⟨L2, a3, b3, q1, q2, q3, q4⟩ := go v a2 b2 v0 (by omega) ha2
      refine ⟨L2, a3, b3, q1, q2, q3, Ev.step (fun k => by rw [spec_l1Draw.l0]) (Ev_pos (by omega) (Ev_pos m0 ?_))⟩
      rw [e]
      exact q4
    by_cases m1 : mode = 1
    · obtain ⟨v, a2, b2, e, v0, ha2⟩ := draw_ok s a b [0, 255, 128, 127, 1, 254] ha hl (by simp) (by simp)
      have vb : 0 ≤ v ∧ v ≤ 255 := by
        simp only [List.mem_cons, List.not_mem_nil, or_false] at v0
        omega
      obtain ⟨L2, a3, b3, q1, q2, q3, q4⟩ := go v a2 b2 vb.1 vb.2 ha2
      refine ⟨L2, a3, b3, q1, q2, q3, Ev.step (fun k => by rw [spec_l1Draw.l0]) (Ev_pos (by omega) (Ev_neg m0 (Ev_pos m1 ?_)))⟩
      rw [e]
      exact q4
    by_cases m2 : mode = 2
    · obtain ⟨v, a2, b2, e, v0, v1, ha2⟩ := below_ok s a b 2 ha hl (by omega) (by omega)
      obtain ⟨L2, a3, b3, q1, q2, q3, q4⟩ := go v a2 b2 v0 (by omega) ha2
      refine ⟨L2, a3, b3, q1, q2, q3, Ev.step (fun k => by rw [spec_l1Draw.l0]) (Ev_pos (by omega) (Ev_neg m0 (Ev_neg m1 (Ev_pos m2 ?_))))⟩
      rw [e]
      exact q4
    · have hx1 : mx 1 (wrap64 (w - 1)) = if w = 1 then 1 else w - 1 := by
        rw [wid (w - 1) (by omega) (by omega)]
        unfold mx
        by_cases c : w = 1
        · subst c
          rfl
        · rw [if_neg c]
          by_cases c2 : 1 < w - 1
          · rw [if_pos c2]
          · rw [if_neg c2]
            omega
      have b0 := Int.emod_nonneg (i : Int) (b := w) (by omega)
      have b1 := Int.emod_lt_of_pos (i : Int) (b := w) (by omega)
      have hv : 0 ≤ wrap64 (Int.tdiv (wrap64 ((Int.tmod (i : Int) w) * 255)) (mx 1 (wrap64 (w - 1)))) ∧ wrap64 (Int.tdiv (wrap64 ((Int.tmod (i : Int) w) * 255)) (mx 1 (wrap64 (w - 1)))) ≤ 255 := by
        rw [hx1, tmod_nat, wid ((i : Int) % w * 255) (by omega) (by omega), Int.tdiv_eq_ediv_of_nonneg (by omega)]
        by_cases c : w = 1
        · subst c
          rw [if_pos rfl, show (i : Int) % 1 * 255 = 0 by omega, Int.zero_ediv]
          exact ⟨by unfold wrap64; omega, by unfold wrap64; omega⟩
        · rw [if_neg c]
          have d0 : 0 ≤ (i : Int) % w * 255 / (w - 1) := Int.ediv_nonneg (by omega) (by omega)
          have d1 : (i : Int) % w * 255 / (w - 1) ≤ 255 := by
            have : (i : Int) % w * 255 ≤ 255 * (w - 1) := by omega
            exact Int.ediv_le_of_le_mul (by omega) this
          rw [wid _ (by omega) (by omega)]
          exact ⟨d0, d1⟩
      obtain ⟨L2, a3, b3, q1, q2, q3, q4⟩ := go _ a b hv.1 hv.2 ha
      refine ⟨L2, a3, b3, q1, q2, q3, Ev.step (fun k => by rw [spec_l1Draw.l0]) (Ev_pos (by omega) (Ev_neg m0 (Ev_neg m1 (Ev_neg m2 (Ev_neg (by omega) (Ev_neg ?_ q4))))))⟩
      rw [hx1]
      split <;> omega
theorem rep_bd (n : Nat) (hi : Int) (h : 0 ≤ hi) : ∀ x ∈ List.replicate n (0 : Int), 0 ≤ x ∧ x ≤ hi := by
  intro x hx
  rw [(List.mem_replicate.1 hx).2]
  omega
theorem pic_mk {w h : Int} {l : List Int} {m : Int} (hs : sizedB w h = true) (hl : l.length = h.toNat * w.toNat) (hx : ∀ x ∈ l, 0 ≤ x ∧ x ≤ m) : picB w h l m = true := by
  obtain ⟨h0, h1, h2, h3, h4⟩ := sized_spec hs
  unfold picB withinB
  rw [Bool.and_eq_true, Bool.and_eq_true, List.all_eq_true]
  have := area_eq (w := w) (h := h) (by omega) (by omega)
  exact ⟨hs, decide_eq_true (by omega), fun x hxl => decide_eq_true (hx x hxl)⟩
theorem sized_small {w h : Int} (h0 : 1 ≤ w) (h1 : w ≤ 16) (h2 : 1 ≤ h) (h3 : h ≤ 16) : sizedB w h = true := by
  have e : w * h ≤ 16 * 16 := Int.le_trans (Int.mul_le_mul_of_nonneg_right h1 (by omega)) (Int.mul_le_mul_of_nonneg_left h3 (by omega))
  exact decide_eq_true ⟨h0, by omega, h2, by omega, by omega⟩
theorem l1Draw_ok (s : List Int) (a b m : Int) (ha : 0 ≤ a) (hl : s.length ≤ maxLen) (h1 : 1 ≤ m) (h2 : m ≤ 16) : ∃ (w h : Int) (l : List Int) (a2 b2 : Int), picB w h l 255 = true ∧ w ≤ m ∧ h ≤ m ∧ 0 ≤ a2 ∧ Ev (fun k => spec_l1Draw.f k s a b m) (w, h, l, a2, b2) := by
  obtain ⟨w, a2, b2, e1, w0, w1, ha2⟩ := below_ok s a b m ha hl h1 (by omega)
  obtain ⟨h, a3, b3, e2, v0, v1, ha3⟩ := below_ok s a2 b2 m ha2 hl h1 (by omega)
  obtain ⟨q, a4, b4, e3, q0, q1, ha4⟩ := below_ok s a3 b3 4 ha3 hl (by omega) (by omega)
  have hs : sizedB (1 + w) (1 + h) = true := sized_small (by omega) (by omega) (by omega) (by omega)
  obtain ⟨g0, g1, g2, g3, g4⟩ := sized_spec hs
  have hn := area_eq (w := 1 + w) (h := 1 + h) (by omega) (by omega)
  obtain ⟨L2, a5, b5, p1, p2, p3, p4⟩ := drawn_ok s hl q (1 + w) (1 + h) q0 (by omega) (by omega) ((1 + h).toNat * (1 + w).toNat) (by omega) ((1 + h).toNat * (1 + w).toNat) 0 (List.replicate ((1 + h).toNat * (1 + w).toNat) 0) a4 b4 (by omega) (by simp) (rep_bd _ _ (by omega)) ha4
  refine ⟨1 + w, 1 + h, L2, a5, b5, pic_mk hs p1 p2, by omega, by omega, p3, ?_⟩
  unfold spec_l1Draw.f
  simp only [e1, e2, Option.bind_some]
  rw [wid (1 + w) (by omega) (by omega), wid (1 + h) (by omega) (by omega), l1Empty_eq _ _ hs]
  simp only [e3, Option.bind_some, List.length_replicate]
  exact p4
theorem MakePicture_ok (s : List Int) (m : Int) (hl : s.length ≤ maxLen) (h1 : 1 ≤ m) (h2 : m ≤ 16) : ∃ (w h : Int) (l : List Int), picB w h l 255 = true ∧ w ≤ m ∧ h ≤ m ∧ Ev (fun k => spec_MakePicture.f k s m) (w, h, l) := by
  obtain ⟨b, hb⟩ := new_ok s hl
  have hm : mx 1 (mn m 16) = m := by
    unfold mx mn
    rw [show (if 16 < m then (16 : Int) else m) = m from if_neg (by omega)]
    by_cases c : 1 < m
    · rw [if_pos c]
    · rw [if_neg c]
      omega
  obtain ⟨w, h, l, a2, b2, p1, p2, p3, p4, p5⟩ := l1Draw_ok s 0 b m (by omega) hl h1 h2
  refine ⟨w, h, l, p1, p2, p3, ?_⟩
  unfold spec_MakePicture.f
  rw [hm]
  exact Ev.bind hb (Ev.bind p5 (Ev.now _))
theorem MakeLike_ok (s : List Int) (w h : Int) (l : List Int) (hl : s.length ≤ maxLen) (hs : sizedB w h = true) : ∃ L : List Int, plateB w h L = true ∧ Ev (fun k => spec_MakeLike.f k s w h l) (w, h, L) := by
  obtain ⟨b, hb⟩ := new_ok s hl
  obtain ⟨g0, g1, g2, g3, g4⟩ := sized_spec hs
  have hn := area_eq (w := w) (h := h) (by omega) (by omega)
  have key : ∀ n : Nat, n ≤ 1048576 → ∀ (d i : Nat) (L : List Int) (a b : Int), i + d = n → L.length = n → (∀ x ∈ L, 0 ≤ x ∧ x ≤ 1) → 0 ≤ a →
      ∃ L2 : List Int, L2.length = n ∧ (∀ x ∈ L2, 0 ≤ x ∧ x ≤ 1) ∧ Ev (fun k => spec_MakeLike.l0 k (n : Int) (i : Int) s a b w h L) (w, h, L2) := by
    intro n hn d
    induction d with
    | zero =>
      intro i L a b hi hL hx ha
      refine ⟨L, hL, hx, Ev.step (fun k => by rw [spec_MakeLike.l0]) ?_⟩
      exact Ev_neg (by omega) (Ev.now _)
    | succ d ih =>
      intro i L a b hi hL hx ha
      obtain ⟨v, a3, b3, e, v0, v1, ha3⟩ := below_ok s a b 2 ha hl (by omega) (by omega)
      obtain ⟨L2, q1, q2, q3⟩ := ih (i + 1) (L.set i v) a3 b3 (by omega) (by rw [List.length_set]; exact hL) (mem_set_bd hx v0 (by omega)) ha3
      refine ⟨L2, q1, q2, Ev.step (fun k => by rw [spec_MakeLike.l0]) (Ev_pos (by omega) ?_)⟩
      rw [e]
      simp only [Option.bind_some]
      refine Ev_pos (by omega) (Ev_pos (by omega) ?_)
      rw [wsucc i (by omega), Int.toNat_natCast]
      exact q3
  obtain ⟨L2, p1, p2, p4⟩ := key (h.toNat * w.toNat) (by omega) (h.toNat * w.toNat) 0 (List.replicate (h.toNat * w.toNat) 0) 0 b (by omega) (by simp) (rep_bd _ _ (by omega)) (by omega)
  refine ⟨L2, by rw [plateB_eq]; exact pic_mk hs p1 p2, ?_⟩
  unfold spec_MakeLike.f
  refine Ev.bind hb ?_
  rw [l1Empty_eq _ _ hs]
  simp only [Option.bind_some, List.length_replicate]
  exact p4
theorem fresh_ok (s : List Int) (x : Int) (hl : s.length ≤ 1048576) : ∃ L : List Int, L.length ≤ maxLen ∧ Ev (fun k => laws_fresh.f k s x) L := by
  have key : ∀ (d i : Nat) (L : List Int), i + d = s.length → L.length = i + 1 → ∃ L2 : List Int, L2.length ≤ maxLen ∧ Ev (fun k => laws_fresh.l0 k s x L (i : Int)) L2 := by
    intro d
    induction d with
    | zero =>
      intro i L hi hL
      refine ⟨L, by unfold maxLen; omega, Ev.step (fun k => by rw [laws_fresh.l0]) ?_⟩
      exact Ev_neg (by omega) (Ev.now _)
    | succ d ih =>
      intro i L hi hL
      by_cases h : (i : Int) < 600
      · obtain ⟨L2, q1, q2⟩ := ih (i + 1) (L ++ [(wrap64 ((wrap64 ((wrap64 (rd s (i : Int))) * 3)) + (wrap64 (x * (wrap64 ((Int.tmod (i : Int) 7) + 1)))))) % 256]) (by omega) (by rw [List.length_append, hL]; rfl)
        refine ⟨L2, q1, Ev.step (fun k => ?_) q2⟩
        simp only [laws_fresh.l0]
        rw [if_pos (by omega), if_pos h, if_pos (by omega), if_pos (by omega), wsucc i (by omega)]
      · refine ⟨L, by unfold maxLen; omega, Ev.step (fun k => by rw [laws_fresh.l0]) ?_⟩
        exact Ev_pos (by omega) (Ev_neg h (Ev.now _))
  exact key s.length 0 _ (by omega) rfl
/-! Equal pictures, sums over pictures. -/
theorem laws_ints_ev (a b : List Int) (ha : a.length ≤ maxLen) : Ev (fun k => laws_ints.f k a b) (decide (a = b)) := by
  unfold maxLen at ha
  by_cases hl : a.length = b.length
  · have key : ∀ d i : Nat, i + d = a.length → (∀ j, j < i → a.getD j 0 = b.getD j 0) → Ev (fun k => laws_ints.l0 k a b (a.length : Int) (i : Int)) (decide (a = b)) := by
      intro d
      induction d with
      | zero =>
        intro i hi hj
        have : a = b := ext_getD hl (fun j h => hj j (by omega))
        rw [decide_eq_true this]
        refine Ev.step (f := fun _ => some true) (fun k => ?_) (Ev.now _)
        simp only [laws_ints.l0]
        rw [if_neg (by omega)]
      | succ d ih =>
        intro i hi hj
        by_cases e : a.getD i 0 = b.getD i 0
        · refine Ev.step (fun k => ?_) (ih (i + 1) (by omega) (fun j h => if hji : j = i then hji ▸ e else hj j (by omega)))
          simp only [laws_ints.l0]
          rw [if_pos (by omega), if_pos (by omega), if_pos (by omega), if_pos (by omega), rd_nat, rd_nat, if_pos e, wsucc i (by omega)]
        · rw [decide_eq_false (fun h => e (by rw [h]))]
          refine Ev.step (f := fun _ => some false) (fun k => ?_) (Ev.now _)
          simp only [laws_ints.l0]
          rw [if_pos (by omega), if_pos (by omega), if_pos (by omega), if_pos (by omega), rd_nat, rd_nat, if_neg e]
    unfold laws_ints.f
    exact Ev_pos (by omega) (key a.length 0 (by omega) (fun j h => absurd h (by omega)))
  · rw [decide_eq_false (fun h => hl (by rw [h]))]
    unfold laws_ints.f
    exact Ev_neg (by omega) (Ev.now _)
theorem same_ev (w h : Int) (l : List Int) (w2 h2 : Int) (l2 : List Int) (hl : l.length ≤ 1048576) : Ev (fun k => laws_same.f k w h l w2 h2 l2) (decide (w = w2 ∧ h = h2 ∧ l = l2)) := by
  unfold laws_same.f
  by_cases e1 : w = w2
  · refine Ev_pos e1 ?_
    by_cases e2 : h = h2
    · refine Ev_pos e2 ?_
      refine Ev.bind (laws_ints_ev l l2 (by unfold maxLen; omega)) ?_
      rw [show decide (w = w2 ∧ h = h2 ∧ l = l2) = decide (l = l2) by rw [decide_eq_decide]; simp [e1, e2]]
      exact Ev.now _
    · refine Ev_neg e2 ?_
      rw [decide_eq_false (by simp [e2])]
      exact Ev.now _
  · refine Ev_neg e1 ?_
    rw [decide_eq_false (by simp [e1])]
    exact Ev.now _
theorem pic_small {w h : Int} {l : List Int} {m : Int} (hp : picB w h l m = true) : l.length ≤ 1024 := by
  obtain ⟨h0, h1, h2, h3, h4, h5, h6⟩ := pic_spec hp
  omega
theorem plate_pic {w h : Int} {l : List Int} (hp : plateB w h l = true) : picB w h l 255 = true := by
  unfold plateB at hp
  rw [Bool.and_eq_true] at hp
  exact hp.1
def addL (w h : Int) (l m : List Int) : List Int := gridL w (fun x y => impl_AddPictures.amount l m (y * w + x)) (h.toNat * w.toNat)
theorem add_at {w h : Int} {l : List Int} {b : Int} (m : List Int) (hp : picB w h l b = true) (i : Nat) (hi : i < l.length) : (addL w h l m).getD i 0 = impl_AddPictures.amount l m (i : Int) := by
  obtain ⟨h0, h1, h2, h3, h4, h5, h6⟩ := pic_spec hp
  obtain ⟨b0, b1, b2, b3, b4⟩ := cell_bd (w := w) (h := h) i (by omega) (by omega) (by omega)
  unfold addL
  rw [pic_len hp, gridL_tab, getD_tab _ _ _ hi]
  show impl_AddPictures.amount l m ((i : Int) / w * w + (i : Int) % w) = _
  rw [b4]
theorem alike_mk {w h : Int} {l m : List Int} (hp : picB w h l 255 = true) (hq : picB w h m 255 = true) : alikeB w h l w h m = true := by
  unfold alikeB
  rw [hp, hq, decide_eq_true ⟨rfl, rfl⟩]
  rfl
theorem add_eq {w h : Int} {l m : List Int} (hp : picB w h l 255 = true) (hq : picB w h m 255 = true) : impl_AddPictures.f w h l w h m = some (w, h, addL w h l m, true) := if_pos (alike_mk hp hq)
theorem amount_bd {l m : List Int} (i : Nat) (a0 : 0 ≤ l.getD i 0) (a1 : l.getD i 0 ≤ 255) (b0 : 0 ≤ m.getD i 0) (b1 : m.getD i 0 ≤ 255) : l.getD i 0 ≤ impl_AddPictures.amount l m (i : Int) ∧ m.getD i 0 ≤ impl_AddPictures.amount l m (i : Int) ∧ impl_AddPictures.amount l m (i : Int) ≤ 255 := by
  unfold impl_AddPictures.amount
  rw [rd_nat, rd_nat]
  split <;> omega
theorem add_pic {w h : Int} {l m : List Int} (hp : picB w h l 255 = true) (hq : picB w h m 255 = true) : picB w h (addL w h l m) 255 = true := by
  obtain ⟨h0, h1, h2, h3, h4, h5, h6⟩ := pic_spec hp
  obtain ⟨_, _, _, _, _, g5, g6⟩ := pic_spec hq
  have hlen : (addL w h l m).length = l.length := by unfold addL; rw [gridL_len, pic_len hp]
  refine pic_mk (decide_eq_true ⟨h0, h1, h2, h3, h4⟩) (by unfold addL; rw [gridL_len]) (fun v hv => ?_)
  obtain ⟨i, hi, rfl⟩ := List.getElem_of_mem hv
  have := add_at m hp i (by omega)
  rw [getD_of_lt _ 0 i hi] at this
  rw [this]
  have a := h6 _ (getD_mem l i (by omega))
  have b := g6 _ (getD_mem m i (by omega))
  have := amount_bd i a.1 a.2 b.1 b.2
  omega
theorem covers_ev {w h : Int} {l m : List Int} (hp : picB w h l 255 = true) (hq : picB w h m 255 = true) : Ev (fun k => impl_CoversPicture.f k w h l w h m) (coversL m l) := by
  have s1 := pic_small hp
  have s2 := pic_small hq
  have e1 := pic_len hp
  have e2 := pic_len hq
  unfold impl_CoversPicture.f
  rw [impl_alike.eq]
  simp only [Option.bind_some]
  exact Ev_pos (alike_mk hp hq) (implCov_ev m w h l (by omega) (by omega))
theorem coversL_iff (a b : List Int) : coversL a b = true ↔ ∀ i, i < a.length → a.getD i 0 ≤ b.getD i 0 := by
  unfold coversL
  rw [List.all_eq_true]
  constructor
  · intro h i hi
    have := of_decide_eq_true (h i (List.mem_range.2 hi))
    omega
  · intro h i hi
    have := h i (List.mem_range.1 hi)
    exact decide_eq_true (by omega)
/-- The law FnCovered: a sum of two pictures covers both, and a picture covers the sum only if it is the sum; for the inputs that the law draws. -/
theorem FnCovered (l0 : List Int) (h0_ : l0.length ≤ maxLen) (h1_ : l0.length * 1 ≤ 140737488351232) (h2_ : (∀ x ∈ l0, (Lit.int .u8 x).wf = true)) :
    ∃ k, P.laws_FnCovered.f k l0 = some true := by
  refine Ev.rounds ?_
  unfold laws_FnCovered.f
  by_cases hl : (l0.length : Int) > 1048576
  · exact Ev_pos hl (Ev.now _)
  refine Ev_neg hl ?_
  obtain ⟨w, h, l, hp, hw, hh, HM⟩ := MakePicture_ok l0 8 h0_ (by omega) (by omega)
  obtain ⟨L, hL, HF⟩ := fresh_ok l0 3 (by omega)
  obtain ⟨g0, g1, g2, g3, g4, g5, g6⟩ := pic_spec hp
  obtain ⟨m, hq, HK⟩ := MakeLike_ok L w h l hL (decide_eq_true ⟨g0, g1, g2, g3, g4⟩)
  have hq := plate_pic hq
  have hs := add_pic hp hq
  have sp := pic_small hp
  have ss := pic_small hs
  have e1 := pic_len hp
  have e2 := pic_len hq
  have e3 := pic_len hs
  obtain ⟨_, _, _, _, _, _, q6⟩ := pic_spec hq
  have hb : ∀ i, i < l.length → l.getD i 0 ≤ (addL w h l m).getD i 0 ∧ m.getD i 0 ≤ (addL w h l m).getD i 0 := by
    intro i hi
    have a := g6 _ (getD_mem l i hi)
    have b := q6 _ (getD_mem m i (by omega))
    have := amount_bd i a.1 a.2 b.1 b.2
    rw [add_at m hp i hi]
    exact ⟨this.1, this.2.1⟩
  have c1 : coversL l (addL w h l m) = true := (coversL_iff _ _).2 (fun i hi => (hb i hi).1)
  have c2 : coversL m (addL w h l m) = true := (coversL_iff _ _).2 (fun i hi => (hb i (by omega)).2)
  have c3 : coversL (addL w h l m) l = decide (w = w ∧ h = h ∧ l = addL w h l m) := by
    by_cases c : coversL (addL w h l m) l = true
    · rw [c]
      have := (coversL_iff _ _).1 c
      refine (decide_eq_true ⟨rfl, rfl, ext_getD (by omega) (fun i hi => ?_)⟩).symm
      have a := this i (by omega)
      have b := (hb i hi).1
      omega
    · rw [Bool.not_eq_true] at c
      rw [c]
      refine (decide_eq_false (fun q => ?_)).symm
      have : coversL (addL w h l m) l = true := (coversL_iff _ _).2 (fun i _ => by rw [← q.2.2]; omega)
      rw [c] at this
      cases this
  refine Ev.bind HM (Ev.bind HF (Ev.bind HK ?_))
  simp only [add_eq hp hq, Option.bind_some]
  have k1 := covers_ev hs hp
  have k2 := covers_ev hs hq
  have k3 := covers_ev hp hs
  have k4 := same_ev w h l w h (addL w h l m) (by omega)
  rw [c1] at k1
  rw [c2] at k2
  rw [c3] at k3
  refine Ev_pos (by trivial) (Ev.bind k1 (Ev_pos rfl (Ev.bind k2 ?_)))
  refine Ev.step (fun k => by rw [laws_FnCovered.j0]) (Ev_neg (by simp) ?_)
  refine Ev.bind k3 (Ev.bind k4 (Ev_pos (beq_self_eq_true _) ?_))
  refine Ev.bind (implSame_ev w h l w h (addL w h l m) (by omega)) (Ev.bind k4 ?_)
  rw [beq_self_eq_true]
  exact Ev.now _
end Go.Proofs.Ytbgbbfdmgpcgmaa.Q
