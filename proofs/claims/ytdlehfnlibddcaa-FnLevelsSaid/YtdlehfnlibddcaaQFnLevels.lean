/- The law FnLevels: levels grow with the ink from none to all cells, and the levels of a picture are those of its amounts; for the inputs that the law draws. -/
import Derived.Laws.BitsLemmas
import Derived.Test.YtdlehfnlibddcaaFimplDoubleMatrix
import Derived.Test.YtdlehfnlibddcaaFimplIsMatrix
import Derived.Test.YtdlehfnlibddcaaFimplIsPicture
import Derived.Test.YtdlehfnlibddcaaFimplLevelOf
import Derived.Test.YtdlehfnlibddcaaFimplLevelsFor
import Derived.Test.YtdlehfnlibddcaaFimplScreenPicture
import Derived.Test.YtdlehfnlibddcaaFimplcelled
import Derived.Test.YtdlehfnlibddcaaFimpllevel
import Derived.Test.YtdlehfnlibddcaaFimplmod
import Derived.Test.YtdlehfnlibddcaaFimplrank
import Derived.Test.YtdlehfnlibddcaaFlawsFnLevels
import Derived.Test.YtdlehfnlibddcaaFlawsat
import Derived.Test.YtdlehfnlibddcaaFlawsfresh
import Derived.Test.YtdlehfnlibddcaaFpre
import Derived.Test.YtdlehfnlibddcaaFspecBayerMatrix
import Derived.Test.YtdlehfnlibddcaaFspecMakeMatrix
import Derived.Test.YtdlehfnlibddcaaFspecMakePicture
import Derived.Test.YtdlehfnlibddcaaFspecRowMatrix
import Derived.Test.YtdlehfnlibddcaaFspecSpiralMatrix
import Derived.Test.YtdlehfnlibddcaaFspecl01Below
import Derived.Test.YtdlehfnlibddcaaFspecl01Byte
import Derived.Test.YtdlehfnlibddcaaFspecl01Int
import Derived.Test.YtdlehfnlibddcaaFspecl01New
import Derived.Test.YtdlehfnlibddcaaFspecl1Draw
import Derived.Test.YtdlehfnlibddcaaFspecl1Empty
import Derived.Test.YtdlehfnlibddcaaFspecl1In
import Derived.Test.YtdlehfnlibddcaaFspecl2Double
import Derived.Test.YtdlehfnlibddcaaFspecl2Draw
import Derived.Test.YtdlehfnlibddcaaFspecl2Mod
import Derived.Test.YtdlehfnlibddcaaFspecl2Rank
import Derived.Test.YtdlehfnlibddcaaFspecl2Shape
import Derived.Test.YtdlehfnlibddcaaP0
namespace Go.Proofs.Ytdlehfnlibddcaa.Q
open Go.RowKit Go.Proofs.Ytdlehfnlibddcaa.P Go.Proofs.YtdlehfnlibddcaaW.PrintWords
set_option linter.unusedVariables false
set_option linter.unusedSimpArgs false
theorem wsucc (i : Nat) (h : i < 9223372036854775807) : wrap64 ((i : Int) + 1) = ((i + 1 : Nat) : Int) := by unfold wrap64; omega
theorem wid (x : Int) (h0 : -9223372036854775808 ≤ x) (h1 : x ≤ 9223372036854775807) : wrap64 x = x := by unfold wrap64; omega
theorem rd_nat (l : List Int) (i : Nat) : rd l (i : Int) = l.getD i 0 := by unfold rd; rw [Int.toNat_natCast]
theorem getD_of_lt {α : Type} (l : List α) (d : α) (i : Nat) (h : i < l.length) : l.getD i d = l[i] := by simp [List.getD_eq_getElem?_getD, List.getElem?_eq_getElem h]
theorem getD_mem (l : List Int) (i : Nat) (h : i < l.length) : l.getD i 0 ∈ l := by rw [getD_of_lt l 0 i h]; exact List.getElem_mem h
theorem ext_getD {a b : List Int} (hl : a.length = b.length) (h : ∀ i, i < a.length → a.getD i 0 = b.getD i 0) : a = b := by
  apply List.ext_getElem hl
  intro i h1 h2
  have := h i h1
  rwa [getD_of_lt a 0 i h1, getD_of_lt b 0 i h2] at this
theorem getD_set (l : List Int) (i j : Nat) (x : Int) (hi : i < l.length) : (l.set i x).getD j 0 = if j = i then x else l.getD j 0 := by
  simp only [List.getD_eq_getElem?_getD, List.getElem?_set]
  by_cases h : i = j
  · subst h; simp [hi]
  · rw [if_neg h, if_neg (fun e => h e.symm)]
theorem getD_tab (n : Nat) (f : Nat → Int) (j : Nat) (h : j < n) : ((List.range n).map f).getD j 0 = f j := by
  simp [List.getD_eq_getElem?_getD, List.getElem?_map, List.getElem?_range h]
theorem len_tab (n : Nat) (f : Nat → Int) : ((List.range n).map f).length = n := by simp
theorem tab_congr (n : Nat) (f g : Nat → Int) (h : ∀ i, i < n → f i = g i) : (List.range n).map f = (List.range n).map g :=
  List.map_congr_left (fun i hi => h i (List.mem_range.1 hi))
theorem Ev_pos {α : Type} {c : Prop} [Decidable c] {f g : Nat → Option α} {r : α} (hc : c) (h : Ev f r) : Ev (fun k => if c then f k else g k) r := Ev.congr (fun k => if_pos hc) h
theorem Ev_neg {α : Type} {c : Prop} [Decidable c] {f g : Nat → Option α} {r : α} (hc : ¬ c) (h : Ev g r) : Ev (fun k => if c then f k else g k) r := Ev.congr (fun k => if_neg hc) h
/-! The reference's pictures. -/
theorem l1In_eq (x a b : Int) : spec_l1In.f x a b = some (decide (a ≤ x ∧ x ≤ b)) := by
  unfold spec_l1In.f
  by_cases h : x ≥ a
  · rw [if_pos h]
    congr 1
    rw [decide_eq_decide]
    omega
  · rw [if_neg h, decide_eq_false (by omega)]
theorem l1Empty_eq (w h : Int) (hs : sizedB w h = true) : spec_l1Empty.f w h = some (w, h, List.replicate (h.toNat * w.toNat) 0) := by
  obtain ⟨h0, h1, h2, h3, h4⟩ := sized_spec hs
  have e0 : 0 ≤ w * h := Int.mul_nonneg (by omega) (by omega)
  unfold spec_l1Empty.f
  rw [wid (w * h) (by omega) (by omega), if_pos e0, if_pos (by omega)]
  have : (w * h).toNat = h.toNat * w.toNat := by rw [Int.toNat_mul (by omega) (by omega), Nat.mul_comm]
  rw [this]
theorem gridL_tab (w : Int) (f : Int → Int → Int) (n : Nat) : gridL w f n = (List.range n).map fun i => cellAt w f i := rfl
theorem area_eq {w h : Int} (h0 : 0 ≤ w) (h1 : 0 ≤ h) : ((h.toNat * w.toNat : Nat) : Int) = w * h := by
  rw [Int.natCast_mul, Int.toNat_of_nonneg h0, Int.toNat_of_nonneg h1, Int.mul_comm]
theorem tdiv_nat (i : Nat) (w : Int) (h : 0 < w) : Int.tdiv (i : Int) w = (i : Int) / w := Int.tdiv_eq_ediv_of_nonneg (by omega)
theorem tmod_nat (i : Nat) (w : Int) : Int.tmod (i : Int) w = (i : Int) % w := Int.tmod_eq_emod_of_nonneg (by omega)
theorem cell_bd {w h : Int} (i : Nat) (h0 : 0 < w) (h1 : 0 < h) (hi : (i : Int) < w * h) : 0 ≤ (i : Int) % w ∧ (i : Int) % w < w ∧ 0 ≤ (i : Int) / w ∧ (i : Int) / w < h ∧ (i : Int) / w * w + (i : Int) % w = i := by
  refine ⟨Int.emod_nonneg _ (by omega), Int.emod_lt_of_pos _ h0, Int.ediv_nonneg (by omega) (by omega), ?_, ?_⟩
  · exact Int.ediv_lt_of_lt_mul h0 (by rw [Int.mul_comm]; exact hi)
  · have := Int.mul_ediv_add_emod (i : Int) w
    rw [Int.mul_comm] at this
    exact this
theorem cell_of {w : Int} (x y : Int) (h0 : 0 < w) (hx0 : 0 ≤ x) (hx : x < w) : (y * w + x) % w = x ∧ (y * w + x) / w = y := by
  constructor
  · rw [Int.add_comm, Int.add_mul_emod_self_right, Int.emod_eq_of_lt hx0 hx]
  · rw [Int.add_comm, Int.add_mul_ediv_right _ _ (by omega), Int.ediv_eq_zero_of_lt hx0 hx, Int.zero_add]
/-! The drawing of inputs. -/
theorem and255 (n : Int) : Go.bits .and .i64 n 255 = n % 256 := by
  have h127 : (BitVec.ofInt 64 255).toNat = 2 ^ 8 - 1 := by decide
  have key : (BitVec.ofInt 64 n &&& BitVec.ofInt 64 255).toNat = (n % ((2 ^ 64 : Nat) : Int)).toNat % 2 ^ 8 := by
    rw [BitVec.toNat_and, BitVec.toNat_ofInt, h127, Nat.and_two_pow_sub_one_eq_mod]
  show IntKind.i64.wrap ((BitVec.ofInt 64 n &&& BitVec.ofInt 64 255).toNat : Nat) = n % 256
  rw [key, IntKind.wrap_i64]
  omega
theorem byte_ok (s : List Int) (a b : Int) (ha : 0 ≤ a) (hl : s.length ≤ maxLen) : ∃ v a2 b2 : Int, spec_l01Byte.f s a b = some (v, a2, b2) ∧ 0 ≤ v ∧ v ≤ 255 ∧ 0 ≤ a2 := by
  unfold maxLen at hl
  unfold spec_l01Byte.f
  simp only [and255]
  by_cases h : a < (s.length : Int)
  · rw [if_pos h, if_pos ha, wid (a + 1) (by omega) (by omega)]
    exact ⟨_, _, _, rfl, by omega, by omega, by omega⟩
  · rw [if_neg h]
    exact ⟨_, _, _, rfl, by omega, by omega, by omega⟩
theorem below_ok (s : List Int) (a b n : Int) (ha : 0 ≤ a) (hl : s.length ≤ maxLen) (h1 : 1 ≤ n) (h2 : n ≤ 256) : ∃ v a2 b2 : Int, spec_l01Below.f s a b n = some (v, a2, b2) ∧ 0 ≤ v ∧ v < n ∧ 0 ≤ a2 := by
  obtain ⟨v, a2, b2, e, h3, h4, h5⟩ := byte_ok s a b ha hl
  unfold spec_l01Below.f
  rw [if_neg (by omega), if_pos h2, e, Option.bind_some, if_neg (by omega)]
  exact ⟨_, _, _, rfl, Int.tmod_nonneg _ h3, Int.tmod_lt_of_pos _ (by omega), h5⟩
theorem draw_ok (s : List Int) (a b : Int) (L : List Int) (ha : 0 ≤ a) (hl : s.length ≤ maxLen) (h1 : 1 ≤ L.length) (h2 : L.length ≤ 256) : ∃ v a2 b2 : Int, spec_l01Int.f s a b L = some (v, a2, b2) ∧ v ∈ L ∧ 0 ≤ a2 := by
  obtain ⟨v, a2, b2, e, h3, h4, h5⟩ := below_ok s a b (L.length : Int) ha hl (by omega) (by omega)
  unfold spec_l01Int.f
  rw [e, Option.bind_some, if_pos h3, if_pos h4]
  refine ⟨_, _, _, rfl, ?_, h5⟩
  obtain ⟨m, rfl⟩ : ∃ m : Nat, v = (m : Int) := ⟨v.toNat, by omega⟩
  rw [rd_nat]
  exact getD_mem L m (by omega)
theorem new_ok (s : List Int) (hl : s.length ≤ maxLen) : ∃ b : Int, Ev (fun k => spec_l01New.f k s) (s, 0, b) := by
  unfold maxLen at hl
  have key : ∀ (d i : Nat) (x : Int), i + d = s.length → ∃ b : Int, Ev (fun k => spec_l01New.l0 k s x (i : Int)) (s, 0, b) := by
    intro d
    induction d with
    | zero =>
      intro i x hi
      refine ⟨x, Ev.step (fun k => by rw [spec_l01New.l0]) ?_⟩
      exact Ev_neg (by omega) (Ev.now _)
    | succ d ih =>
      intro i x hi
      by_cases h : (i : Int) < 4000
      · obtain ⟨b, hb⟩ := ih (i + 1) (Go.bits .and .i64 (wrap64 ((wrap64 ((wrap64 (x * 1103)) + (wrap64 (rd s (i : Int))))) + 7)) 1073741823) (by omega)
        refine ⟨b, Ev.step (fun k => ?_) hb⟩
        simp only [spec_l01New.l0]
        rw [if_pos (by omega), if_pos h, if_pos (by omega), wsucc i (by omega)]
      · refine ⟨x, Ev.step (fun k => by rw [spec_l01New.l0]) ?_⟩
        exact Ev_pos (by omega) (Ev_neg h (Ev.now _))
  exact key s.length 0 _ (by omega)
theorem mem_set_bd {L : List Int} {p : Nat} {v lo hi : Int} (hL : ∀ x ∈ L, lo ≤ x ∧ x ≤ hi) (h0 : lo ≤ v) (h1 : v ≤ hi) : ∀ x ∈ L.set p v, lo ≤ x ∧ x ≤ hi := by
  intro x hx
  rcases List.mem_or_eq_of_mem_set hx with h | h
  · exact hL x h
  · subst h
    exact ⟨h0, h1⟩
theorem drawn_ok (s : List Int) (hl : s.length ≤ maxLen) (mode w h : Int) (hm : 0 ≤ mode) (hw : 1 ≤ w) (hw2 : w ≤ 64) (n : Nat) (hn : n ≤ 1048576) : ∀ (d i : Nat) (L : List Int) (a b : Int), i + d = n → L.length = n → (∀ x ∈ L, 0 ≤ x ∧ x ≤ 255) → 0 ≤ a →
    ∃ (L2 : List Int) (a2 b2 : Int), L2.length = n ∧ (∀ x ∈ L2, 0 ≤ x ∧ x ≤ 255) ∧ 0 ≤ a2 ∧ Ev (fun k => spec_l1Draw.l0 k mode (n : Int) (i : Int) s a b w h L) (w, h, L2, a2, b2) := by
  intro d
  induction d with
  | zero =>
    intro i L a b hi hL hx ha
    refine ⟨L, a, b, hL, hx, ha, Ev.step (fun k => by rw [spec_l1Draw.l0]) ?_⟩
    exact Ev_neg (by omega) (Ev.now _)
  | succ d ih =>
    intro i L a b hi hL hx ha
    have go : ∀ v a2 b2 : Int, 0 ≤ v → v ≤ 255 → 0 ≤ a2 → ∃ (L2 : List Int) (a3 b3 : Int), L2.length = n ∧ (∀ x ∈ L2, 0 ≤ x ∧ x ≤ 255) ∧ 0 ≤ a3 ∧ Ev (fun k => if 0 ≤ (i : Int) then (if (i : Int) < (L.length : Int) then (spec_l1Draw.l0 k mode (n : Int) (wrap64 ((i : Int) + 1)) s a2 b2 w h (L.set (i : Int).toNat v)) else none) else none) (w, h, L2, a3, b3) := by
      intro v a2 b2 v0 v1 ha2
      obtain ⟨L2, a3, b3, q1, q2, q3, q4⟩ := ih (i + 1) (L.set i v) a2 b2 (by omega) (by rw [List.length_set]; exact hL) (mem_set_bd hx v0 v1) ha2
      refine ⟨L2, a3, b3, q1, q2, q3, Ev_pos (by omega) (Ev_pos (by omega) ?_)⟩
      rw [wsucc i (by omega), Int.toNat_natCast]
      exact q4
    by_cases m0 : mode = 0
    · obtain ⟨v, a2, b2, e, v0, v1, ha2⟩ := below_ok s a b 256 ha hl (by omega) (by omega)
      obtain ⟨L2, a3, b3, q1, q2, q3, q4⟩ := go v a2 b2 v0 (by omega) ha2
      refine ⟨L2, a3, b3, q1, q2, q3, Ev.step (fun k => by rw [spec_l1Draw.l0]) (Ev_pos (by omega) (Ev_pos m0 ?_))⟩
      rw [e]
      exact q4
    by_cases m1 : mode = 1
    · obtain ⟨v, a2, b2, e, v0, ha2⟩ := draw_ok s a b [0, 255, 128, 127, 1, 254] ha hl (by simp) (by simp)
      have vb : 0 ≤ v ∧ v ≤ 255 := by
        simp only [List.mem_cons, List.not_mem_nil, or_false] at v0
        omega
      obtain ⟨L2, a3, b3, q1, q2, q3, q4⟩ := go v a2 b2 vb.1 vb.2 ha2
      refine ⟨L2, a3, b3, q1, q2, q3, Ev.step (fun k => by rw [spec_l1Draw.l0]) (Ev_pos (by omega) (Ev_neg m0 (Ev_pos m1 ?_)))⟩
      rw [e]
      exact q4
    by_cases m2 : mode = 2
    · obtain ⟨v, a2, b2, e, v0, v1, ha2⟩ := below_ok s a b 2 ha hl (by omega) (by omega)
      obtain ⟨L2, a3, b3, q1, q2, q3, q4⟩ := go v a2 b2 v0 (by omega) ha2
      refine ⟨L2, a3, b3, q1, q2, q3, Ev.step (fun k => by rw [spec_l1Draw.l0]) (Ev_pos (by omega) (Ev_neg m0 (Ev_neg m1 (Ev_pos m2 ?_))))⟩
      rw [e]
      exact q4
    · have hx1 : mx 1 (wrap64 (w - 1)) = if w = 1 then 1 else w - 1 := by
        rw [wid (w - 1) (by omega) (by omega)]
        unfold mx
        by_cases c : w = 1
        · subst c
          rfl
        · rw [if_neg c]
          by_cases c2 : 1 < w - 1
          · rw [if_pos c2]
          · rw [if_neg c2]
            omega
      have b0 := Int.emod_nonneg (i : Int) (b := w) (by omega)
      have b1 := Int.emod_lt_of_pos (i : Int) (b := w) (by omega)
      have hv : 0 ≤ wrap64 (Int.tdiv (wrap64 ((Int.tmod (i : Int) w) * 255)) (mx 1 (wrap64 (w - 1)))) ∧ wrap64 (Int.tdiv (wrap64 ((Int.tmod (i : Int) w) * 255)) (mx 1 (wrap64 (w - 1)))) ≤ 255 := by
        rw [hx1, tmod_nat, wid ((i : Int) % w * 255) (by omega) (by omega), Int.tdiv_eq_ediv_of_nonneg (by omega)]
        by_cases c : w = 1
        · subst c
          rw [if_pos rfl, show (i : Int) % 1 * 255 = 0 by omega, Int.zero_ediv]
          exact ⟨by unfold wrap64; omega, by unfold wrap64; omega⟩
        · rw [if_neg c]
          have d0 : 0 ≤ (i : Int) % w * 255 / (w - 1) := Int.ediv_nonneg (by omega) (by omega)
          have d1 : (i : Int) % w * 255 / (w - 1) ≤ 255 := by
            have : (i : Int) % w * 255 ≤ 255 * (w - 1) := by omega
            exact Int.ediv_le_of_le_mul (by omega) this
          rw [wid _ (by omega) (by omega)]
          exact ⟨d0, d1⟩
      obtain ⟨L2, a3, b3, q1, q2, q3, q4⟩ := go _ a b hv.1 hv.2 ha
      refine ⟨L2, a3, b3, q1, q2, q3, Ev.step (fun k => by rw [spec_l1Draw.l0]) (Ev_pos (by omega) (Ev_neg m0 (Ev_neg m1 (Ev_neg m2 (Ev_neg (by omega) (Ev_neg ?_ q4))))))⟩
      rw [hx1]
      split <;> omega
theorem rep_bd (n : Nat) (hi : Int) (h : 0 ≤ hi) : ∀ x ∈ List.replicate n (0 : Int), 0 ≤ x ∧ x ≤ hi := by
  intro x hx
  rw [(List.mem_replicate.1 hx).2]
  omega
theorem pic_mk {w h : Int} {l : List Int} {m : Int} (hs : sizedB w h = true) (hl : l.length = h.toNat * w.toNat) (hx : ∀ x ∈ l, 0 ≤ x ∧ x ≤ m) : picB w h l m = true := by
  obtain ⟨h0, h1, h2, h3, h4⟩ := sized_spec hs
  unfold picB withinB
  rw [Bool.and_eq_true, Bool.and_eq_true, List.all_eq_true]
  have := area_eq (w := w) (h := h) (by omega) (by omega)
  exact ⟨hs, decide_eq_true (by omega), fun x hxl => decide_eq_true (hx x hxl)⟩
theorem sized_small {w h : Int} (h0 : 1 ≤ w) (h1 : w ≤ 16) (h2 : 1 ≤ h) (h3 : h ≤ 16) : sizedB w h = true := by
  have e : w * h ≤ 16 * 16 := Int.le_trans (Int.mul_le_mul_of_nonneg_right h1 (by omega)) (Int.mul_le_mul_of_nonneg_left h3 (by omega))
  exact decide_eq_true ⟨h0, by omega, h2, by omega, by omega⟩
theorem l1Draw_ok (s : List Int) (a b m : Int) (ha : 0 ≤ a) (hl : s.length ≤ maxLen) (h1 : 1 ≤ m) (h2 : m ≤ 16) : ∃ (w h : Int) (l : List Int) (a2 b2 : Int), picB w h l 255 = true ∧ w ≤ m ∧ h ≤ m ∧ 0 ≤ a2 ∧ Ev (fun k => spec_l1Draw.f k s a b m) (w, h, l, a2, b2) := by
  obtain ⟨w, a2, b2, e1, w0, w1, ha2⟩ := below_ok s a b m ha hl h1 (by omega)
  obtain ⟨h, a3, b3, e2, v0, v1, ha3⟩ := below_ok s a2 b2 m ha2 hl h1 (by omega)
  obtain ⟨q, a4, b4, e3, q0, q1, ha4⟩ := below_ok s a3 b3 4 ha3 hl (by omega) (by omega)
  have hs : sizedB (1 + w) (1 + h) = true := sized_small (by omega) (by omega) (by omega) (by omega)
  obtain ⟨g0, g1, g2, g3, g4⟩ := sized_spec hs
  have hn := area_eq (w := 1 + w) (h := 1 + h) (by omega) (by omega)
  obtain ⟨L2, a5, b5, p1, p2, p3, p4⟩ := drawn_ok s hl q (1 + w) (1 + h) q0 (by omega) (by omega) ((1 + h).toNat * (1 + w).toNat) (by omega) ((1 + h).toNat * (1 + w).toNat) 0 (List.replicate ((1 + h).toNat * (1 + w).toNat) 0) a4 b4 (by omega) (by simp) (rep_bd _ _ (by omega)) ha4
  refine ⟨1 + w, 1 + h, L2, a5, b5, pic_mk hs p1 p2, by omega, by omega, p3, ?_⟩
  unfold spec_l1Draw.f
  simp only [e1, e2, Option.bind_some]
  rw [wid (1 + w) (by omega) (by omega), wid (1 + h) (by omega) (by omega), l1Empty_eq _ _ hs]
  simp only [e3, Option.bind_some, List.length_replicate]
  exact p4
theorem MakePicture_ok (s : List Int) (m : Int) (hl : s.length ≤ maxLen) (h1 : 1 ≤ m) (h2 : m ≤ 16) : ∃ (w h : Int) (l : List Int), picB w h l 255 = true ∧ w ≤ m ∧ h ≤ m ∧ Ev (fun k => spec_MakePicture.f k s m) (w, h, l) := by
  obtain ⟨b, hb⟩ := new_ok s hl
  have hm : mx 1 (mn m 16) = m := by
    unfold mx mn
    rw [show (if 16 < m then (16 : Int) else m) = m from if_neg (by omega)]
    by_cases c : 1 < m
    · rw [if_pos c]
    · rw [if_neg c]
      omega
  obtain ⟨w, h, l, a2, b2, p1, p2, p3, p4, p5⟩ := l1Draw_ok s 0 b m (by omega) hl h1 h2
  refine ⟨w, h, l, p1, p2, p3, ?_⟩
  unfold spec_MakePicture.f
  rw [hm]
  exact Ev.bind hb (Ev.bind p5 (Ev.now _))
theorem fresh_ok (s : List Int) (x : Int) (hl : s.length ≤ 1048576) : ∃ L : List Int, L.length ≤ maxLen ∧ Ev (fun k => laws_fresh.f k s x) L := by
  have key : ∀ (d i : Nat) (L : List Int), i + d = s.length → L.length = i + 1 → ∃ L2 : List Int, L2.length ≤ maxLen ∧ Ev (fun k => laws_fresh.l0 k s x L (i : Int)) L2 := by
    intro d
    induction d with
    | zero =>
      intro i L hi hL
      refine ⟨L, by unfold maxLen; omega, Ev.step (fun k => by rw [laws_fresh.l0]) ?_⟩
      exact Ev_neg (by omega) (Ev.now _)
    | succ d ih =>
      intro i L hi hL
      by_cases h : (i : Int) < 600
      · obtain ⟨L2, q1, q2⟩ := ih (i + 1) (L ++ [(wrap64 ((wrap64 ((wrap64 (rd s (i : Int))) * 3)) + (wrap64 (x * (wrap64 ((Int.tmod (i : Int) 7) + 1)))))) % 256]) (by omega) (by rw [List.length_append, hL]; rfl)
        refine ⟨L2, q1, Ev.step (fun k => ?_) q2⟩
        simp only [laws_fresh.l0]
        rw [if_pos (by omega), if_pos h, if_pos (by omega), if_pos (by omega), wsucc i (by omega)]
      · refine ⟨L, by unfold maxLen; omega, Ev.step (fun k => by rw [laws_fresh.l0]) ?_⟩
        exact Ev_pos (by omega) (Ev_neg h (Ev.now _))
  exact key s.length 0 _ (by omega) rfl
theorem at_ok (s : List Int) (n : Int) (hl : s.length ≤ 1048576) (h0 : 0 ≤ n) (h1 : n ≤ 100) (hx : ∀ x ∈ s, 0 ≤ x ∧ x ≤ 255) : ∃ v : Int, laws_at.f s n = some v ∧ 0 ≤ v ∧ v ≤ 255 := by
  unfold laws_at.f
  by_cases h : n < (s.length : Int)
  · rw [if_pos h, if_pos h0]
    obtain ⟨m, rfl⟩ : ∃ m : Nat, n = (m : Int) := ⟨n.toNat, by omega⟩
    rw [rd_nat]
    have := hx _ (getD_mem s m (by omega))
    rw [wid _ (by omega) (by omega)]
    exact ⟨_, rfl, this.1, this.2⟩
  · rw [if_neg h, wid (n * 37) (by omega) (by omega), wid ((s.length : Int) * 11) (by omega) (by omega), wid _ (by omega) (by omega)]
    refine ⟨_, rfl, Int.tmod_nonneg _ (by omega), ?_⟩
    have := Int.tmod_lt_of_pos (n * 37 + (s.length : Int) * 11) (b := 256) (by omega)
    omega
theorem pic_small {w h : Int} {l : List Int} {m : Int} (hp : picB w h l m = true) : l.length ≤ 1024 := by
  obtain ⟨h0, h1, h2, h3, h4, h5, h6⟩ := pic_spec hp
  omega
theorem u8_bd {l : List Int} (h : ∀ x ∈ l, (Lit.int .u8 x).wf = true) : ∀ x ∈ l, 0 ≤ x ∧ x ≤ 255 := by
  intro x hx
  have := h x hx
  simp [Lit.wf] at this
  have e1 : IntKind.u8.min = 0 := rfl
  have e2 : IntKind.u8.max = 255 := rfl
  omega
/-! Matrices. -/
theorem l2Shape_eq (a b : Int) : spec_l2Shape.f a b = some (celledB a b) := by
  unfold spec_l2Shape.f celledB
  rw [l1In_eq, Option.bind_some]
  by_cases h0 : 1 ≤ a ∧ a ≤ 256
  · rw [decide_eq_true h0, if_pos rfl, l1In_eq, Option.bind_some]
    by_cases h1 : 1 ≤ b ∧ b ≤ 256
    · rw [decide_eq_true h1, if_pos rfl]
      have e0 : 0 ≤ a * b := Int.mul_nonneg (by omega) (by omega)
      have e1 : a * b ≤ 256 * 256 := Int.le_trans (Int.mul_le_mul_of_nonneg_right h0.2 (by omega)) (Int.mul_le_mul_of_nonneg_left h1.2 (by omega))
      rw [wid (a * b) (by omega) (by omega)]
      congr 1
      rw [decide_eq_decide]
      exact ⟨fun h => ⟨h0.1, h0.2, h1.1, h1.2, h⟩, fun h => h.2.2.2.2⟩
    · rw [decide_eq_false h1, if_neg (by simp), decide_eq_false (fun h => h1 ⟨h.2.2.1, h.2.2.2.1⟩)]
  · rw [decide_eq_false h0, if_neg (by simp), decide_eq_false (fun h => h0 ⟨h.1, h.2.1⟩)]
theorem rows_tab {w : Int} (n : Nat) (h0 : 0 < w) : gridL w (fun x y => y * w + x) n = (List.range n).map (fun i : Nat => (i : Int)) := by
  rw [gridL_tab]
  refine tab_congr _ _ _ (fun i _ => ?_)
  show (i : Int) / w * w + (i : Int) % w = i
  have := Int.mul_ediv_add_emod (i : Int) w
  rw [Int.mul_comm] at this
  exact this
theorem specRow_ev (w h : Int) : Ev (fun k => spec_RowMatrix.f k w h) (if celledB w h = true then (w, h, gridL w (fun x y => y * w + x) (Int.toNat h * Int.toNat w), true) else (0, 0, [], false)) := by
  unfold spec_RowMatrix.f
  rw [l2Shape_eq]
  simp only [Option.bind_some]
  by_cases hc : celledB w h = true
  · obtain ⟨h0, h1, h2, h3, h4⟩ := celled_spec hc
    have hn := area_eq (w := w) (h := h) (by omega) (by omega)
    have hp : 0 ≤ w * h := Int.mul_nonneg (by omega) (by omega)
    rw [if_pos hc, rows_tab _ (by omega)]
    refine Ev_pos hc ?_
    have key : ∀ d i : Nat, i + d = h.toNat * w.toNat → Ev (fun k => spec_RowMatrix.l0 k w h (i : Int) w h ((List.range i).map (fun i : Nat => (i : Int)))) (w, h, (List.range (h.toNat * w.toNat)).map (fun i : Nat => (i : Int)), true) := by
      intro d
      induction d with
      | zero =>
        intro i hi
        obtain rfl : i = h.toNat * w.toNat := by omega
        refine Ev.step (fun k => by rw [spec_RowMatrix.l0]) ?_
        exact Ev_neg (by rw [wid (w * h) (by omega) (by omega)]; omega) (Ev.now _)
      | succ d ih =>
        intro i hi
        have := ih (i + 1) (by omega)
        rw [List.range_succ, List.map_append, ← wsucc i (by omega)] at this
        refine Ev.step (fun k => by rw [spec_RowMatrix.l0]) ?_
        exact Ev_pos (by rw [wid (w * h) (by omega) (by omega)]; omega) (Ev_pos (by rw [List.length_map, List.length_range]; omega) this)
    exact key (h.toNat * w.toNat) 0 (by omega)
  · rw [if_neg hc]
    exact Ev_neg hc (Ev.now _)
/-! Ranks. -/
theorem specMod_ev (x w : Int) (hw : 0 < w) (hw2 : w ≤ 1000000000000) : spec_l2Mod.f x w = some (x % w) := by
  have b0 := Int.emod_nonneg x (b := w) (by omega)
  have b1 := Int.emod_lt_of_pos x hw
  unfold spec_l2Mod.f
  rw [if_neg (by omega)]
  by_cases hx : 0 ≤ x
  · rw [Int.tmod_eq_emod_of_nonneg hx, if_neg (by omega)]
  · have e : Int.tmod x w = -((-x) % w) := by
      rw [← Int.tmod_eq_emod_of_nonneg (by omega : 0 ≤ -x), Int.neg_tmod, Int.neg_neg]
    have c0 := Int.emod_nonneg (-x) (b := w) (by omega)
    have c1 := Int.emod_lt_of_pos (-x) hw
    rw [e]
    have d1 := Int.mul_ediv_add_emod x w
    have d2 := Int.mul_ediv_add_emod (-x) w
    by_cases hz : (-x) % w = 0
    · rw [hz, if_neg (by omega)]
      have : x % w = 0 := Int.emod_eq_zero_of_dvd ((Int.dvd_neg.1 (Int.dvd_of_emod_eq_zero hz)))
      rw [this]
      rfl
    · rw [if_pos (by omega), wid _ (by omega) (by omega)]
      congr 1
      have e3 : w * (x / w) + w * (-x / w) = w * (x / w + -x / w) := (Int.mul_add _ _ _).symm
      have k1 : x / w + -x / w < 0 := by
        by_cases k : 0 ≤ x / w + -x / w
        · have := Int.mul_nonneg (by omega : 0 ≤ w) k
          omega
        · omega
      have k2 : -2 < x / w + -x / w := by
        by_cases k : x / w + -x / w ≤ -2
        · have := Int.mul_le_mul_of_nonneg_left k (by omega : 0 ≤ w)
          omega
        · omega
      rw [show x / w + -x / w = -1 by omega] at e3
      omega
theorem rank_eq {w h : Int} {l : List Int} (hm : matB w h l = true) (x y : Int) : spec_l2Rank.f w h l x y = some (rd l (y % h * w + x % w)) ∧ impl_rank.f w h l x y = some (rd l (y % h * w + x % w)) := by
  obtain ⟨h0, h1, h2, h3, h4, h5, _⟩ := mat_spec hm
  have bx := Int.emod_nonneg x (b := w) (by omega)
  have bx' := Int.emod_lt_of_pos x (b := w) (by omega)
  have by_ := Int.emod_nonneg y (b := h) (by omega)
  have by' := Int.emod_lt_of_pos y (b := h) (by omega)
  have hb := idx_lt (w := w) (h := h) (x := x % w) (y := y % h) bx bx' by_ by'
  have hm0 : 0 ≤ y % h * w := Int.mul_nonneg (by omega) (by omega)
  unfold spec_l2Rank.f impl_rank.f
  rw [specMod_ev y h (by omega) (by omega), specMod_ev x w (by omega) (by omega), impl_mod.eq y h (by omega) (by omega), impl_mod.eq x w (by omega) (by omega)]
  simp only [Option.bind_some]
  rw [wid (y % h * w) (by omega) (by omega), wid (y % h * w + x % w) (by omega) (by omega), if_pos hb.1, if_pos (by omega)]
  exact ⟨rfl, rfl⟩
/-! Matrices reversed. -/
theorem mat_len {w h : Int} {l : List Int} (hm : matB w h l = true) : h.toNat * w.toNat = l.length := by
  obtain ⟨h0, h1, h2, h3, h4, h5, _⟩ := mat_spec hm
  have := area_eq (w := w) (h := h) (by omega) (by omega)
  omega
/-! What a matrix is. -/
theorem seenB_iff (n : Int) : ∀ (l : List Int) (s : List Bool), n ≤ (s.length : Int) → (seenB l n s = true ↔ (∀ x ∈ l, 0 ≤ x ∧ x < n ∧ s.getD x.toNat false = false) ∧ l.Nodup) := by
  intro l
  induction l with
  | nil => intro s _; simp [seenB]
  | cons x xs ih =>
    intro s hs
    unfold seenB
    by_cases c0 : x < 0
    · rw [if_pos c0]
      refine ⟨fun h => by simp at h, fun h => ?_⟩
      have := (h.1 x (List.mem_cons_self ..)).1
      omega
    rw [if_neg c0]
    by_cases c1 : x ≥ n
    · rw [if_pos c1]
      refine ⟨fun h => by simp at h, fun h => ?_⟩
      have := (h.1 x (List.mem_cons_self ..)).2.1
      omega
    rw [if_neg c1]
    by_cases c2 : s.getD x.toNat false = true
    · rw [if_pos c2]
      refine ⟨fun h => by simp at h, fun h => ?_⟩
      have := (h.1 x (List.mem_cons_self ..)).2.2
      rw [c2] at this
      cases this
    rw [if_neg c2, ih _ (by rw [List.length_set]; exact hs), List.nodup_cons]
    have key : ∀ y : Int, 0 ≤ y → ((s.set x.toNat true).getD y.toNat false = false ↔ y ≠ x ∧ s.getD y.toNat false = false) := by
      intro y hy
      simp only [List.getD_eq_getElem?_getD, List.getElem?_set]
      by_cases e : y = x
      · subst e
        rw [if_pos rfl, if_pos (by omega)]
        simp
      · rw [if_neg (by omega)]
        simp [e]
    constructor
    · rintro ⟨h1, h2⟩
      refine ⟨fun y hy => ?_, fun hx => ?_, h2⟩
      · rcases List.mem_cons.1 hy with rfl | hy
        · exact ⟨by omega, by omega, by simpa using c2⟩
        · have := h1 y hy
          exact ⟨this.1, this.2.1, ((key y this.1).1 this.2.2).2⟩
      · have := h1 x hx
        exact ((key x this.1).1 this.2.2).1 rfl
    · rintro ⟨h1, h2, h3⟩
      refine ⟨fun y hy => ?_, h3⟩
      have := h1 y (List.mem_cons_of_mem _ hy)
      exact ⟨this.1, this.2.1, (key y this.1).2 ⟨fun e => h2 (e ▸ hy), this.2.2⟩⟩
theorem rep_false (n i : Nat) : (List.replicate n false).getD i false = false := by
  rw [List.getD_eq_getElem?_getD, List.getElem?_replicate]
  split <;> rfl
theorem mat_iff (w h : Int) (l : List Int) : matB w h l = true ↔ celledB w h = true ∧ (l.length : Int) = w * h ∧ (∀ x ∈ l, 0 ≤ x ∧ x < (l.length : Int)) ∧ l.Nodup := by
  unfold matB
  rw [Bool.and_eq_true, Bool.and_eq_true, decide_eq_true_eq]
  constructor
  · rintro ⟨h1, h2, h3⟩
    have := celled_spec h1
    rw [seenB_iff _ _ _ (by rw [List.length_replicate]; omega)] at h3
    exact ⟨h1, h2, fun x hx => ⟨(h3.1 x hx).1, (h3.1 x hx).2.1⟩, h3.2⟩
  · rintro ⟨h1, h2, h3, h4⟩
    have := celled_spec h1
    refine ⟨h1, h2, ?_⟩
    rw [seenB_iff _ _ _ (by rw [List.length_replicate]; omega)]
    exact ⟨fun x hx => ⟨(h3 x hx).1, (h3 x hx).2, rep_false _ _⟩, h4⟩
theorem nodup_iff (l : List Int) : l.Nodup ↔ ∀ i j : Nat, i < l.length → j < l.length → l.getD i 0 = l.getD j 0 → i = j := by
  constructor
  · intro h i j hi hj e
    rw [getD_of_lt l 0 i hi, getD_of_lt l 0 j hj] at e
    exact (List.getElem_inj h).1 e
  · intro h
    rw [List.nodup_iff_pairwise_ne, List.pairwise_iff_getElem]
    intro i j hi hj hij e
    have := h i j hi hj (by rw [getD_of_lt l 0 i hi, getD_of_lt l 0 j hj]; exact e)
    omega
theorem tab_nodup (n : Nat) (f : Nat → Int) (h : ∀ i j : Nat, i < n → j < n → f i = f j → i = j) : ((List.range n).map f).Nodup := by
  rw [nodup_iff, len_tab]
  intro i j hi hj e
  rw [getD_tab _ _ _ hi, getD_tab _ _ _ hj] at e
  exact h i j hi hj e
theorem mat_tab {w h : Int} (n : Nat) (f : Nat → Int) (hc : celledB w h = true) (hn : (n : Int) = w * h) (hb : ∀ i, i < n → 0 ≤ f i ∧ f i < (n : Int)) (hi : ∀ i j : Nat, i < n → j < n → f i = f j → i = j) : matB w h ((List.range n).map f) = true := by
  rw [mat_iff, len_tab]
  refine ⟨hc, hn, fun x hx => ?_, tab_nodup n f hi⟩
  obtain ⟨i, hi, rfl⟩ := List.mem_map.1 hx
  exact hb i (List.mem_range.1 hi)
theorem mat_get {w h : Int} {l : List Int} (hm : matB w h l = true) : celledB w h = true ∧ (l.length : Int) = w * h ∧ (∀ i, i < l.length → 0 ≤ l.getD i 0 ∧ l.getD i 0 < (l.length : Int)) ∧ ∀ i j : Nat, i < l.length → j < l.length → l.getD i 0 = l.getD j 0 → i = j := by
  rw [mat_iff] at hm
  exact ⟨hm.1, hm.2.1, fun i hi => hm.2.2.1 _ (getD_mem l i hi), (nodup_iff l).1 hm.2.2.2⟩
theorem mat_moved {w h : Int} {l : List Int} (hm : matB w h l = true) (s : Nat → Nat) (hs : ∀ i, i < l.length → s i < l.length) (hi : ∀ i j : Nat, i < l.length → j < l.length → s i = s j → i = j) : matB w h ((List.range l.length).map (fun i => l.getD (s i) 0)) = true := by
  obtain ⟨a, b, c, d⟩ := mat_get hm
  exact mat_tab _ _ a b (fun i h => c _ (hs i h)) (fun i j h1 h2 e => hi i j h1 h2 (d _ _ (hs i h1) (hs j h2) e))
theorem mat_swap {w h : Int} {l : List Int} (hm : matB w h l = true) (i k : Nat) (hi : i < l.length) (hk : k < l.length) : matB w h ((l.set i (l.getD k 0)).set k (l.getD i 0)) = true := by
  have e : (l.set i (l.getD k 0)).set k (l.getD i 0) = (List.range l.length).map (fun j => l.getD (if j = k then i else if j = i then k else j) 0) := by
    apply ext_getD (by rw [List.length_set, List.length_set, len_tab])
    intro j hj
    rw [List.length_set, List.length_set] at hj
    rw [getD_tab _ _ _ hj, getD_set _ _ _ _ (by rw [List.length_set]; exact hk), getD_set _ _ _ _ hi]
    by_cases c : j = k
    · rw [if_pos c, if_pos c]
    · rw [if_neg c, if_neg c]
      by_cases c2 : j = i
      · rw [if_pos c2, if_pos c2]
      · rw [if_neg c2, if_neg c2]
  rw [e]
  refine mat_moved hm _ (fun j hj => ?_) (fun a b _ _ q => ?_)
  · split
    · exact hi
    · split
      · exact hk
      · exact hj
  · split at q <;> split at q <;> (try split at q) <;> (try split at q) <;> omega
theorem implLevels_ev (w h : Int) (l : List Int) (w2 h2 : Int) (l2 : List Int) (hl : l.length ≤ 1048576) (hl2 : l2.length ≤ 1048576) : Ev (fun k => impl_LevelsFor.f k w h l w2 h2 l2) (if matB w h l = true ∧ picB w2 h2 l2 255 = true then l2.map (lvlW (l.length : Int)) else []) := by
  have bad : Ev (fun k => impl_LevelsFor.j0 k true w h l w2 h2 l2) [] := Ev.step (fun k => by rw [impl_LevelsFor.j0]) (Ev_pos rfl (Ev.now _))
  unfold impl_LevelsFor.f
  rw [impl_IsMatrix.eq, impl_IsPicture.eq]
  simp only [Option.bind_some]
  by_cases hm : matB w h l = true
  · refine Ev_pos hm ?_
    by_cases hp : picB w2 h2 l2 255 = true
    · rw [if_pos ⟨hm, hp⟩, hp]
      refine Ev.step (fun k => by rw [impl_LevelsFor.j0]) (Ev_neg (by simp) ?_)
      have key : ∀ d i : Nat, i + d = l2.length → Ev (fun k => impl_LevelsFor.l0 k ((l2.take i).map (lvlW (l.length : Int))) l2 (l2.length : Int) (i : Int) w h l) (l2.map (lvlW (l.length : Int))) := by
        intro d
        induction d with
        | zero =>
          intro i hi
          obtain rfl : i = l2.length := by omega
          refine Ev.step (fun k => by rw [impl_LevelsFor.l0]) ?_
          rw [List.take_length]
          exact Ev_neg (by omega) (Ev.now _)
        | succ d ih =>
          intro i hi
          have hlen : ((l2.take i).map (lvlW (l.length : Int))).length = i := by rw [List.length_map, List.length_take]; omega
          refine Ev.step (fun k => ?_) (ih (i + 1) (by omega))
          simp only [impl_LevelsFor.l0]
          rw [if_pos (by omega), if_pos (by omega), if_pos (by omega)]
          unfold impl_level.f
          rw [Option.bind_some, if_pos (by omega), wsucc i (by omega), List.take_succ_eq_append_getElem (by omega), List.map_append, rd_nat, getD_of_lt l2 0 i (by omega)]
          rfl
      exact key l2.length 0 (by omega)
    · rw [if_neg (fun q => hp q.2)]
      rw [Bool.not_eq_true] at hp
      rw [hp]
      exact bad
  · rw [if_neg (fun q => hm q.1)]
    exact Ev_neg hm bad
/-! Doubling. -/
def dblG (w h : Int) (l : List Int) (x y : Int) : Int := wrap64 (wrap64 (4 * rd l (y % h * w + x % w)) + impl_DoubleMatrix.quarter w h x y)
theorem specDbl_ev {w h : Int} {l : List Int} (hm : matB w h l = true) : Ev (fun k => spec_l2Double.f k w h l) (2 * w, 2 * h, gridL (2 * w) (dblG w h l) (4 * l.length)) := by
  obtain ⟨a0, a1, a2, a3, a4, a5, _⟩ := mat_spec hm
  unfold spec_l2Double.f
  rw [wid (2 * w) (by omega) (by omega), wid (2 * h) (by omega) (by omega)]
  have key : ∀ d i : Nat, i + d = 4 * l.length → Ev (fun k => spec_l2Double.l0 k (i : Int) w h l (2 * w) (2 * h) (gridL (2 * w) (dblG w h l) i)) (2 * w, 2 * h, gridL (2 * w) (dblG w h l) (4 * l.length)) := by
    intro d
    induction d with
    | zero =>
      intro i hi
      obtain rfl : i = 4 * l.length := by omega
      exact Ev.step (fun k => by rw [spec_l2Double.l0]) (Ev_neg (by rw [wid _ (by omega) (by omega)]; omega) (Ev.now _))
    | succ d ih =>
      intro i hi
      have nx := ih (i + 1) (by omega)
      have harea : (i : Int) < 2 * w * (2 * h) := by
        have : 2 * w * (2 * h) = 4 * (w * h) := by rw [Int.mul_assoc, Int.mul_left_comm w 2 h]; omega
        omega
      obtain ⟨b0, b1, b2, b3, b4⟩ := cell_bd (w := 2 * w) (h := 2 * h) i (by omega) (by omega) harea
      rw [gridL_succ] at nx
      have ec : cellAt (2 * w) (dblG w h l) i = dblG w h l ((i : Int) % (2 * w)) ((i : Int) / (2 * w)) := rfl
      rw [ec, ← wsucc i (by omega)] at nx
      have hlen := gridL_len (2 * w) (dblG w h l) i
      refine Ev.step (fun k => by rw [spec_l2Double.l0]) (Ev_pos (by rw [wid _ (by omega) (by omega)]; omega) (Ev_neg (by omega) ?_))
      rw [tmod_nat, tdiv_nat i (2 * w) (by omega), wid ((i : Int) / (2 * w)) (by omega) (by omega)]
      generalize (i : Int) % (2 * w) = x at b0 b1 nx ⊢
      generalize (i : Int) / (2 * w) = y at b2 b3 nx ⊢
      have er := (rank_eq hm x y).1
      unfold dblG impl_DoubleMatrix.quarter at nx
      by_cases cx : x < w
      · refine Ev_neg (by omega) (Ev.step (fun k => by rw [spec_l2Double.j1]) (Ev_neg (by simp) (Ev_pos cx (Ev.step (fun k => by rw [spec_l2Double.j2]) ?_))))
        by_cases cy : y < h
        · rw [if_pos cy, if_pos cx] at nx
          refine Ev_neg (by rw [decide_eq_false (by omega)]; simp) (Ev_neg (by omega) ?_)
          rw [er]
          exact Ev_pos (by omega) nx
        · rw [if_neg cy, if_pos cx] at nx
          refine Ev_pos (decide_eq_true (by omega)) ?_
          rw [er]
          exact Ev_pos (by omega) nx
      · refine Ev_pos (by omega) (Ev.step (fun k => by rw [spec_l2Double.j1]) ?_)
        by_cases cy : y < h
        · rw [if_pos cy, if_neg cx] at nx
          refine Ev_pos (decide_eq_true cy) ?_
          rw [er]
          exact Ev_pos (by omega) nx
        · rw [if_neg cy, if_neg cx] at nx
          refine Ev_neg (by rw [decide_eq_false cy]; simp) (Ev_neg cx (Ev.step (fun k => by rw [spec_l2Double.j2]) (Ev_neg (by simp) (Ev_pos (by omega) (Ev_pos (by omega) ?_)))))
          rw [er]
          exact Ev_pos (by omega) nx
  exact key (4 * l.length) 0 (by omega)
theorem celled_dbl {w h : Int} {l : List Int} (hm : matB w h l = true) : celledB (2 * w) (2 * h) = true ↔ ¬ 4 * (l.length : Int) > 256 := by
  obtain ⟨a0, a1, a2, a3, a4, a5, _⟩ := mat_spec hm
  have e : 2 * w * (2 * h) = 4 * (w * h) := by rw [Int.mul_assoc, Int.mul_left_comm w 2 h]; omega
  constructor
  · intro hc
    have := celled_spec hc
    omega
  · intro hc
    have b0 : w * 1 ≤ w * h := Int.mul_le_mul_of_nonneg_left a2 (by omega)
    have b1 : 1 * h ≤ w * h := Int.mul_le_mul_of_nonneg_right a0 (by omega)
    exact decide_eq_true (by omega)
/-- The doubled ranks, in plain numbers. -/
def dblF (w h : Int) (l : List Int) (i : Nat) : Int := 4 * rd l ((i : Int) / (2 * w) % h * w + (i : Int) % (2 * w) % w) + impl_DoubleMatrix.quarter w h ((i : Int) % (2 * w)) ((i : Int) / (2 * w))
theorem quarter_bd (w h x y : Int) : 0 ≤ impl_DoubleMatrix.quarter w h x y ∧ impl_DoubleMatrix.quarter w h x y ≤ 3 := by
  unfold impl_DoubleMatrix.quarter
  split <;> split <;> omega
theorem quarter_inj {w h x y u v : Int} (e : impl_DoubleMatrix.quarter w h x y = impl_DoubleMatrix.quarter w h u v) : (x < w ↔ u < w) ∧ (y < h ↔ v < h) := by
  unfold impl_DoubleMatrix.quarter at e
  by_cases a : x < w <;> by_cases b : y < h <;> by_cases c : u < w <;> by_cases d : v < h <;> simp [a, b, c, d] at e ⊢
theorem rd_mod {w h : Int} {l : List Int} (hm : matB w h l = true) (x y : Int) : 0 ≤ y % h * w + x % w ∧ y % h * w + x % w < (l.length : Int) ∧ 0 ≤ rd l (y % h * w + x % w) ∧ rd l (y % h * w + x % w) < (l.length : Int) := by
  obtain ⟨a0, a1, a2, a3, a4, a5, _⟩ := mat_spec hm
  have b := idx_lt (w := w) (h := h) (x := x % w) (y := y % h) (Int.emod_nonneg _ (by omega)) (Int.emod_lt_of_pos _ (by omega)) (Int.emod_nonneg _ (by omega)) (Int.emod_lt_of_pos _ (by omega))
  have c := ((mat_iff w h l).1 hm).2.2.1 _ (rd_mem l _ b.1 (by omega))
  omega
theorem dbl_tab {w h : Int} {l : List Int} (hm : matB w h l = true) (n : Nat) : gridL (2 * w) (dblG w h l) n = (List.range n).map (dblF w h l) := by
  obtain ⟨a0, a1, a2, a3, a4, a5, _⟩ := mat_spec hm
  rw [gridL_tab]
  refine tab_congr _ _ _ (fun i _ => ?_)
  have r := rd_mod hm ((i : Int) % (2 * w)) ((i : Int) / (2 * w))
  have q := quarter_bd w h ((i : Int) % (2 * w)) ((i : Int) / (2 * w))
  show wrap64 (wrap64 (4 * rd l _) + _) = _
  rw [wid (4 * rd l _) (by omega) (by omega), wid _ (by omega) (by omega)]
  rfl
theorem half_mod (x w : Int) (h0 : 0 ≤ x) (h1 : x < 2 * w) (hw : 0 < w) : x % w = if x < w then x else x - w := by
  by_cases c : x < w
  · rw [if_pos c, Int.emod_eq_of_lt h0 c]
  · rw [if_neg c]
    have : x = (x - w) + w * 1 := by omega
    rw [this, Int.add_mul_emod_self_left, Int.emod_eq_of_lt (by omega) (by omega)]
    omega
theorem mat_dbl {w h : Int} {l : List Int} (hm : matB w h l = true) (hc : ¬ 4 * (l.length : Int) > 256) : matB (2 * w) (2 * h) ((List.range (4 * l.length)).map (dblF w h l)) = true := by
  obtain ⟨a0, a1, a2, a3, a4, a5, _⟩ := mat_spec hm
  obtain ⟨g0, g1, g2, g3⟩ := mat_get hm
  have e : 2 * w * (2 * h) = 4 * (w * h) := by rw [Int.mul_assoc, Int.mul_left_comm w 2 h]; omega
  refine mat_tab _ _ ((celled_dbl hm).2 hc) (by push_cast; omega) (fun i hi => ?_) (fun i j hi hj q => ?_)
  · have r := rd_mod hm ((i : Int) % (2 * w)) ((i : Int) / (2 * w))
    have q := quarter_bd w h ((i : Int) % (2 * w)) ((i : Int) / (2 * w))
    unfold dblF
    push_cast
    omega
  · unfold dblF at q
    obtain ⟨b0, b1, b2, b3, b4⟩ := cell_bd (w := 2 * w) (h := 2 * h) i (by omega) (by omega) (by omega)
    obtain ⟨c0, c1, c2, c3, c4⟩ := cell_bd (w := 2 * w) (h := 2 * h) j (by omega) (by omega) (by omega)
    have ri := rd_mod hm ((i : Int) % (2 * w)) ((i : Int) / (2 * w))
    have rj := rd_mod hm ((j : Int) % (2 * w)) ((j : Int) / (2 * w))
    have mx := half_mod ((i : Int) % (2 * w)) w b0 b1 (by omega)
    have my := half_mod ((i : Int) / (2 * w)) h b2 b3 (by omega)
    have nx := half_mod ((j : Int) % (2 * w)) w c0 c1 (by omega)
    have ny := half_mod ((j : Int) / (2 * w)) h c2 c3 (by omega)
    have x0 := Int.emod_nonneg ((i : Int) % (2 * w)) (b := w) (by omega)
    have x1 := Int.emod_lt_of_pos ((i : Int) % (2 * w)) (b := w) (by omega)
    have y0 := Int.emod_nonneg ((j : Int) % (2 * w)) (b := w) (by omega)
    have y1 := Int.emod_lt_of_pos ((j : Int) % (2 * w)) (b := w) (by omega)
    have inj := g3 ((i : Int) / (2 * w) % h * w + (i : Int) % (2 * w) % w).toNat ((j : Int) / (2 * w) % h * w + (j : Int) % (2 * w) % w).toNat (by omega) (by omega)
    have qi := quarter_bd w h ((i : Int) % (2 * w)) ((i : Int) / (2 * w))
    have qj := quarter_bd w h ((j : Int) % (2 * w)) ((j : Int) / (2 * w))
    have er : rd l ((i : Int) / (2 * w) % h * w + (i : Int) % (2 * w) % w) = rd l ((j : Int) / (2 * w) % h * w + (j : Int) % (2 * w) % w) := by omega
    have eq : impl_DoubleMatrix.quarter w h ((i : Int) % (2 * w)) ((i : Int) / (2 * w)) = impl_DoubleMatrix.quarter w h ((j : Int) % (2 * w)) ((j : Int) / (2 * w)) := by omega
    have ei := inj er
    have e2 : (i : Int) / (2 * w) % h * w + (i : Int) % (2 * w) % w = (j : Int) / (2 * w) % h * w + (j : Int) % (2 * w) % w := by omega
    have d1 := cell_of (w := w) ((i : Int) % (2 * w) % w) ((i : Int) / (2 * w) % h) (by omega) x0 x1
    have d2 := cell_of (w := w) ((j : Int) % (2 * w) % w) ((j : Int) / (2 * w) % h) (by omega) y0 y1
    rw [e2] at d1
    have f1 : (i : Int) % (2 * w) % w = (j : Int) % (2 * w) % w := d1.1.symm.trans d2.1
    have f2 : (i : Int) / (2 * w) % h = (j : Int) / (2 * w) % h := d1.2.symm.trans d2.2
    obtain ⟨p1, p2⟩ := quarter_inj eq
    have k1 : (i : Int) % (2 * w) = (j : Int) % (2 * w) := by
      rw [mx, nx] at f1
      by_cases c : (i : Int) % (2 * w) < w
      · rw [if_pos c, if_pos (p1.1 c)] at f1
        exact f1
      · rw [if_neg c, if_neg (fun q => c (p1.2 q))] at f1
        omega
    have k2 : (i : Int) / (2 * w) = (j : Int) / (2 * w) := by
      rw [my, ny] at f2
      by_cases c : (i : Int) / (2 * w) < h
      · rw [if_pos c, if_pos (p2.1 c)] at f2
        exact f2
      · rw [if_neg c, if_neg (fun q => c (p2.2 q))] at f2
        omega
    rw [k1, k2, c4] at b4
    omega
/-! Bayer's matrices. -/
def bayM : Nat → List Int
  | 0 => [0]
  | k + 1 => (List.range (4 * (bayM k).length)).map (dblF (2 ^ k) (2 ^ k) (bayM k))
theorem bayM_len (k : Nat) : (bayM k).length = 4 ^ k := by
  induction k with
  | zero => rfl
  | succ k ih =>
    show ((List.range (4 * (bayM k).length)).map _).length = _
    rw [List.length_map, List.length_range, ih, Nat.pow_succ, Nat.mul_comm]
theorem four_le (k : Nat) (hk : k < 4) : (4 : Nat) ^ k ≤ 64 := by
  match k, hk with
  | 0, _ => decide
  | 1, _ => decide
  | 2, _ => decide
  | 3, _ => decide
theorem bayM_mat (k : Nat) (hk : k ≤ 4) : matB (2 ^ k) (2 ^ k) (bayM k) = true := by
  induction k with
  | zero => decide
  | succ k ih =>
    have h4 := four_le k (by omega)
    have := mat_dbl (ih (by omega)) (by rw [bayM_len]; omega)
    rw [Int.pow_succ, Int.mul_comm]
    exact this
theorem specBayM_ev (n : Nat) (hn : n ≤ 4) : Ev (fun k => spec_BayerMatrix.f k (n : Int)) (2 ^ n, 2 ^ n, bayM n, true) := by
  unfold spec_BayerMatrix.f
  rw [l1In_eq]
  simp only [Option.bind_some]
  refine Ev_pos (decide_eq_true (by omega)) ?_
  have key : ∀ d i : Nat, i + d = n → Ev (fun k => spec_BayerMatrix.l0 k (d : Int) (2 ^ i) (2 ^ i) (bayM i)) (2 ^ n, 2 ^ n, bayM n, true) := by
    intro d
    induction d with
    | zero =>
      intro i hi
      obtain rfl : i = n := by omega
      exact Ev.step (fun k => by rw [spec_BayerMatrix.l0]) (Ev_neg (by omega) (Ev.now _))
    | succ d ih =>
      intro i hi
      have nx := ih (i + 1) (by omega)
      refine Ev.step (fun k => by rw [spec_BayerMatrix.l0]) (Ev_pos (by omega) ?_)
      have hd := specDbl_ev (bayM_mat i (by omega))
      rw [dbl_tab (bayM_mat i (by omega))] at hd
      refine Ev.bind hd ?_
      rw [wid _ (by omega) (by omega), show ((d + 1 : Nat) : Int) - 1 = (d : Int) by omega]
      have e : (2 : Int) * 2 ^ i = 2 ^ (i + 1) := by rw [Int.pow_succ, Int.mul_comm]
      dsimp only
      rw [e]
      exact nx
  exact key n 0 (by omega)
/-! Sums round about. -/
theorem Ev_eq {α : Type} {x : Option α} {a : α} (h : x = some a) : Ev (fun _ => x) a := ⟨0, fun _ _ => h⟩
/-! Levels. -/
theorem lvl_spec {n v : Int} (h0 : 0 ≤ n) (h1 : n ≤ 256) (v0 : 0 ≤ v) (v1 : v ≤ 255) : 0 ≤ v * n ∧ v * n ≤ 255 * n ∧ 510 * lvlW n v ≤ v * n * 2 + 255 ∧ v * n * 2 + 255 < 510 * lvlW n v + 510 := by
  have p := Int.mul_nonneg v0 h0
  have q := Int.mul_le_mul_of_nonneg_right v1 h0
  unfold lvlW
  rw [wid (v * n) (by omega) (by omega), wid (v * n * 2) (by omega) (by omega), wid (v * n * 2 + 255) (by omega) (by omega), Int.tdiv_eq_ediv_of_nonneg (by omega), wid _ (by omega) (by omega)]
  omega
def rdyM (f : Nat) (a0 : Int) : Bool := match spec_SpiralMatrix.f f a0 with
  | some (a, b, l, c) => a == a0 && (b == a0 && (c && matB a b l))
  | none => false
theorem rdyM_1 : rdyM 5 1 = true := by decide +kernel
theorem rdyM_2 : rdyM 11 2 = true := by decide +kernel
theorem rdyM_3 : rdyM 21 3 = true := by decide +kernel
theorem rdyM_4 : rdyM 35 4 = true := by decide +kernel
theorem rdyM_5 : rdyM 53 5 = true := by decide +kernel
theorem rdyM_all (a : Int) (h0 : 1 ≤ a) (h1 : a ≤ 5) : ∃ f, rdyM f a = true := by
  obtain rfl | rfl | rfl | rfl | rfl : a = 1 ∨ a = 2 ∨ a = 3 ∨ a = 4 ∨ a = 5 := by omega
  · exact ⟨_, rdyM_1⟩
  · exact ⟨_, rdyM_2⟩
  · exact ⟨_, rdyM_3⟩
  · exact ⟨_, rdyM_4⟩
  · exact ⟨_, rdyM_5⟩
theorem spiral_ev (n : Int) (h0 : 1 ≤ n) (h1 : n ≤ 5) : ∃ l : List Int, matB n n l = true ∧ Ev (fun k => spec_SpiralMatrix.f k n) (n, n, l, true) := by
  obtain ⟨f, h⟩ := rdyM_all n h0 h1
  unfold rdyM at h
  split at h
  · rename_i a b l c e
    simp only [Bool.and_eq_true, beq_iff_eq] at h
    obtain ⟨rfl, rfl, rfl, h5⟩ := h
    exact ⟨l, h5, Ev.of (fun k => spec_SpiralMatrix.mono _ k) e⟩
  · exact absurd h (by simp)
theorem rows_mat {w h : Int} (hc : celledB w h = true) : matB w h (gridL w (fun x y => y * w + x) (h.toNat * w.toNat)) = true := by
  obtain ⟨h0, h1, h2, h3, h4⟩ := celled_spec hc
  have hn := area_eq (w := w) (h := h) (by omega) (by omega)
  rw [rows_tab _ (by omega)]
  exact mat_tab _ _ hc hn (fun i hi => by omega) (fun i j _ _ e => by omega)
theorem shuffle_ok (s : List Int) (hl : s.length ≤ maxLen) (w h : Int) : ∀ (i : Nat) (l : List Int) (a b : Int), matB w h l = true → 0 ≤ a → i < l.length → i ≤ 255 → ∃ (L : List Int) (a2 b2 : Int), matB w h L = true ∧ Ev (fun k => spec_l2Draw.l0 k (i : Int) s a b w h l) (w, h, L, a2, b2) := by
  intro i
  induction i with
  | zero =>
    intro l a b hm ha hi h2
    exact ⟨l, a, b, hm, Ev.step (fun k => by rw [spec_l2Draw.l0]) (Ev_neg (by simp) (Ev.now _))⟩
  | succ i ih =>
    intro l a b hm ha hi h2
    obtain ⟨v, a2, b2, e, v0, v1, ha2⟩ := below_ok s a b ((i : Int) + 1 + 1) ha hl (by omega) (by omega)
    obtain ⟨m, rfl⟩ : ∃ m : Nat, v = (m : Int) := ⟨v.toNat, by omega⟩
    obtain ⟨L, a3, b3, h3, h4⟩ := ih _ a2 b2 (mat_swap hm (i + 1) m hi (by omega)) ha2 (by rw [List.length_set, List.length_set]; omega) (by omega)
    refine ⟨L, a3, b3, h3, Ev.step (fun k => by rw [spec_l2Draw.l0]) (Ev_pos (by omega) ?_)⟩
    rw [wid (((i + 1 : Nat) : Int) + 1) (by omega) (by omega), wid (((i + 1 : Nat) : Int) - 1) (by omega) (by omega), Int.natCast_add i 1, show ((1 : Nat) : Int) = 1 from rfl, e]
    simp only [Option.bind_some]
    refine Ev_pos (by omega) (Ev_pos (by omega) (Ev_pos (by omega) (Ev_pos (by omega) ?_)))
    rw [show (i : Int) + 1 - 1 = (i : Int) by omega, show (i : Int) + 1 = ((i + 1 : Nat) : Int) by omega, rd_nat, rd_nat, Int.toNat_natCast, Int.toNat_natCast]
    exact h4
theorem pow_le8 (n : Nat) (hn : n ≤ 3) : (2 : Int) ^ n ≤ 8 := by
  match n, hn with
  | 0, _ => decide
  | 1, _ => decide
  | 2, _ => decide
  | 3, _ => decide
theorem l2Draw_ok (s : List Int) (a b : Int) (ha : 0 ≤ a) (hl : s.length ≤ maxLen) : ∃ (w h : Int) (l : List Int) (a2 b2 : Int), matB w h l = true ∧ w ≤ 8 ∧ h ≤ 8 ∧ Ev (fun k => spec_l2Draw.f k s a b) (w, h, l, a2, b2) := by
  obtain ⟨q, a2, b2, e1, q0, q1, ha2⟩ := below_ok s a b 4 ha hl (by omega) (by omega)
  unfold spec_l2Draw.f
  simp only [e1, Option.bind_some]
  by_cases c0 : q = 0
  · obtain ⟨t, a3, b3, e2, t0, t1, ha3⟩ := below_ok s a2 b2 4 ha2 hl (by omega) (by omega)
    obtain ⟨n, rfl⟩ : ∃ n : Nat, t = (n : Int) := ⟨t.toNat, by omega⟩
    refine ⟨2 ^ n, 2 ^ n, bayM n, a3, b3, bayM_mat n (by omega), pow_le8 n (by omega), pow_le8 n (by omega), Ev_pos c0 ?_⟩
    simp only [e2, Option.bind_some]
    exact Ev.bind (specBayM_ev n (by omega)) (Ev.now _)
  · by_cases c1 : q = 1
    · obtain ⟨t, a3, b3, e2, t0, t1, ha3⟩ := below_ok s a2 b2 5 ha2 hl (by omega) (by omega)
      obtain ⟨l, hm, hs⟩ := spiral_ev (1 + t) (by omega) (by omega)
      refine ⟨1 + t, 1 + t, l, a3, b3, hm, by omega, by omega, Ev_neg c0 (Ev_pos c1 ?_)⟩
      simp only [e2, Option.bind_some]
      rw [wid (1 + t) (by omega) (by omega)]
      exact Ev.bind hs (Ev.now _)
    · obtain ⟨t, a3, b3, e2, t0, t1, ha3⟩ := below_ok s a2 b2 5 ha2 hl (by omega) (by omega)
      obtain ⟨u, a4, b4, e3, u0, u1, ha4⟩ := below_ok s a3 b3 5 ha3 hl (by omega) (by omega)
      have ar : (1 + t) * (1 + u) ≤ 5 * 5 := Int.le_trans (Int.mul_le_mul_of_nonneg_right (show 1 + t ≤ 5 by omega) (by omega)) (Int.mul_le_mul_of_nonneg_left (by omega) (by omega))
      have ar2 : 0 < (1 + t) * (1 + u) := Int.mul_pos (by omega) (by omega)
      have hc : celledB (1 + t) (1 + u) = true := decide_eq_true ⟨by omega, by omega, by omega, by omega, by omega⟩
      have hr := specRow_ev (1 + t) (1 + u)
      rw [if_pos hc] at hr
      have hm := rows_mat hc
      have hlen := mat_len hm
      have hn := area_eq (w := 1 + t) (h := 1 + u) (by omega) (by omega)
      obtain ⟨L, a5, b5, h3, h4⟩ := shuffle_ok s hl (1 + t) (1 + u) ((gridL (1 + t) (fun x y => y * (1 + t) + x) ((1 + u).toNat * (1 + t).toNat)).length - 1) _ a4 b4 hm ha4 (by omega) (by omega)
      refine ⟨1 + t, 1 + u, L, a5, b5, h3, by omega, by omega, Ev_neg c0 (Ev_neg c1 ?_)⟩
      simp only [e2, e3, Option.bind_some]
      rw [wid (1 + t) (by omega) (by omega), wid (1 + u) (by omega) (by omega)]
      refine Ev.bind hr ?_
      dsimp only
      rw [wid _ (by omega) (by omega), show ((gridL (1 + t) (fun x y => y * (1 + t) + x) ((1 + u).toNat * (1 + t).toNat)).length : Int) - 1 = (((gridL (1 + t) (fun x y => y * (1 + t) + x) ((1 + u).toNat * (1 + t).toNat)).length - 1 : Nat) : Int) by omega]
      exact h4
theorem MakeMatrix_ok (s : List Int) (hl : s.length ≤ maxLen) : ∃ (w h : Int) (l : List Int), matB w h l = true ∧ w ≤ 8 ∧ h ≤ 8 ∧ sizedB w h = true ∧ Ev (fun k => spec_MakeMatrix.f k s) (w, h, l) := by
  obtain ⟨b, hb⟩ := new_ok s hl
  obtain ⟨w, h, l, a2, b2, h1, h2, h3, h4⟩ := l2Draw_ok s 0 b (by omega) hl
  obtain ⟨a0, a1, a2, a3, _⟩ := mat_spec h1
  refine ⟨w, h, l, h1, h2, h3, sized_small a0 (by omega) a2 (by omega), ?_⟩
  unfold spec_MakeMatrix.f
  exact Ev.bind hb (Ev.bind h4 (Ev.now _))
theorem levelOf_eq {w h : Int} {l : List Int} (hm : matB w h l = true) (v : Int) (v0 : 0 ≤ v) (v1 : v ≤ 255) : impl_LevelOf.f w h l v = some (lvlW (l.length : Int) v) := by
  unfold impl_LevelOf.f impl_level.f
  rw [impl_IsMatrix.eq]
  simp only [Option.bind_some]
  rw [if_pos hm, if_neg (by omega), if_neg (by omega)]
  rfl
/-! For the laws on matrices. -/
theorem levelOf_ex {w h : Int} {l : List Int} (hm : matB w h l = true) (v : Int) (v0 : 0 ≤ v) (v1 : v ≤ 255) : ∃ V : Int, lvlW (l.length : Int) v = V ∧ impl_LevelOf.f w h l v = some V ∧ 510 * V ≤ v * (l.length : Int) * 2 + 255 ∧ v * (l.length : Int) * 2 + 255 < 510 * V + 510 := by
  have hsz := (mat_spec hm).2.2.2.2
  have s := lvl_spec (n := (l.length : Int)) (v := v) (by omega) (by omega) v0 v1
  exact ⟨_, rfl, levelOf_eq hm v v0 v1, s.2.2.1, s.2.2.2⟩
/-- The law FnLevels: levels grow with the ink from none to all cells, and the levels of a picture are those of its amounts; for the inputs that the law draws. -/
theorem FnLevels (l0 : List Int) (h0_ : l0.length ≤ maxLen) (h1_ : l0.length * 1 ≤ 140737488351232) (h2_ : (∀ x ∈ l0, (Lit.int .u8 x).wf = true)) :
    ∃ k, P.laws_FnLevels.f k l0 = some true := by
  refine Ev.rounds ?_
  unfold laws_FnLevels.f
  by_cases hl : (l0.length : Int) > 1048576
  · exact Ev_pos hl (Ev.now _)
  refine Ev_neg hl ?_
  obtain ⟨w, h, l, hm, hw, hh, hs, HM⟩ := MakeMatrix_ok l0 h0_
  obtain ⟨a, ea, a0, a1⟩ := at_ok l0 1 (by omega) (by omega) (by omega) (u8_bd h2_)
  obtain ⟨L, hL, HF⟩ := fresh_ok l0 3 (by omega)
  obtain ⟨u, v, p, hp, hu, hv, HP⟩ := MakePicture_ok L 6 hL (by omega) (by omega)
  obtain ⟨g0, g1, g2, g3, g4, g5, g6⟩ := pic_spec hp
  have sp := pic_small hp
  obtain ⟨_, _, _, _, z0, z1, _⟩ := mat_spec hm
  obtain ⟨V0, _, e0, p0, q0⟩ := levelOf_ex hm 0 (by omega) (by omega)
  obtain ⟨V1, _, e1, p1, q1⟩ := levelOf_ex hm 255 (by omega) (by omega)
  obtain ⟨V2, _, e2, p2, q2⟩ := levelOf_ex hm a a0 a1
  obtain ⟨V3, _, e3, p3, q3⟩ := levelOf_ex hm (255 - a) (by omega) (by omega)
  have m0 : 0 ≤ a * (l.length : Int) := Int.mul_nonneg a0 (by omega)
  have m1 : a * (l.length : Int) ≤ 255 * (l.length : Int) := Int.mul_le_mul_of_nonneg_right a1 (by omega)
  rw [Int.sub_mul] at p3 q3
  refine Ev.bind HM (Ev.bind (Ev_eq ea) (Ev.bind (Ev_eq e0) (Ev_pos (by omega) (Ev.bind (Ev_eq e1) (Ev_pos (by dsimp only; omega) (Ev.bind (Ev_eq e2) ?_))))))
  rw [wid (255 - a) (by omega) (by omega)]
  refine Ev.bind (Ev_eq e3) ?_
  rw [wid (V2 + V3) (by omega) (by omega), decide_eq_false (by dsimp only; omega)]
  have j1 : Ev (fun k => laws_FnLevels.j1 k l0 false w h l) true := by
    refine Ev.step (fun k => by rw [laws_FnLevels.j1]) (Ev_neg (by simp) (Ev.bind HF (Ev.bind HP ?_)))
    have hlv := implLevels_ev w h l u v p (by omega) (by omega)
    rw [if_pos ⟨hm, hp⟩] at hlv
    refine Ev.bind hlv (Ev_pos (by rw [List.length_map]) ?_)
    have key : ∀ d i : Nat, i + d = p.length → Ev (fun k => laws_FnLevels.l0 k (p.map (lvlW (l.length : Int))) p (p.length : Int) (i : Int) w h l) true := by
      intro d
      induction d with
      | zero =>
        intro i hi
        exact Ev.step (fun k => by rw [laws_FnLevels.l0]) (Ev_neg (by omega) (Ev.now _))
      | succ d ih =>
        intro i hi
        have nx := ih (i + 1) (by omega)
        have hb := g6 _ (getD_mem p i (by omega))
        have ep : (p.map (lvlW (l.length : Int))).getD i 0 = lvlW (l.length : Int) (p.getD i 0) := by
          rw [getD_of_lt _ 0 i (by rw [List.length_map]; omega), List.getElem_map, getD_of_lt p 0 i (by omega)]
        refine Ev.step (fun k => by rw [laws_FnLevels.l0]) (Ev_pos (by omega) (Ev_pos (by omega) (Ev_pos (by omega) (Ev_pos (by rw [List.length_map]; omega) ?_))))
        rw [rd_nat, rd_nat, wsucc i (by omega)]
        exact Ev.bind (Ev_eq (levelOf_eq hm _ hb.1 hb.2)) (Ev_pos ep nx)
    exact key p.length 0 (by omega)
  refine Ev.step (fun k => by rw [laws_FnLevels.j0]) (Ev_neg (by simp) ?_)
  by_cases c : a > 0
  · refine Ev_pos c ?_
    obtain ⟨V4, _, e4, p4, q4⟩ := levelOf_ex hm (a - 1) (by omega) (by omega)
    rw [Int.sub_mul] at p4 q4
    rw [wid (a - 1) (by omega) (by omega)]
    refine Ev.bind (Ev_eq e4) (Ev.bind (Ev_eq e2) ?_)
    rw [decide_eq_false (by omega)]
    exact j1
  · exact Ev_neg c j1
end Go.Proofs.Ytdlehfnlibddcaa.Q
