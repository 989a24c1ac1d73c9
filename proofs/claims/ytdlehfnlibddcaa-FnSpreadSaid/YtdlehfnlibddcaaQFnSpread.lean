/- The law FnSpread: the dots of a matrix of Bayer at a level that is a power of 4 are spread as widely as a grid of them; for the inputs that the law draws. -/
import Derived.Test.YtdlehfnlibddcaaFimplBayerMatrix
import Derived.Test.YtdlehfnlibddcaaFimplCellsBelow
import Derived.Test.YtdlehfnlibddcaaFimplDoubleMatrix
import Derived.Test.YtdlehfnlibddcaaFimplIsMatrix
import Derived.Test.YtdlehfnlibddcaaFimplSpreadOf
import Derived.Test.YtdlehfnlibddcaaFimplcelled
import Derived.Test.YtdlehfnlibddcaaFimplfarness
import Derived.Test.YtdlehfnlibddcaaFimplmod
import Derived.Test.YtdlehfnlibddcaaFlawsFnSpread
import Derived.Test.YtdlehfnlibddcaaFlawsat
import Derived.Test.YtdlehfnlibddcaaFlawspower
import Derived.Test.YtdlehfnlibddcaaFpre
import Derived.Test.YtdlehfnlibddcaaFspecl2Far
import Derived.Test.YtdlehfnlibddcaaFspecl2Mod
import Derived.Test.YtdlehfnlibddcaaFspecl2Round
import Derived.Test.YtdlehfnlibddcaaP0
namespace Go.Proofs.Ytdlehfnlibddcaa.Q
open Go.RowKit Go.Proofs.Ytdlehfnlibddcaa.P Go.Proofs.YtdlehfnlibddcaaW.PrintWords
set_option linter.unusedVariables false
set_option linter.unusedSimpArgs false
theorem wsucc (i : Nat) (h : i < 9223372036854775807) : wrap64 ((i : Int) + 1) = ((i + 1 : Nat) : Int) := by unfold wrap64; omega
theorem wid (x : Int) (h0 : -9223372036854775808 ≤ x) (h1 : x ≤ 9223372036854775807) : wrap64 x = x := by unfold wrap64; omega
theorem rd_nat (l : List Int) (i : Nat) : rd l (i : Int) = l.getD i 0 := by unfold rd; rw [Int.toNat_natCast]
theorem getD_of_lt {α : Type} (l : List α) (d : α) (i : Nat) (h : i < l.length) : l.getD i d = l[i] := by simp [List.getD_eq_getElem?_getD, List.getElem?_eq_getElem h]
theorem getD_mem (l : List Int) (i : Nat) (h : i < l.length) : l.getD i 0 ∈ l := by rw [getD_of_lt l 0 i h]; exact List.getElem_mem h
theorem ext_getD {a b : List Int} (hl : a.length = b.length) (h : ∀ i, i < a.length → a.getD i 0 = b.getD i 0) : a = b := by
  apply List.ext_getElem hl
  intro i h1 h2
  have := h i h1
  rwa [getD_of_lt a 0 i h1, getD_of_lt b 0 i h2] at this
theorem getD_tab (n : Nat) (f : Nat → Int) (j : Nat) (h : j < n) : ((List.range n).map f).getD j 0 = f j := by
  simp [List.getD_eq_getElem?_getD, List.getElem?_map, List.getElem?_range h]
theorem len_tab (n : Nat) (f : Nat → Int) : ((List.range n).map f).length = n := by simp
theorem tab_congr (n : Nat) (f g : Nat → Int) (h : ∀ i, i < n → f i = g i) : (List.range n).map f = (List.range n).map g :=
  List.map_congr_left (fun i hi => h i (List.mem_range.1 hi))
theorem tab_self (l : List Int) : (List.range l.length).map (fun i => l.getD i 0) = l := by
  apply ext_getD (by simp)
  intro i hi
  rw [len_tab] at hi
  rw [getD_tab _ _ _ hi]
theorem Ev_pos {α : Type} {c : Prop} [Decidable c] {f g : Nat → Option α} {r : α} (hc : c) (h : Ev f r) : Ev (fun k => if c then f k else g k) r := Ev.congr (fun k => if_pos hc) h
theorem Ev_neg {α : Type} {c : Prop} [Decidable c] {f g : Nat → Option α} {r : α} (hc : ¬ c) (h : Ev g r) : Ev (fun k => if c then f k else g k) r := Ev.congr (fun k => if_neg hc) h
theorem gridL_tab (w : Int) (f : Int → Int → Int) (n : Nat) : gridL w f n = (List.range n).map fun i => cellAt w f i := rfl
theorem area_eq {w h : Int} (h0 : 0 ≤ w) (h1 : 0 ≤ h) : ((h.toNat * w.toNat : Nat) : Int) = w * h := by
  rw [Int.natCast_mul, Int.toNat_of_nonneg h0, Int.toNat_of_nonneg h1, Int.mul_comm]
theorem tdiv_nat (i : Nat) (w : Int) (h : 0 < w) : Int.tdiv (i : Int) w = (i : Int) / w := Int.tdiv_eq_ediv_of_nonneg (by omega)
theorem tmod_nat (i : Nat) (w : Int) : Int.tmod (i : Int) w = (i : Int) % w := Int.tmod_eq_emod_of_nonneg (by omega)
theorem cell_bd {w h : Int} (i : Nat) (h0 : 0 < w) (h1 : 0 < h) (hi : (i : Int) < w * h) : 0 ≤ (i : Int) % w ∧ (i : Int) % w < w ∧ 0 ≤ (i : Int) / w ∧ (i : Int) / w < h ∧ (i : Int) / w * w + (i : Int) % w = i := by
  refine ⟨Int.emod_nonneg _ (by omega), Int.emod_lt_of_pos _ h0, Int.ediv_nonneg (by omega) (by omega), ?_, ?_⟩
  · exact Int.ediv_lt_of_lt_mul h0 (by rw [Int.mul_comm]; exact hi)
  · have := Int.mul_ediv_add_emod (i : Int) w
    rw [Int.mul_comm] at this
    exact this
theorem cell_of {w : Int} (x y : Int) (h0 : 0 < w) (hx0 : 0 ≤ x) (hx : x < w) : (y * w + x) % w = x ∧ (y * w + x) / w = y := by
  constructor
  · rw [Int.add_comm, Int.add_mul_emod_self_right, Int.emod_eq_of_lt hx0 hx]
  · rw [Int.add_comm, Int.add_mul_ediv_right _ _ (by omega), Int.ediv_eq_zero_of_lt hx0 hx, Int.zero_add]
theorem sized_small {w h : Int} (h0 : 1 ≤ w) (h1 : w ≤ 16) (h2 : 1 ≤ h) (h3 : h ≤ 16) : sizedB w h = true := by
  have e : w * h ≤ 16 * 16 := Int.le_trans (Int.mul_le_mul_of_nonneg_right h1 (by omega)) (Int.mul_le_mul_of_nonneg_left h3 (by omega))
  exact decide_eq_true ⟨h0, by omega, h2, by omega, by omega⟩
theorem at_ok (s : List Int) (n : Int) (hl : s.length ≤ 1048576) (h0 : 0 ≤ n) (h1 : n ≤ 100) (hx : ∀ x ∈ s, 0 ≤ x ∧ x ≤ 255) : ∃ v : Int, laws_at.f s n = some v ∧ 0 ≤ v ∧ v ≤ 255 := by
  unfold laws_at.f
  by_cases h : n < (s.length : Int)
  · rw [if_pos h, if_pos h0]
    obtain ⟨m, rfl⟩ : ∃ m : Nat, n = (m : Int) := ⟨n.toNat, by omega⟩
    rw [rd_nat]
    have := hx _ (getD_mem s m (by omega))
    rw [wid _ (by omega) (by omega)]
    exact ⟨_, rfl, this.1, this.2⟩
  · rw [if_neg h, wid (n * 37) (by omega) (by omega), wid ((s.length : Int) * 11) (by omega) (by omega), wid _ (by omega) (by omega)]
    refine ⟨_, rfl, Int.tmod_nonneg _ (by omega), ?_⟩
    have := Int.tmod_lt_of_pos (n * 37 + (s.length : Int) * 11) (b := 256) (by omega)
    omega
theorem grid_map (w : Int) (g : Int → Int) (l : List Int) (n : Nat) (hn : l.length = n) (h0 : 0 < w) : gridL w (fun x y => g (rd l (y * w + x))) n = l.map g := by
  subst hn
  rw [gridL_tab]
  have : l.map g = ((List.range l.length).map (fun i => l.getD i 0)).map g := by rw [tab_self]
  rw [this, List.map_map]
  refine List.map_congr_left (fun i hi => ?_)
  show g (rd l ((i : Int) / w * w + (i : Int) % w)) = g (l.getD i 0)
  have := Int.mul_ediv_add_emod (i : Int) w
  rw [Int.mul_comm] at this
  rw [this, rd_nat]
theorem u8_bd {l : List Int} (h : ∀ x ∈ l, (Lit.int .u8 x).wf = true) : ∀ x ∈ l, 0 ≤ x ∧ x ≤ 255 := by
  intro x hx
  have := h x hx
  simp [Lit.wf] at this
  have e1 : IntKind.u8.min = 0 := rfl
  have e2 : IntKind.u8.max = 255 := rfl
  omega
/-! Ranks. -/
theorem specMod_ev (x w : Int) (hw : 0 < w) (hw2 : w ≤ 1000000000000) : spec_l2Mod.f x w = some (x % w) := by
  have b0 := Int.emod_nonneg x (b := w) (by omega)
  have b1 := Int.emod_lt_of_pos x hw
  unfold spec_l2Mod.f
  rw [if_neg (by omega)]
  by_cases hx : 0 ≤ x
  · rw [Int.tmod_eq_emod_of_nonneg hx, if_neg (by omega)]
  · have e : Int.tmod x w = -((-x) % w) := by
      rw [← Int.tmod_eq_emod_of_nonneg (by omega : 0 ≤ -x), Int.neg_tmod, Int.neg_neg]
    have c0 := Int.emod_nonneg (-x) (b := w) (by omega)
    have c1 := Int.emod_lt_of_pos (-x) hw
    rw [e]
    have d1 := Int.mul_ediv_add_emod x w
    have d2 := Int.mul_ediv_add_emod (-x) w
    by_cases hz : (-x) % w = 0
    · rw [hz, if_neg (by omega)]
      have : x % w = 0 := Int.emod_eq_zero_of_dvd ((Int.dvd_neg.1 (Int.dvd_of_emod_eq_zero hz)))
      rw [this]
      rfl
    · rw [if_pos (by omega), wid _ (by omega) (by omega)]
      congr 1
      have e3 : w * (x / w) + w * (-x / w) = w * (x / w + -x / w) := (Int.mul_add _ _ _).symm
      have k1 : x / w + -x / w < 0 := by
        by_cases k : 0 ≤ x / w + -x / w
        · have := Int.mul_nonneg (by omega : 0 ≤ w) k
          omega
        · omega
      have k2 : -2 < x / w + -x / w := by
        by_cases k : x / w + -x / w ≤ -2
        · have := Int.mul_le_mul_of_nonneg_left k (by omega : 0 ≤ w)
          omega
        · omega
      rw [show x / w + -x / w = -1 by omega] at e3
      omega
theorem sq_mono {s t : Int} (h0 : 0 ≤ s) (h1 : s ≤ t) : s * s ≤ t * t := Int.le_trans (Int.mul_le_mul_of_nonneg_right h1 h0) (Int.mul_le_mul_of_nonneg_left h1 (by omega))
/-! Matrices reversed. -/
theorem mat_len {w h : Int} {l : List Int} (hm : matB w h l = true) : h.toNat * w.toNat = l.length := by
  obtain ⟨h0, h1, h2, h3, h4, h5, _⟩ := mat_spec hm
  have := area_eq (w := w) (h := h) (by omega) (by omega)
  omega
theorem grid_modmap {w h : Int} {l : List Int} (g : Int → Int) (hm : matB w h l = true) : gridL w (fun x y => g (rd l (y % h * w + x % w))) (h.toNat * w.toNat) = l.map g := by
  obtain ⟨h0, h1, h2, h3, h4, h5, _⟩ := mat_spec hm
  rw [mat_len hm, ← grid_map w g l l.length rfl (by omega), gridL_tab, gridL_tab]
  refine tab_congr _ _ _ (fun i hi => ?_)
  obtain ⟨b0, b1, b2, b3, b4⟩ := cell_bd (w := w) (h := h) i (by omega) (by omega) (by omega)
  show g (rd l ((i : Int) / w % h * w + (i : Int) % w % w)) = g (rd l ((i : Int) / w * w + (i : Int) % w))
  rw [Int.emod_eq_of_lt b2 b3, Int.emod_eq_of_lt b0 b1]
/-! What a matrix is. -/
theorem seenB_iff (n : Int) : ∀ (l : List Int) (s : List Bool), n ≤ (s.length : Int) → (seenB l n s = true ↔ (∀ x ∈ l, 0 ≤ x ∧ x < n ∧ s.getD x.toNat false = false) ∧ l.Nodup) := by
  intro l
  induction l with
  | nil => intro s _; simp [seenB]
  | cons x xs ih =>
    intro s hs
    unfold seenB
    by_cases c0 : x < 0
    · rw [if_pos c0]
      refine ⟨fun h => by simp at h, fun h => ?_⟩
      have := (h.1 x (List.mem_cons_self ..)).1
      omega
    rw [if_neg c0]
    by_cases c1 : x ≥ n
    · rw [if_pos c1]
      refine ⟨fun h => by simp at h, fun h => ?_⟩
      have := (h.1 x (List.mem_cons_self ..)).2.1
      omega
    rw [if_neg c1]
    by_cases c2 : s.getD x.toNat false = true
    · rw [if_pos c2]
      refine ⟨fun h => by simp at h, fun h => ?_⟩
      have := (h.1 x (List.mem_cons_self ..)).2.2
      rw [c2] at this
      cases this
    rw [if_neg c2, ih _ (by rw [List.length_set]; exact hs), List.nodup_cons]
    have key : ∀ y : Int, 0 ≤ y → ((s.set x.toNat true).getD y.toNat false = false ↔ y ≠ x ∧ s.getD y.toNat false = false) := by
      intro y hy
      simp only [List.getD_eq_getElem?_getD, List.getElem?_set]
      by_cases e : y = x
      · subst e
        rw [if_pos rfl, if_pos (by omega)]
        simp
      · rw [if_neg (by omega)]
        simp [e]
    constructor
    · rintro ⟨h1, h2⟩
      refine ⟨fun y hy => ?_, fun hx => ?_, h2⟩
      · rcases List.mem_cons.1 hy with rfl | hy
        · exact ⟨by omega, by omega, by simpa using c2⟩
        · have := h1 y hy
          exact ⟨this.1, this.2.1, ((key y this.1).1 this.2.2).2⟩
      · have := h1 x hx
        exact ((key x this.1).1 this.2.2).1 rfl
    · rintro ⟨h1, h2, h3⟩
      refine ⟨fun y hy => ?_, h3⟩
      have := h1 y (List.mem_cons_of_mem _ hy)
      exact ⟨this.1, this.2.1, (key y this.1).2 ⟨fun e => h2 (e ▸ hy), this.2.2⟩⟩
theorem rep_false (n i : Nat) : (List.replicate n false).getD i false = false := by
  rw [List.getD_eq_getElem?_getD, List.getElem?_replicate]
  split <;> rfl
theorem mat_iff (w h : Int) (l : List Int) : matB w h l = true ↔ celledB w h = true ∧ (l.length : Int) = w * h ∧ (∀ x ∈ l, 0 ≤ x ∧ x < (l.length : Int)) ∧ l.Nodup := by
  unfold matB
  rw [Bool.and_eq_true, Bool.and_eq_true, decide_eq_true_eq]
  constructor
  · rintro ⟨h1, h2, h3⟩
    have := celled_spec h1
    rw [seenB_iff _ _ _ (by rw [List.length_replicate]; omega)] at h3
    exact ⟨h1, h2, fun x hx => ⟨(h3.1 x hx).1, (h3.1 x hx).2.1⟩, h3.2⟩
  · rintro ⟨h1, h2, h3, h4⟩
    have := celled_spec h1
    refine ⟨h1, h2, ?_⟩
    rw [seenB_iff _ _ _ (by rw [List.length_replicate]; omega)]
    exact ⟨fun x hx => ⟨(h3 x hx).1, (h3 x hx).2, rep_false _ _⟩, h4⟩
theorem nodup_iff (l : List Int) : l.Nodup ↔ ∀ i j : Nat, i < l.length → j < l.length → l.getD i 0 = l.getD j 0 → i = j := by
  constructor
  · intro h i j hi hj e
    rw [getD_of_lt l 0 i hi, getD_of_lt l 0 j hj] at e
    exact (List.getElem_inj h).1 e
  · intro h
    rw [List.nodup_iff_pairwise_ne, List.pairwise_iff_getElem]
    intro i j hi hj hij e
    have := h i j hi hj (by rw [getD_of_lt l 0 i hi, getD_of_lt l 0 j hj]; exact e)
    omega
theorem tab_nodup (n : Nat) (f : Nat → Int) (h : ∀ i j : Nat, i < n → j < n → f i = f j → i = j) : ((List.range n).map f).Nodup := by
  rw [nodup_iff, len_tab]
  intro i j hi hj e
  rw [getD_tab _ _ _ hi, getD_tab _ _ _ hj] at e
  exact h i j hi hj e
theorem mat_tab {w h : Int} (n : Nat) (f : Nat → Int) (hc : celledB w h = true) (hn : (n : Int) = w * h) (hb : ∀ i, i < n → 0 ≤ f i ∧ f i < (n : Int)) (hi : ∀ i j : Nat, i < n → j < n → f i = f j → i = j) : matB w h ((List.range n).map f) = true := by
  rw [mat_iff, len_tab]
  refine ⟨hc, hn, fun x hx => ?_, tab_nodup n f hi⟩
  obtain ⟨i, hi, rfl⟩ := List.mem_map.1 hx
  exact hb i (List.mem_range.1 hi)
theorem mat_get {w h : Int} {l : List Int} (hm : matB w h l = true) : celledB w h = true ∧ (l.length : Int) = w * h ∧ (∀ i, i < l.length → 0 ≤ l.getD i 0 ∧ l.getD i 0 < (l.length : Int)) ∧ ∀ i j : Nat, i < l.length → j < l.length → l.getD i 0 = l.getD j 0 → i = j := by
  rw [mat_iff] at hm
  exact ⟨hm.1, hm.2.1, fun i hi => hm.2.2.1 _ (getD_mem l i hi), (nodup_iff l).1 hm.2.2.2⟩
/-! The spread of dots. -/
def rndQ (t n : Int) : Int := mn (t % n) (n - t % n)
def farQ (w h i k : Int) : Int := rndQ (i % w - k % w) w * rndQ (i % w - k % w) w + rndQ (i / w - k / w) h * rndQ (i / w - k / w) h
theorem rndQ_bd (t n : Int) (h : 0 < n) : 0 ≤ rndQ t n ∧ rndQ t n ≤ n := by
  have a := Int.emod_nonneg t (b := n) (by omega)
  have b := Int.emod_lt_of_pos t h
  unfold rndQ mn
  split <;> omega
theorem rndQ_sq {t n : Int} (h : 0 < n) (h2 : n ≤ 256) : 0 ≤ rndQ t n * rndQ t n ∧ rndQ t n * rndQ t n ≤ 65536 := by
  obtain ⟨a, b⟩ := rndQ_bd t n h
  have c := Int.mul_nonneg a a
  have d := Int.le_trans (Int.mul_le_mul_of_nonneg_right (show rndQ t n ≤ 256 by omega) a) (Int.mul_le_mul_of_nonneg_left (show rndQ t n ≤ 256 by omega) (show (0 : Int) ≤ 256 by omega))
  omega
theorem far_eq {w h : Int} (l : List Int) (i k : Nat) (h0 : 0 < w) (h1 : w ≤ 256) (h2 : 0 < h) (h3 : h ≤ 256) (hi : (i : Int) < w * h) (hk : (k : Int) < w * h) : impl_farness.f w h l i k = some (farQ w h i k) ∧ spec_l2Far.f w h l i k = some (farQ w h i k) := by
  obtain ⟨a0, a1, a2, a3, a4⟩ := cell_bd (w := w) (h := h) i h0 h2 hi
  obtain ⟨b0, b1, b2, b3, b4⟩ := cell_bd (w := w) (h := h) k h0 h2 hk
  have x0 := Int.emod_nonneg ((i : Int) % w - (k : Int) % w) (b := w) (by omega)
  have x1 := Int.emod_lt_of_pos ((i : Int) % w - (k : Int) % w) h0
  have y0 := Int.emod_nonneg ((i : Int) / w - (k : Int) / w) (b := h) (by omega)
  have y1 := Int.emod_lt_of_pos ((i : Int) / w - (k : Int) / w) h2
  have s1 := rndQ_sq (t := (i : Int) % w - (k : Int) % w) h0 h1
  have s2 := rndQ_sq (t := (i : Int) / w - (k : Int) / w) h2 h3
  have e1 : mn (((i : Int) % w - (k : Int) % w) % w) (wrap64 (w - ((i : Int) % w - (k : Int) % w) % w)) = rndQ ((i : Int) % w - (k : Int) % w) w := by rw [wid _ (by omega) (by omega)]; rfl
  have e2 : mn (((i : Int) / w - (k : Int) / w) % h) (wrap64 (h - ((i : Int) / w - (k : Int) / w) % h)) = rndQ ((i : Int) / w - (k : Int) / w) h := by rw [wid _ (by omega) (by omega)]; rfl
  constructor
  · unfold impl_farness.f
    rw [if_neg (by omega), tmod_nat, tmod_nat, tdiv_nat i w h0, tdiv_nat k w h0, wid ((i : Int) / w) (by omega) (by omega), wid ((k : Int) / w) (by omega) (by omega), wid ((i : Int) % w - (k : Int) % w) (by omega) (by omega), wid ((i : Int) / w - (k : Int) / w) (by omega) (by omega), impl_mod.eq _ w h0 (by omega), impl_mod.eq _ h h2 (by omega)]
    simp only [Option.bind_some]
    rw [e1, e2, wid (rndQ ((i : Int) % w - (k : Int) % w) w * rndQ ((i : Int) % w - (k : Int) % w) w) (by omega) (by omega), wid (rndQ ((i : Int) / w - (k : Int) / w) h * rndQ ((i : Int) / w - (k : Int) / w) h) (by omega) (by omega), wid _ (by omega) (by omega)]
    rfl
  · unfold spec_l2Far.f spec_l2Round.f
    rw [if_neg (by omega), tmod_nat, tmod_nat, tdiv_nat i w h0, tdiv_nat k w h0, wid ((i : Int) / w) (by omega) (by omega), wid ((k : Int) / w) (by omega) (by omega), wid ((i : Int) % w - (k : Int) % w) (by omega) (by omega), wid ((i : Int) / w - (k : Int) / w) (by omega) (by omega), specMod_ev _ w h0 (by omega), specMod_ev _ h h2 (by omega)]
    simp only [Option.bind_some]
    rw [e1, e2, wid (rndQ ((i : Int) % w - (k : Int) % w) w * rndQ ((i : Int) % w - (k : Int) % w) w) (by omega) (by omega), wid (rndQ ((i : Int) / w - (k : Int) / w) h * rndQ ((i : Int) / w - (k : Int) / w) h) (by omega) (by omega), wid _ (by omega) (by omega)]
    rfl
def spStep (f : Nat → Nat → Int) (p : List Int) (i : Nat) (b : Int) (k : Nat) : Int := if p.getD i 0 = 1 then (if p.getD k 0 = 1 then (if b = 0 then f i k else (if f i k < b then f i k else b)) else b) else b
def spIn (f : Nat → Nat → Int) (p : List Int) (i : Nat) (b : Int) : Nat → Int
  | 0 => b
  | k + 1 => spStep f p i (spIn f p i b k) k
def spOut (f : Nat → Nat → Int) (p : List Int) : Nat → Int
  | 0 => 0
  | i + 1 => spIn f p i (spOut f p i) i
def farN (w h : Int) (i k : Nat) : Int := farQ w h i k
theorem implSp_ev {w h : Int} (p : List Int) (hp : p.length ≤ 65536) (hf : ∀ i k : Nat, i < p.length → k < p.length → impl_farness.f w h p i k = some (farN w h i k)) : Ev (fun k => impl_SpreadOf.l0 k 0 (p.length : Int) 0 w h p) (spOut (farN w h) p p.length) := by
  have outer : ∀ d i : Nat, i + d = p.length → Ev (fun k => impl_SpreadOf.l0 k (spOut (farN w h) p i) (p.length : Int) (i : Int) w h p) (spOut (farN w h) p p.length) := by
    intro d
    induction d with
    | zero =>
      intro i hi
      obtain rfl : i = p.length := by omega
      exact Ev.step (fun k => by rw [impl_SpreadOf.l0]) (Ev_neg (by omega) (Ev.now _))
    | succ d ih =>
      intro i hi
      have nx := ih (i + 1) (by omega)
      refine Ev.step (fun k => by rw [impl_SpreadOf.l0]) (Ev_pos (by omega) ?_)
      have inner : ∀ e k : Nat, k + e = i → Ev (fun q => impl_SpreadOf.l1 q (spIn (farN w h) p i (spOut (farN w h) p i) k) (i : Int) (p.length : Int) (i : Int) (i : Int) (k : Int) w h p) (spOut (farN w h) p p.length) := by
        intro e
        induction e with
        | zero =>
          intro k hk
          obtain rfl : k = i := by omega
          refine Ev.step (fun k => by rw [impl_SpreadOf.l1]) (Ev_neg (by omega) ?_)
          rw [wsucc k (by omega)]
          exact nx
        | succ e ih2 =>
          intro k hk
          have nk := ih2 (k + 1) (by omega)
          have es : spIn (farN w h) p i (spOut (farN w h) p i) (k + 1) = spStep (farN w h) p i (spIn (farN w h) p i (spOut (farN w h) p i) k) k := rfl
          rw [es] at nk
          generalize spIn (farN w h) p i (spOut (farN w h) p i) k = b at nk ⊢
          unfold spStep at nk
          refine Ev.step (fun k => by rw [impl_SpreadOf.l1]) (Ev_pos (by omega) (Ev_pos (by omega) (Ev_pos (by omega) ?_)))
          rw [rd_nat, rd_nat]
          by_cases c1 : p.getD i 0 = 1
          · rw [if_pos c1] at nk
            refine Ev_pos c1 (Ev_pos (by omega) (Ev_pos (by omega) ?_))
            refine Ev.step (fun k => by rw [impl_SpreadOf.j2]) ?_
            by_cases c2 : p.getD k 0 = 1
            · rw [if_pos c2] at nk
              refine Ev_pos (beq_iff_eq.2 c2) ?_
              rw [hf i k (by omega) (by omega), wsucc k (by omega)]
              simp only [Option.bind_some]
              by_cases c3 : b = 0
              · rw [if_pos c3] at nk
                exact Ev_pos c3 nk
              · rw [if_neg c3] at nk
                refine Ev_neg c3 ?_
                by_cases c4 : farN w h i k < b
                · rw [if_pos c4] at nk
                  exact Ev_pos c4 nk
                · rw [if_neg c4] at nk
                  exact Ev_neg c4 nk
            · rw [if_neg c2] at nk
              refine Ev_neg (fun q => c2 (beq_iff_eq.1 q)) ?_
              rw [wsucc k (by omega)]
              exact nk
          · rw [if_neg c1] at nk
            refine Ev_neg c1 (Ev.step (fun k => by rw [impl_SpreadOf.j2]) (Ev_neg (by simp) ?_))
            rw [wsucc k (by omega)]
            exact nk
      exact inner i 0 (by omega)
  exact outer p.length 0 (by omega)
/-! Doubling. -/
def dblG (w h : Int) (l : List Int) (x y : Int) : Int := wrap64 (wrap64 (4 * rd l (y % h * w + x % w)) + impl_DoubleMatrix.quarter w h x y)
theorem celled_dbl {w h : Int} {l : List Int} (hm : matB w h l = true) : celledB (2 * w) (2 * h) = true ↔ ¬ 4 * (l.length : Int) > 256 := by
  obtain ⟨a0, a1, a2, a3, a4, a5, _⟩ := mat_spec hm
  have e : 2 * w * (2 * h) = 4 * (w * h) := by rw [Int.mul_assoc, Int.mul_left_comm w 2 h]; omega
  constructor
  · intro hc
    have := celled_spec hc
    omega
  · intro hc
    have b0 : w * 1 ≤ w * h := Int.mul_le_mul_of_nonneg_left a2 (by omega)
    have b1 : 1 * h ≤ w * h := Int.mul_le_mul_of_nonneg_right a0 (by omega)
    exact decide_eq_true (by omega)
theorem dbl_area {w h : Int} {l : List Int} (hm : matB w h l = true) : (2 * h).toNat * (2 * w).toNat = 4 * l.length := by
  obtain ⟨a0, a1, a2, a3, a4, a5, _⟩ := mat_spec hm
  have := area_eq (w := 2 * w) (h := 2 * h) (by omega) (by omega)
  have e : 2 * w * (2 * h) = 4 * (w * h) := by rw [Int.mul_assoc, Int.mul_left_comm w 2 h]; omega
  omega
theorem implDbl_eq {w h : Int} {l : List Int} (hm : matB w h l = true) : impl_DoubleMatrix.f w h l = if 4 * (l.length : Int) > 256 then some (0, 0, [], false) else some (2 * w, 2 * h, gridL (2 * w) (dblG w h l) (4 * l.length), true) := by
  unfold impl_DoubleMatrix.f
  by_cases c : 4 * (l.length : Int) > 256
  · rw [if_pos c, if_neg (fun q => (celled_dbl hm).1 q.2 c)]
  · rw [if_neg c, if_pos ⟨hm, (celled_dbl hm).2 c⟩, dbl_area hm]
    rfl
/-- The doubled ranks, in plain numbers. -/
def dblF (w h : Int) (l : List Int) (i : Nat) : Int := 4 * rd l ((i : Int) / (2 * w) % h * w + (i : Int) % (2 * w) % w) + impl_DoubleMatrix.quarter w h ((i : Int) % (2 * w)) ((i : Int) / (2 * w))
theorem quarter_bd (w h x y : Int) : 0 ≤ impl_DoubleMatrix.quarter w h x y ∧ impl_DoubleMatrix.quarter w h x y ≤ 3 := by
  unfold impl_DoubleMatrix.quarter
  split <;> split <;> omega
theorem quarter_inj {w h x y u v : Int} (e : impl_DoubleMatrix.quarter w h x y = impl_DoubleMatrix.quarter w h u v) : (x < w ↔ u < w) ∧ (y < h ↔ v < h) := by
  unfold impl_DoubleMatrix.quarter at e
  by_cases a : x < w <;> by_cases b : y < h <;> by_cases c : u < w <;> by_cases d : v < h <;> simp [a, b, c, d] at e ⊢
theorem rd_mod {w h : Int} {l : List Int} (hm : matB w h l = true) (x y : Int) : 0 ≤ y % h * w + x % w ∧ y % h * w + x % w < (l.length : Int) ∧ 0 ≤ rd l (y % h * w + x % w) ∧ rd l (y % h * w + x % w) < (l.length : Int) := by
  obtain ⟨a0, a1, a2, a3, a4, a5, _⟩ := mat_spec hm
  have b := idx_lt (w := w) (h := h) (x := x % w) (y := y % h) (Int.emod_nonneg _ (by omega)) (Int.emod_lt_of_pos _ (by omega)) (Int.emod_nonneg _ (by omega)) (Int.emod_lt_of_pos _ (by omega))
  have c := ((mat_iff w h l).1 hm).2.2.1 _ (rd_mem l _ b.1 (by omega))
  omega
theorem dbl_tab {w h : Int} {l : List Int} (hm : matB w h l = true) (n : Nat) : gridL (2 * w) (dblG w h l) n = (List.range n).map (dblF w h l) := by
  obtain ⟨a0, a1, a2, a3, a4, a5, _⟩ := mat_spec hm
  rw [gridL_tab]
  refine tab_congr _ _ _ (fun i _ => ?_)
  have r := rd_mod hm ((i : Int) % (2 * w)) ((i : Int) / (2 * w))
  have q := quarter_bd w h ((i : Int) % (2 * w)) ((i : Int) / (2 * w))
  show wrap64 (wrap64 (4 * rd l _) + _) = _
  rw [wid (4 * rd l _) (by omega) (by omega), wid _ (by omega) (by omega)]
  rfl
theorem half_mod (x w : Int) (h0 : 0 ≤ x) (h1 : x < 2 * w) (hw : 0 < w) : x % w = if x < w then x else x - w := by
  by_cases c : x < w
  · rw [if_pos c, Int.emod_eq_of_lt h0 c]
  · rw [if_neg c]
    have : x = (x - w) + w * 1 := by omega
    rw [this, Int.add_mul_emod_self_left, Int.emod_eq_of_lt (by omega) (by omega)]
    omega
theorem mat_dbl {w h : Int} {l : List Int} (hm : matB w h l = true) (hc : ¬ 4 * (l.length : Int) > 256) : matB (2 * w) (2 * h) ((List.range (4 * l.length)).map (dblF w h l)) = true := by
  obtain ⟨a0, a1, a2, a3, a4, a5, _⟩ := mat_spec hm
  obtain ⟨g0, g1, g2, g3⟩ := mat_get hm
  have e : 2 * w * (2 * h) = 4 * (w * h) := by rw [Int.mul_assoc, Int.mul_left_comm w 2 h]; omega
  refine mat_tab _ _ ((celled_dbl hm).2 hc) (by push_cast; omega) (fun i hi => ?_) (fun i j hi hj q => ?_)
  · have r := rd_mod hm ((i : Int) % (2 * w)) ((i : Int) / (2 * w))
    have q := quarter_bd w h ((i : Int) % (2 * w)) ((i : Int) / (2 * w))
    unfold dblF
    push_cast
    omega
  · unfold dblF at q
    obtain ⟨b0, b1, b2, b3, b4⟩ := cell_bd (w := 2 * w) (h := 2 * h) i (by omega) (by omega) (by omega)
    obtain ⟨c0, c1, c2, c3, c4⟩ := cell_bd (w := 2 * w) (h := 2 * h) j (by omega) (by omega) (by omega)
    have ri := rd_mod hm ((i : Int) % (2 * w)) ((i : Int) / (2 * w))
    have rj := rd_mod hm ((j : Int) % (2 * w)) ((j : Int) / (2 * w))
    have mx := half_mod ((i : Int) % (2 * w)) w b0 b1 (by omega)
    have my := half_mod ((i : Int) / (2 * w)) h b2 b3 (by omega)
    have nx := half_mod ((j : Int) % (2 * w)) w c0 c1 (by omega)
    have ny := half_mod ((j : Int) / (2 * w)) h c2 c3 (by omega)
    have x0 := Int.emod_nonneg ((i : Int) % (2 * w)) (b := w) (by omega)
    have x1 := Int.emod_lt_of_pos ((i : Int) % (2 * w)) (b := w) (by omega)
    have y0 := Int.emod_nonneg ((j : Int) % (2 * w)) (b := w) (by omega)
    have y1 := Int.emod_lt_of_pos ((j : Int) % (2 * w)) (b := w) (by omega)
    have inj := g3 ((i : Int) / (2 * w) % h * w + (i : Int) % (2 * w) % w).toNat ((j : Int) / (2 * w) % h * w + (j : Int) % (2 * w) % w).toNat (by omega) (by omega)
    have qi := quarter_bd w h ((i : Int) % (2 * w)) ((i : Int) / (2 * w))
    have qj := quarter_bd w h ((j : Int) % (2 * w)) ((j : Int) / (2 * w))
    have er : rd l ((i : Int) / (2 * w) % h * w + (i : Int) % (2 * w) % w) = rd l ((j : Int) / (2 * w) % h * w + (j : Int) % (2 * w) % w) := by omega
    have eq : impl_DoubleMatrix.quarter w h ((i : Int) % (2 * w)) ((i : Int) / (2 * w)) = impl_DoubleMatrix.quarter w h ((j : Int) % (2 * w)) ((j : Int) / (2 * w)) := by omega
    have ei := inj er
    have e2 : (i : Int) / (2 * w) % h * w + (i : Int) % (2 * w) % w = (j : Int) / (2 * w) % h * w + (j : Int) % (2 * w) % w := by omega
    have d1 := cell_of (w := w) ((i : Int) % (2 * w) % w) ((i : Int) / (2 * w) % h) (by omega) x0 x1
    have d2 := cell_of (w := w) ((j : Int) % (2 * w) % w) ((j : Int) / (2 * w) % h) (by omega) y0 y1
    rw [e2] at d1
    have f1 : (i : Int) % (2 * w) % w = (j : Int) % (2 * w) % w := d1.1.symm.trans d2.1
    have f2 : (i : Int) / (2 * w) % h = (j : Int) / (2 * w) % h := d1.2.symm.trans d2.2
    obtain ⟨p1, p2⟩ := quarter_inj eq
    have k1 : (i : Int) % (2 * w) = (j : Int) % (2 * w) := by
      rw [mx, nx] at f1
      by_cases c : (i : Int) % (2 * w) < w
      · rw [if_pos c, if_pos (p1.1 c)] at f1
        exact f1
      · rw [if_neg c, if_neg (fun q => c (p1.2 q))] at f1
        omega
    have k2 : (i : Int) / (2 * w) = (j : Int) / (2 * w) := by
      rw [my, ny] at f2
      by_cases c : (i : Int) / (2 * w) < h
      · rw [if_pos c, if_pos (p2.1 c)] at f2
        exact f2
      · rw [if_neg c, if_neg (fun q => c (p2.2 q))] at f2
        omega
    rw [k1, k2, c4] at b4
    omega
/-! Bayer's matrices. -/
def bayM : Nat → List Int
  | 0 => [0]
  | k + 1 => (List.range (4 * (bayM k).length)).map (dblF (2 ^ k) (2 ^ k) (bayM k))
theorem bayM_len (k : Nat) : (bayM k).length = 4 ^ k := by
  induction k with
  | zero => rfl
  | succ k ih =>
    show ((List.range (4 * (bayM k).length)).map _).length = _
    rw [List.length_map, List.length_range, ih, Nat.pow_succ, Nat.mul_comm]
theorem four_le (k : Nat) (hk : k < 4) : (4 : Nat) ^ k ≤ 64 := by
  match k, hk with
  | 0, _ => decide
  | 1, _ => decide
  | 2, _ => decide
  | 3, _ => decide
theorem bayM_mat (k : Nat) (hk : k ≤ 4) : matB (2 ^ k) (2 ^ k) (bayM k) = true := by
  induction k with
  | zero => decide
  | succ k ih =>
    have h4 := four_le k (by omega)
    have := mat_dbl (ih (by omega)) (by rw [bayM_len]; omega)
    rw [Int.pow_succ, Int.mul_comm]
    exact this
theorem bay_step (k : Nat) (hk : k < 4) : impl_DoubleMatrix.f (2 ^ k) (2 ^ k) (bayM k) = some (2 ^ (k + 1), 2 ^ (k + 1), bayM (k + 1), true) := by
  have h4 := four_le k hk
  rw [implDbl_eq (bayM_mat k (by omega)), if_neg (by rw [bayM_len]; omega), dbl_tab (bayM_mat k (by omega)), Int.pow_succ, Int.mul_comm]
  rfl
theorem implBayM_ev (n : Nat) (hn : n ≤ 4) : Ev (fun k => impl_BayerMatrix.f k (n : Int)) (2 ^ n, 2 ^ n, bayM n, true) := by
  unfold impl_BayerMatrix.f
  have key : ∀ d i : Nat, i + d = n → Ev (fun k => impl_BayerMatrix.l0 k (n : Int) (i : Int) (2 ^ i) (2 ^ i) (bayM i)) (2 ^ n, 2 ^ n, bayM n, true) := by
    intro d
    induction d with
    | zero =>
      intro i hi
      obtain rfl : i = n := by omega
      exact Ev.step (fun k => by rw [impl_BayerMatrix.l0]) (Ev_neg (by omega) (Ev.now _))
    | succ d ih =>
      intro i hi
      have nx := ih (i + 1) (by omega)
      refine Ev.step (fun k => by rw [impl_BayerMatrix.l0]) (Ev_pos (by omega) ?_)
      rw [bay_step i (by omega), wsucc i (by omega)]
      exact nx
  refine Ev_neg (by omega) ?_
  rw [decide_eq_false (by omega)]
  refine Ev.step (fun k => by rw [impl_BayerMatrix.j0]) (Ev_neg (by simp) ?_)
  exact key n 0 (by omega)
/-! Sums round about. -/
theorem Ev_eq {α : Type} {x : Option α} {a : α} (h : x = some a) : Ev (fun _ => x) a := ⟨0, fun _ _ => h⟩
def lessI (v u : Int) : Int := if u < v then 1 else 0
theorem cells_eq {w h : Int} {l : List Int} (hm : matB w h l = true) (hs : sizedB w h = true) (v : Int) (v0 : 0 ≤ v) (v1 : v ≤ (l.length : Int)) : impl_CellsBelow.f w h l v = some (w, h, l.map (lessI v)) := by
  refine (if_pos ⟨hm, v0, v1, hs⟩).trans ?_
  rw [grid_modmap (fun u => if u < v then 1 else 0) hm]
  rfl
theorem less_at (l : List Int) (v : Int) (i : Nat) (hi : i < l.length) : (l.map (lessI v)).getD i 0 = lessI v (l.getD i 0) := by
  rw [getD_of_lt _ 0 i (by rw [List.length_map]; exact hi), List.getElem_map, getD_of_lt l 0 i hi]
theorem two_pow (n : Nat) (hn : n ≤ 4) : (0 : Int) < 2 ^ n ∧ (2 : Int) ^ n ≤ 16 ∧ (2 : Int) ^ n = ((2 ^ n : Nat) : Int) ∧ (2 : Int) ^ n * 2 ^ n = ((4 ^ n : Nat) : Int) ∧ (4 : Nat) ^ n ≤ 256 := by
  match n, hn with
  | 0, _ => decide
  | 1, _ => decide
  | 2, _ => decide
  | 3, _ => decide
  | 4, _ => decide
theorem pow_small (n : Nat) (hn : n ≤ 20) : (1 : Int) ≤ 2 ^ n ∧ (2 : Int) ^ n ≤ 1048576 := by
  have a : (2 : Nat) ^ n ≤ 2 ^ 20 := Nat.pow_le_pow_right (by omega) hn
  have b : 0 < (2 : Nat) ^ n := Nat.pow_pos (by omega)
  have e : (2 : Int) ^ n = ((2 ^ n : Nat) : Int) := by rw [Int.natCast_pow]; rfl
  rw [e]
  omega
theorem power_ev (n : Nat) (hn : n ≤ 19) : Ev (fun k => laws_power.f k (n : Int)) (2 ^ n) := by
  unfold laws_power.f
  have key : ∀ d i : Nat, i + d = n → Ev (fun k => laws_power.l0 k (d : Int) (2 ^ i)) (2 ^ n) := by
    intro d
    induction d with
    | zero =>
      intro i hi
      obtain rfl : i = n := by omega
      exact Ev.step (fun k => by rw [laws_power.l0]) (Ev_neg (by simp) (Ev.now _))
    | succ d ih =>
      intro i hi
      have nx := ih (i + 1) (by omega)
      have b := pow_small (i + 1) (by omega)
      have e : (2 : Int) * 2 ^ i = 2 ^ (i + 1) := by rw [Int.pow_succ, Int.mul_comm]
      refine Ev.step (fun k => by rw [laws_power.l0]) (Ev_pos (by omega) ?_)
      rw [wid (((d + 1 : Nat) : Int) - 1) (by omega) (by omega), show ((d + 1 : Nat) : Int) - 1 = (d : Int) by omega, e, wid (2 ^ (i + 1)) (by omega) (by omega)]
      exact nx
  exact key n 0 (by omega)
/-! The spread of Bayer's dots. -/
theorem spStep_ge {f : Nat → Nat → Int} {p : List Int} {i k : Nat} {b r : Int} (h : p.getD i 0 = 1 → p.getD k 0 = 1 → r ≤ f i k) (hb : b = 0 ∨ r ≤ b) : spStep f p i b k = 0 ∨ r ≤ spStep f p i b k := by
  unfold spStep
  by_cases c1 : p.getD i 0 = 1
  · rw [if_pos c1]
    by_cases c2 : p.getD k 0 = 1
    · have := h c1 c2
      rw [if_pos c2]
      split
      · exact Or.inr this
      · split
        · exact Or.inr this
        · exact hb
    · rw [if_neg c2]
      exact hb
  · rw [if_neg c1]
    exact hb
theorem spStep_hit {f : Nat → Nat → Int} {p : List Int} {i k : Nat} {b r : Int} (h1 : p.getD i 0 = 1) (h2 : p.getD k 0 = 1) (e : f i k = r) (hb : b = 0 ∨ r ≤ b) : spStep f p i b k = r := by
  unfold spStep
  rw [if_pos h1, if_pos h2, e]
  split
  · rfl
  · split
    · rfl
    · omega
theorem spStep_keep {f : Nat → Nat → Int} {p : List Int} {i k : Nat} {r : Int} (hr : 0 < r) (h : p.getD i 0 = 1 → p.getD k 0 = 1 → r ≤ f i k) : spStep f p i r k = r := by
  unfold spStep
  by_cases c1 : p.getD i 0 = 1
  · rw [if_pos c1]
    by_cases c2 : p.getD k 0 = 1
    · have := h c1 c2
      rw [if_pos c2, if_neg (by omega), if_neg (by omega)]
    · rw [if_neg c2]
  · rw [if_neg c1]
theorem spIn_ge {f : Nat → Nat → Int} {p : List Int} {i : Nat} {b r : Int} (hb : b = 0 ∨ r ≤ b) (n : Nat) (h : ∀ k, k < n → p.getD i 0 = 1 → p.getD k 0 = 1 → r ≤ f i k) : spIn f p i b n = 0 ∨ r ≤ spIn f p i b n := by
  induction n with
  | zero => exact hb
  | succ n ih => exact spStep_ge (h n (by omega)) (ih (fun k hk => h k (by omega)))
theorem spIn_keep {f : Nat → Nat → Int} {p : List Int} {i : Nat} {r : Int} (hr : 0 < r) (n : Nat) (h : ∀ k, k < n → p.getD i 0 = 1 → p.getD k 0 = 1 → r ≤ f i k) : spIn f p i r n = r := by
  induction n with
  | zero => rfl
  | succ n ih =>
    show spStep f p i (spIn f p i r n) n = r
    rw [ih (fun k hk => h k (by omega))]
    exact spStep_keep hr (h n (by omega))
theorem spIn_hit {f : Nat → Nat → Int} {p : List Int} {i : Nat} {b r : Int} (hr : 0 < r) (hb : b = 0 ∨ r ≤ b) (k0 : Nat) (h1 : p.getD i 0 = 1) (h2 : p.getD k0 0 = 1) (e : f i k0 = r) (n : Nat) (hn : k0 < n) (h : ∀ k, k < n → p.getD i 0 = 1 → p.getD k 0 = 1 → r ≤ f i k) : spIn f p i b n = r := by
  induction n with
  | zero => omega
  | succ n ih =>
    show spStep f p i (spIn f p i b n) n = r
    by_cases c : k0 < n
    · rw [ih c (fun k hk => h k (by omega))]
      exact spStep_keep hr (h n (by omega))
    · obtain rfl : k0 = n := by omega
      exact spStep_hit h1 h2 e (spIn_ge hb k0 (fun k hk => h k (by omega)))
theorem spOut_ge {f : Nat → Nat → Int} {p : List Int} {r : Int} (m : Nat) (h : ∀ i, i < m → ∀ k, k < i → p.getD i 0 = 1 → p.getD k 0 = 1 → r ≤ f i k) : spOut f p m = 0 ∨ r ≤ spOut f p m := by
  induction m with
  | zero => exact Or.inl rfl
  | succ m ih => exact spIn_ge (ih (fun i hi => h i (by omega))) m (h m (by omega))
theorem spOut_val {f : Nat → Nat → Int} {p : List Int} {r : Int} (hr : 0 < r) (m : Nat) (h : ∀ i, i < m → ∀ k, k < i → p.getD i 0 = 1 → p.getD k 0 = 1 → r ≤ f i k) (i0 k0 : Nat) (hi : i0 < m) (hk : k0 < i0) (h1 : p.getD i0 0 = 1) (h2 : p.getD k0 0 = 1) (e : f i0 k0 = r) : spOut f p m = r := by
  induction m with
  | zero => omega
  | succ m ih =>
    show spIn f p m (spOut f p m) m = r
    by_cases c : i0 < m
    · rw [ih (fun i hi => h i (by omega)) c]
      exact spIn_keep hr m (h m (by omega))
    · obtain rfl : i0 = m := by omega
      exact spIn_hit hr (spOut_ge i0 (fun i hi => h i (by omega))) k0 h1 h2 e i0 hk (h i0 (by omega))
theorem spOut_none {f : Nat → Nat → Int} {p : List Int} (m : Nat) (h : ∀ i, i < m → 0 < i → ¬ p.getD i 0 = 1) : spOut f p m = 0 := by
  induction m with
  | zero => rfl
  | succ m ih =>
    show spIn f p m (spOut f p m) m = 0
    rw [ih (fun i hi => h i (by omega))]
    have : ∀ n : Nat, n ≤ m → spIn f p m 0 n = 0 := by
      intro n
      induction n with
      | zero => intro _; rfl
      | succ n ih2 =>
        intro hn
        show spStep f p m (spIn f p m 0 n) n = 0
        rw [ih2 (by omega)]
        unfold spStep
        rw [if_neg (h m (by omega) (by omega))]
    exact this m (Nat.le_refl _)
theorem implSpread_ev {w h : Int} {l : List Int} (hm : matB w h l = true) (hs : sizedB w h = true) (v : Int) (v0 : 0 ≤ v) (v1 : v ≤ (l.length : Int)) : Ev (fun k => impl_SpreadOf.f k w h l v) (spOut (farN w h) (l.map (lessI v)) l.length) := by
  obtain ⟨a0, a1, a2, a3, a4, a5, _⟩ := mat_spec hm
  have e : (l.map (lessI v)).length = l.length := List.length_map _
  unfold impl_SpreadOf.f
  refine Ev.bind (Ev_eq (cells_eq hm hs v v0 v1)) ?_
  have := implSp_ev (w := w) (h := h) (l.map (lessI v)) (by omega) (fun i k hi hk => (far_eq (w := w) (h := h) (l.map (lessI v)) i k (by omega) a1 (by omega) a3 (by omega) (by omega)).1)
  rw [e] at this
  dsimp only
  rw [e]
  exact this
theorem rnd_ge {s t W : Int} (hs : 0 < s) (hW : 0 < W) (d1 : s ∣ W) (d2 : s ∣ t) (hne : t % W ≠ 0) : s ≤ rndQ t W := by
  have b0 := Int.emod_nonneg t (b := W) (by omega)
  have b1 := Int.emod_lt_of_pos t hW
  have d3 : s ∣ t % W := by
    rw [Int.emod_def]
    exact Int.dvd_sub d2 (Int.dvd_trans d1 (Int.dvd_mul_right W _))
  have l1 := Int.le_of_dvd (by omega) d3
  have l2 := Int.le_of_dvd (by omega) (Int.dvd_sub d1 d3)
  unfold rndQ mn
  split <;> omega
theorem far_ge {s W : Int} (hs : 0 < s) (hW : 0 < W) (d1 : s ∣ W) (i k : Int) (i0 : 0 ≤ i) (k0 : 0 ≤ k) (hi : i < W * W) (hk : k < W * W) (hne : i ≠ k) (x1 : s ∣ i % W) (x2 : s ∣ k % W) (y1 : s ∣ i / W) (y2 : s ∣ k / W) : s * s ≤ farQ W W i k := by
  have n1 := (rndQ_bd (i % W - k % W) W hW).1
  have n2 := (rndQ_bd (i / W - k / W) W hW).1
  have m1 := Int.mul_nonneg n1 n1
  have m2 := Int.mul_nonneg n2 n2
  have z : ∀ t : Int, t % W ≠ 0 → s ∣ t → s * s ≤ rndQ t W * rndQ t W := fun t ht d2 => sq_mono (by omega) (rnd_ge hs hW d1 d2 ht)
  have eq0 : ∀ x y : Int, 0 ≤ x → x < W → 0 ≤ y → y < W → (x - y) % W = 0 → x = y := by
    intro x y hx hx' hy hy' h
    have h' : (x - y) % W = (y - y) % W := by rw [h, Int.sub_self, Int.zero_emod]
    have := (Int.emod_sub_cancel_right y).1 h'
    rwa [Int.emod_eq_of_lt hx hx', Int.emod_eq_of_lt hy hy'] at this
  unfold farQ
  by_cases cx : (i % W - k % W) % W = 0
  · by_cases cy : (i / W - k / W) % W = 0
    · exfalso
      have ex := eq0 _ _ (Int.emod_nonneg _ (by omega)) (Int.emod_lt_of_pos _ hW) (Int.emod_nonneg _ (by omega)) (Int.emod_lt_of_pos _ hW) cx
      have ey := eq0 _ _ (Int.ediv_nonneg i0 (by omega)) (Int.ediv_lt_of_lt_mul hW hi) (Int.ediv_nonneg k0 (by omega)) (Int.ediv_lt_of_lt_mul hW hk) cy
      have e1 := Int.mul_ediv_add_emod i W
      have e2 := Int.mul_ediv_add_emod k W
      rw [ex, ey, e2] at e1
      exact hne e1.symm
    · have := z _ cy (Int.dvd_sub y1 y2)
      omega
  · have := z _ cx (Int.dvd_sub x1 x2)
    omega
def spChk (n j : Nat) : Bool := ((List.range (4 ^ n)).all fun i => !decide ((bayM n).getD i 0 < 2 ^ (2 * j)) || (decide ((i % 2 ^ n) % 2 ^ (n - j) = 0) && decide ((i / 2 ^ n) % 2 ^ (n - j) = 0))) && (decide ((bayM n).getD (2 ^ (n - j)) 0 < 2 ^ (2 * j)) && (decide ((bayM n).getD 0 0 < 2 ^ (2 * j)) && (farN (2 ^ n) (2 ^ n) (2 ^ (n - j)) 0 == 2 ^ (n - j) * 2 ^ (n - j) && decide (2 ^ (n - j) < 4 ^ n))))
theorem spChk_1_1 : spChk 1 1 = true := by decide +kernel
theorem spChk_2_1 : spChk 2 1 = true := by decide +kernel
theorem spChk_2_2 : spChk 2 2 = true := by decide +kernel
theorem spChk_3_1 : spChk 3 1 = true := by decide +kernel
theorem spChk_3_2 : spChk 3 2 = true := by decide +kernel
theorem spChk_3_3 : spChk 3 3 = true := by decide +kernel
theorem spChk_4_1 : spChk 4 1 = true := by decide +kernel
theorem spChk_4_2 : spChk 4 2 = true := by decide +kernel
theorem spChk_4_3 : spChk 4 3 = true := by decide +kernel
theorem spChk_4_4 : spChk 4 4 = true := by decide +kernel
theorem spChk_all (n j : Nat) (hn : n ≤ 4) (h1 : 1 ≤ j) (h2 : j ≤ n) : spChk n j = true := by
  obtain ⟨rfl, rfl⟩ | ⟨rfl, rfl⟩ | ⟨rfl, rfl⟩ | ⟨rfl, rfl⟩ | ⟨rfl, rfl⟩ | ⟨rfl, rfl⟩ | ⟨rfl, rfl⟩ | ⟨rfl, rfl⟩ | ⟨rfl, rfl⟩ | ⟨rfl, rfl⟩ : (n = 1 ∧ j = 1) ∨ (n = 2 ∧ j = 1) ∨ (n = 2 ∧ j = 2) ∨ (n = 3 ∧ j = 1) ∨ (n = 3 ∧ j = 2) ∨ (n = 3 ∧ j = 3) ∨ (n = 4 ∧ j = 1) ∨ (n = 4 ∧ j = 2) ∨ (n = 4 ∧ j = 3) ∨ (n = 4 ∧ j = 4) := by omega
  · exact spChk_1_1
  · exact spChk_2_1
  · exact spChk_2_2
  · exact spChk_3_1
  · exact spChk_3_2
  · exact spChk_3_3
  · exact spChk_4_1
  · exact spChk_4_2
  · exact spChk_4_3
  · exact spChk_4_4
theorem less_one {v u : Int} : lessI v u = 1 ↔ u < v := by
  unfold lessI
  split <;> omega
theorem spread4 (n j : Nat) (hn : n ≤ 4) (h1 : 1 ≤ j) (h2 : j ≤ n) : Ev (fun k => impl_SpreadOf.f k (2 ^ n) (2 ^ n) (bayM n) (2 ^ (2 * j))) (2 ^ (n - j) * 2 ^ (n - j)) := by
  obtain ⟨e0, e1, e2, e3, e4⟩ := two_pow n hn
  obtain ⟨s0, s1, s2, _, _⟩ := two_pow (n - j) (by omega)
  have hlen := bayM_len n
  have hv : (2 : Int) ^ (2 * j) = ((4 ^ j : Nat) : Int) := by
    rw [Int.pow_mul, Int.natCast_pow]
    rfl
  have hvn : (4 : Nat) ^ j ≤ 4 ^ n := Nat.pow_le_pow_right (by omega) h2
  have hv0 : 0 < (4 : Nat) ^ j := Nat.pow_pos (by omega)
  have hs := sized_small (w := 2 ^ n) (h := 2 ^ n) (by omega) e1 (by omega) e1
  have ev := implSpread_ev (bayM_mat n hn) hs (2 ^ (2 * j)) (by omega) (by omega)
  have c := spChk_all n j hn h1 h2
  unfold spChk at c
  simp only [Bool.and_eq_true, decide_eq_true_eq, beq_iff_eq] at c
  obtain ⟨c0, c1, c2, c3, c4⟩ := c
  have hd : (2 : Int) ^ (n - j) ∣ 2 ^ n := ⟨2 ^ j, by rw [← Int.pow_add, show n - j + j = n by omega]⟩
  have cell : ∀ i : Nat, i < (bayM n).length → ((bayM n).map (lessI (2 ^ (2 * j)))).getD i 0 = 1 → (2 : Int) ^ (n - j) ∣ (i : Int) % 2 ^ n ∧ (2 : Int) ^ (n - j) ∣ (i : Int) / 2 ^ n := by
    intro i hi h
    rw [less_at _ _ i hi, less_one] at h
    have c := List.all_eq_true.1 c0 i (List.mem_range.2 (by omega))
    rw [decide_eq_true h] at c
    simp only [Bool.not_true, Bool.false_or, Bool.and_eq_true, decide_eq_true_eq] at c
    rw [e2, s2, ← Int.natCast_emod, ← Int.natCast_ediv, Int.natCast_dvd_natCast, Int.natCast_dvd_natCast]
    exact ⟨Nat.dvd_of_mod_eq_zero c.1, Nat.dvd_of_mod_eq_zero c.2⟩
  have sp : (0 : Int) < 2 ^ (n - j) * 2 ^ (n - j) := Int.mul_pos s0 s0
  have hval : spOut (farN (2 ^ n) (2 ^ n)) ((bayM n).map (lessI (2 ^ (2 * j)))) (bayM n).length = 2 ^ (n - j) * 2 ^ (n - j) := by
    refine spOut_val sp (bayM n).length ?_ (2 ^ (n - j)) 0 (by omega) (Nat.pow_pos (by omega)) ?_ ?_ c3
    · intro i hi k hk h3 h4
      obtain ⟨p1, p2⟩ := cell i hi h3
      obtain ⟨q1, q2⟩ := cell k (by omega) h4
      exact far_ge s0 e0 hd (i : Int) (k : Int) (by omega) (by omega) (by omega) (by omega) (by omega) p1 q1 p2 q2
    · rw [less_at _ _ _ (by omega), less_one]
      exact c1
    · rw [less_at _ _ _ (by omega), less_one]
      exact c2
  rw [hval] at ev
  exact ev
def spChk2 (n : Nat) : Bool := ((List.range (4 ^ n)).all fun i => (!decide ((bayM n).getD i 0 < 2) || (decide (i = 0) || decide (i = 2 ^ (n - 1) * 2 ^ n + 2 ^ (n - 1)))) && (!decide ((bayM n).getD i 0 < 1) || decide (i = 0))) && (decide ((bayM n).getD (2 ^ (n - 1) * 2 ^ n + 2 ^ (n - 1)) 0 < 2) && (decide ((bayM n).getD 0 0 < 2) && (farN (2 ^ n) (2 ^ n) (2 ^ (n - 1) * 2 ^ n + 2 ^ (n - 1)) 0 == 2 * 2 ^ (n - 1) * 2 ^ (n - 1) && decide (2 ^ (n - 1) * 2 ^ n + 2 ^ (n - 1) < 4 ^ n))))
theorem spChk2_1 : spChk2 1 = true := by decide +kernel
theorem spChk2_2 : spChk2 2 = true := by decide +kernel
theorem spChk2_3 : spChk2 3 = true := by decide +kernel
theorem spChk2_4 : spChk2 4 = true := by decide +kernel
theorem spChk2_all (n : Nat) (hn : n ≤ 4) (h1 : 1 ≤ n) : spChk2 n = true := by
  obtain rfl | rfl | rfl | rfl : n = 1 ∨ n = 2 ∨ n = 3 ∨ n = 4 := by omega
  · exact spChk2_1
  · exact spChk2_2
  · exact spChk2_3
  · exact spChk2_4
theorem spread21 (n : Nat) (hn : n ≤ 4) (h1 : 1 ≤ n) : Ev (fun k => impl_SpreadOf.f k (2 ^ n) (2 ^ n) (bayM n) 2) (2 * 2 ^ (n - 1) * 2 ^ (n - 1)) ∧ Ev (fun k => impl_SpreadOf.f k (2 ^ n) (2 ^ n) (bayM n) 1) 0 := by
  obtain ⟨e0, e1, e2, e3, e4⟩ := two_pow n hn
  obtain ⟨s0, s1, s2, _, _⟩ := two_pow (n - 1) (by omega)
  have hlen := bayM_len n
  have hvn : (4 : Nat) ^ 1 ≤ 4 ^ n := Nat.pow_le_pow_right (by omega) h1
  have hs := sized_small (w := 2 ^ n) (h := 2 ^ n) (by omega) e1 (by omega) e1
  have ev2 := implSpread_ev (bayM_mat n hn) hs 2 (by omega) (by omega)
  have ev1 := implSpread_ev (bayM_mat n hn) hs 1 (by omega) (by omega)
  have c := spChk2_all n hn h1
  unfold spChk2 at c
  simp only [Bool.and_eq_true, decide_eq_true_eq, beq_iff_eq] at c
  obtain ⟨c0, c1, c2, c3, c4⟩ := c
  have cell : ∀ i : Nat, i < (bayM n).length → (((bayM n).map (lessI 2)).getD i 0 = 1 → i = 0 ∨ i = 2 ^ (n - 1) * 2 ^ n + 2 ^ (n - 1)) ∧ (((bayM n).map (lessI 1)).getD i 0 = 1 → i = 0) := by
    intro i hi
    have c := List.all_eq_true.1 c0 i (List.mem_range.2 (by omega))
    simp only [Bool.and_eq_true, Bool.or_eq_true, Bool.not_eq_true', decide_eq_true_eq, decide_eq_false_iff_not] at c
    rw [less_at _ _ i hi, less_at _ _ i hi, less_one, less_one]
    exact ⟨fun h => (c.1).resolve_left (fun q => q h), fun h => (c.2).resolve_left (fun q => q h)⟩
  have pq : (0 : Nat) < 2 ^ (n - 1) := Nat.pow_pos (by omega)
  have sp : (0 : Int) < 2 * 2 ^ (n - 1) * 2 ^ (n - 1) := Int.mul_pos (by omega) s0
  constructor
  · have hval : spOut (farN (2 ^ n) (2 ^ n)) ((bayM n).map (lessI 2)) (bayM n).length = 2 * 2 ^ (n - 1) * 2 ^ (n - 1) := by
      refine spOut_val sp (bayM n).length ?_ (2 ^ (n - 1) * 2 ^ n + 2 ^ (n - 1)) 0 (by omega) (by omega) ?_ ?_ c3
      · intro i hi k hk h3 h4
        rcases (cell i hi).1 h3 with q | q
        · omega
        · rcases (cell k (by omega)).1 h4 with q2 | q2
          · rw [q, q2, c3]
            exact Int.le_refl _
          · omega
      · rw [less_at _ _ _ (by omega), less_one]
        exact c1
      · rw [less_at _ _ _ (by omega), less_one]
        exact c2
    rw [hval] at ev2
    exact ev2
  · rw [spOut_none (bayM n).length (fun i hi h0 h => by
      have := (cell i hi).2 h
      omega)] at ev1
    exact ev1
/-- The law FnSpread: the dots of a matrix of Bayer at a level that is a power of 4 are spread as widely as a grid of them; for the inputs that the law draws. -/
theorem FnSpread (l0 : List Int) (h0_ : l0.length ≤ maxLen) (h1_ : l0.length * 1 ≤ 140737488351232) (h2_ : (∀ x ∈ l0, (Lit.int .u8 x).wf = true)) :
    ∃ k, P.laws_FnSpread.f k l0 = some true := by
  refine Ev.rounds ?_
  unfold laws_FnSpread.f
  by_cases hl : (l0.length : Int) > 1048576
  · exact Ev_pos hl (Ev.now _)
  refine Ev_neg hl ?_
  obtain ⟨a, ea, a0, a1⟩ := at_ok l0 1 (by omega) (by omega) (by omega) (u8_bd h2_)
  obtain ⟨b, eb, b0, b1⟩ := at_ok l0 2 (by omega) (by omega) (by omega) (u8_bd h2_)
  refine Ev.bind (Ev_eq ea) (Ev.bind (Ev_eq eb) ?_)
  have hA : 1 ≤ 1 + Int.tmod a 4 ∧ 1 + Int.tmod a 4 ≤ 4 := by rw [Int.tmod_eq_emod_of_nonneg a0]; omega
  rw [wid (1 + Int.tmod a 4) (by omega) (by omega)]
  generalize 1 + Int.tmod a 4 = A at hA ⊢
  obtain ⟨n, rfl⟩ : ∃ n : Nat, A = (n : Int) := ⟨A.toNat, by omega⟩
  have q0 := Int.tmod_nonneg (n : Int) b0
  have q1 := Int.tmod_lt_of_pos b (b := (n : Int)) (by omega)
  rw [wid (1 + Int.tmod b (n : Int)) (by omega) (by omega)]
  obtain ⟨B, hB⟩ : ∃ B : Int, 1 + Int.tmod b (n : Int) = B := ⟨_, rfl⟩
  rw [hB]
  obtain ⟨j, rfl⟩ : ∃ j : Nat, B = (j : Int) := ⟨B.toNat, by omega⟩
  have hn : n ≤ 4 := by omega
  obtain ⟨s0, s1, _, _, _⟩ := two_pow (n - j) (by omega)
  obtain ⟨r0, r1, _, _, _⟩ := two_pow (n - 1) (by omega)
  have ss : 2 ^ (n - j) * 2 ^ (n - j) ≤ (16 : Int) * 16 := Int.le_trans (Int.mul_le_mul_of_nonneg_right s1 (by omega)) (Int.mul_le_mul_of_nonneg_left s1 (by omega))
  have ss0 : (0 : Int) ≤ 2 ^ (n - j) * 2 ^ (n - j) := Int.mul_nonneg (by omega) (by omega)
  have rr : (2 : Int) * 2 ^ (n - 1) * 2 ^ (n - 1) ≤ 32 * 16 := Int.le_trans (Int.mul_le_mul_of_nonneg_right (show (2 : Int) * 2 ^ (n - 1) ≤ 32 by omega) (by omega)) (Int.mul_le_mul_of_nonneg_left r1 (by omega))
  have rr0 : (0 : Int) ≤ 2 * 2 ^ (n - 1) * 2 ^ (n - 1) := Int.mul_nonneg (by omega) (by omega)
  obtain ⟨v2, v1⟩ := spread21 n hn (by omega)
  refine Ev_neg (by omega) (Ev.bind (implBayM_ev n hn) ?_)
  rw [wid ((n : Int) - (j : Int)) (by omega) (by omega), wid (2 * (j : Int)) (by omega) (by omega), show (n : Int) - (j : Int) = ((n - j : Nat) : Int) by omega, show 2 * (j : Int) = ((2 * j : Nat) : Int) by omega]
  refine Ev.bind (power_ev (n - j) (by omega)) (Ev_pos rfl (Ev.bind (power_ev (2 * j) (by omega)) (Ev.bind (spread4 n j hn (by omega) (by omega)) ?_)))
  rw [wid (2 ^ (n - j) * 2 ^ (n - j)) (by omega) (by omega), bne_self_eq_false]
  refine Ev.step (fun k => by rw [laws_FnSpread.j0]) (Ev_neg (by simp) (Ev.bind v2 ?_))
  rw [wid ((n : Int) - 1) (by omega) (by omega), show (n : Int) - 1 = ((n - 1 : Nat) : Int) by omega]
  refine Ev.bind (power_ev (n - 1) (by omega)) (Ev.bind (power_ev (n - 1) (by omega)) ?_)
  rw [wid (2 * 2 ^ (n - 1)) (by omega) (by omega), wid (2 * 2 ^ (n - 1) * 2 ^ (n - 1)) (by omega) (by omega)]
  exact Ev_pos rfl (Ev.bind v1 (Ev.now _))
end Go.Proofs.Ytdlehfnlibddcaa.Q
