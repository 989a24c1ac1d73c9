-- Written by tools/seatprint.py (over the kit's print, changed in memory). Not trusted: Lean checks it.
import Derived.Test.YtdlehfnlibddcaaP0
import Derived.Test.YtdlehfnlibddcaaFimplcelled
namespace Go.Proofs.Ytdlehfnlibddcaa.P
open Go.RowKit Go.Proofs.YtdlehfnlibddcaaW.PrintWords Go.Proofs.YtdlehfnlibddcaaW.PrintLast Go.Proofs.YtdlehfnlibddcaaW.PrintMore
attribute [local go_sem] max2_int min2_int max_two min_two max_three min_three max_four min_four   -- for this text's walks alone
set_option linter.unusedVariables false
set_option linter.unusedSimpArgs false

/-! ### impl_IsMatrix: function 28 -/
def mem01 (s : List Bool) : Array Value := (s.map Value.bool).toArray
theorem mem01_at (s : List Bool) (i : Nat) (h : i < s.length) : (mem01 s)[i]? = some (.bool (s.getD i false)) := by
  unfold mem01
  simp [List.getElem?_map, List.getD_eq_getElem?_getD, List.getElem?_eq_getElem h]
theorem mem01_set (s : List Bool) (i : Nat) : (mem01 s).setIfInBounds i (.bool true) = mem01 (s.set i true) := by
  unfold mem01
  rw [List.setIfInBounds_toArray, List.map_set]
def seenB : List Int → Int → List Bool → Bool
  | [], _, _ => true
  | x :: xs, n, s => if x < 0 then false else if x ≥ n then false else if s.getD x.toNat false = true then false else seenB xs n (s.set x.toNat true)
def impl_IsMatrix.f (a0_0 : Int) (a0_1 : Int) (l0_2 : List Int) : Option Bool :=
  (impl_celled.f a0_0 a0_1).bind fun t => if t = true then (if ((l0_2.length : Int) != (wrap64 (a0_0 * a0_1))) = true then some false else some (seenB l0_2 (l0_2.length : Int) (List.replicate 256 false))) else some false
theorem celled_len {a b : Int} {n : Nat} (h : impl_celled.f a b = some true) (hn : ((n : Int) != (wrap64 (a * b))) = false) : n ≤ 256 := by
  unfold impl_celled.f at h
  split at h <;> try (simp at h; done)
  split at h <;> try (simp at h; done)
  split at h <;> try (simp at h; done)
  split at h <;> try (simp at h; done)
  have h1 := of_decide_eq_true (Option.some.inj h)
  have h2 : (n : Int) = wrap64 (a * b) := by simpa using hn
  omega
set_option maxRecDepth 100000 in
theorem zero86 : Try.zeroCells80 = mem01 (List.replicate 256 false) := by kernel_rfl
set_option maxHeartbeats 8000000 in
set_option maxRecDepth 100000 in
theorem impl_IsMatrix.calls (a0_0 : Int) (a0_1 : Int) (A0_2 : Option Addr) (c0_2 : Nat) (l0_2 : List Int) (r : Bool) (w : World) (hr0_2 : Kd.C (Kd.int .i64) w A0_2 l0_2.length l0_2) (hc0_2 : l0_2.length ≤ c0_2) (h : impl_IsMatrix.f a0_0 a0_1 l0_2 = some r) :
  Calls Try.prog 28 #[.agg #[.int .i64 a0_0, .int .i64 a0_1, .slice A0_2 l0_2.length c0_2]] w fun e w' => e = .returned (.bool r) ∧ Below w.heap.size w w' := by
 have huM := Try.underlying26
 have huA := Try.underlying80
 have HR0_2 := Aside0.mk hr0_2
 have HC0_2 := Aside0.mk hc0_2
 clear hr0_2 hc0_2
 have HB := Aside0.mk (Below.refl w.heap.size w)
 unfold impl_IsMatrix.f at h
 obtain ⟨t, A40, H⟩ := Option.bind_eq_some_iff.mp h
 clear h
 have A4 := Aside0.mk A40
 clear A40
 have H' := Aside0.mk H
 clear H
 go_enter Try.func28, Try.ntmps28
 go_upto_region 1 with (first | ((with_reducible refine gate_dst (N := 1) rfl ?_); refine box_event ?hg (N := 1) ?hd (cs := #[.int .i64 a0_0, .int .i64 a0_1, .slice A0_2 l0_2.length c0_2]) (t := 26) ?hr ?_; (case hd => rfl); (case hg => rfl); (case hr => first | (go_simp; done) | (go_simp; rfl)); intro gb111 hg w3 hbox hb; have n0_ := Aside0.mk (below_step (sW_ HB.out) hb); have n1_ := Aside0.mk (hbox); have n2_ := Aside0.mk ((by rw [hg]; exact (below_size (sW_ HB.out)) : w.heap.size ≤ gb111)); have n3_ := n2_; clear HB; have HB := n0_; have BK111 := n1_; have GW111 := n2_; have GE111 := n3_; clear n0_ n1_ n2_ n3_; clear hb hbox hg))
 (try simp only [Act.put, List.setIfInBounds_toArray, List.set_cons_zero, List.set_cons_succ])
 go_cut [22] (fun v22 wc => ∃ (b : Bool), v22 = .bool b ∧ Aside0 ((if b = true then some false else some (seenB l0_2 (l0_2.length : Int) (List.replicate 256 false))) = some r) ∧ Aside0 (b = false → l0_2.length ≤ 256) ∧ Aside0 (wc.heap[gb111]? = some (.cells #[.int .i64 a0_0, .int .i64 a0_1, (.slice A0_2 l0_2.length c0_2)] 26 (0, 0))) ∧ Aside0 (Below w.heap.size w wc))
 case first =>
  obtain ⟨hcz6_0, hcz6_1, hcz6_2, hfz6_0, hfz6_1, hfz6_2⟩ := sZ_ BK111.out
  cases t with
  | true =>
   go_wp2_with (first | ((with_reducible refine gate_callee (f := 87) rfl ?_); refine goesL_ (some 10) rfl rfl Try.func87 (by kernel_rfl) rfl #[.int .i64 a0_0, .int .i64 a0_1] rfl sL_ ?_; (with_reducible refine (impl_celled.calls a0_0 a0_1 true _ A4.out).mono ?_); rintro e w' ⟨rfl, ⟨nd, rfl⟩⟩; refine ⟨_, rfl, ?_⟩))
   go_meet
   case rel => exact ⟨((l0_2.length : Int) != (wrap64 (a0_0 * a0_1))), (by first | rfl | (simp; done) | (simp [*]; done)), ⟨H'.out⟩, ⟨fun hn => celled_len A4.out hn⟩, ⟨by refine sB_ ?_; exact BK111.out⟩, ⟨by repeat (first | (with_reducible first | exact HB.out | apply below_alloc | apply pw_below_drewN | apply below_drew1 | refine below_set ?_ GE111.out) | exact HB.out)⟩⟩
  | false =>
   go_wp2_with (first | ((with_reducible refine gate_callee (f := 87) rfl ?_); refine goesL_ (some 10) rfl rfl Try.func87 (by kernel_rfl) rfl #[.int .i64 a0_0, .int .i64 a0_1] rfl sL_ ?_; (with_reducible refine (impl_celled.calls a0_0 a0_1 false _ A4.out).mono ?_); rintro e w' ⟨rfl, ⟨nd, rfl⟩⟩; refine ⟨_, rfl, ?_⟩))
   go_meet
   case rel => exact ⟨true, (by first | rfl | (simp; done) | (simp [*]; done)), ⟨by have := H'.out; rw [if_neg (by decide)] at this; rw [if_pos rfl]; exact this⟩, ⟨fun hn => by cases hn⟩, ⟨by refine sB_ ?_; exact BK111.out⟩, ⟨by repeat (first | (with_reducible first | exact HB.out | apply below_alloc | apply pw_below_drewN | apply below_drew1 | refine below_set ?_ GE111.out) | exact HB.out)⟩⟩
 case rest =>
  clear H' A4 BK111 HB
  obtain ⟨b, rfl, HA, HL, BK111, HB⟩ := hcut
  cases b with
  | true =>
   have H := HA.out
   rw [if_pos rfl] at H
   obtain rfl := Option.some.inj H
   go_wp2
   go_ret
   exact ⟨rfl, by repeat (first | (with_reducible first | exact HB.out | apply below_alloc | apply pw_below_drewN | apply below_drew1 | refine below_set ?_ GE111.out) | exact HB.out)⟩
  | false =>
   have H := HA.out
   rw [if_neg (by decide)] at H
   have H := Option.some.inj H
   have H' := Aside0.mk H
   clear H HA
   obtain ⟨hcz6_0, hcz6_1, hcz6_2, hfz6_0, hfz6_1, hfz6_2⟩ := sZ_ BK111.out
   go_upto_region 4 with (first | fail)
   have NE : Aside0 (gb111 ≠ wc.heap.size) := ⟨by have := blk_lt BK111.out; omega⟩
   have GA : Aside0 (w.heap.size ≤ wc.heap.size) := ⟨below_size HB.out⟩
   have BA : Aside0 ((wc.alloc (.cells Try.zeroCells80 80 (0, 0))).heap[wc.heap.size]? = some (.cells (mem01 (List.replicate 256 false)) 80 (0, 0))) := ⟨by rw [← zero86]; exact blk_new _ _⟩
   have BB : Aside0 ((wc.alloc (.cells Try.zeroCells80 80 (0, 0))).heap[gb111]? = some (.cells #[.int .i64 a0_0, .int .i64 a0_1, (.slice A0_2 l0_2.length c0_2)] 26 (0, 0))) := ⟨blk_alloc BK111.out _⟩
   have HB2 : Aside0 (Below w.heap.size w (wc.alloc (.cells Try.zeroCells80 80 (0, 0)))) := ⟨below_alloc HB.out _⟩
   clear hcz6_0 hcz6_1 hcz6_2 hfz6_0 hfz6_1 hfz6_2 BK111 HB
   generalize wc.alloc (.cells Try.zeroCells80 80 (0, 0)) = wd at BA BB HB2 ⊢
   generalize wc.heap.size = ga at NE GA BA ⊢
   have hcz6_0 : wd.cell? ⟨gb111, 0, none⟩ = some (.int .i64 a0_0) := (blk_cell BB.out 0).trans rfl
   have hcz6_1 : wd.cell? ⟨gb111, 1, none⟩ = some (.int .i64 a0_1) := (blk_cell BB.out 1).trans rfl
   have hcz6_2 : wd.cell? ⟨gb111, 2, none⟩ = some (.slice A0_2 l0_2.length c0_2) := (blk_cell BB.out 2).trans rfl
   go_wp2
   clear hcz6_0 hcz6_1 hcz6_2
   go_loopw [26] (fun s26 wr => ∃ (i : Nat) (s : List Bool), i ≤ l0_2.length ∧ s26 = .int .i64 i ∧ s.length = 256 ∧ Aside0 (seenB (l0_2.drop i) (l0_2.length : Int) s = r) ∧ Aside0 (wr.heap[gb111]? = some (.cells #[.int .i64 a0_0, .int .i64 a0_1, (.slice A0_2 l0_2.length c0_2)] 26 (0, 0))) ∧ Aside0 (wr.heap[ga]? = some (.cells (mem01 s) 80 (0, 0))) ∧ Aside0 (Below w.heap.size w wr)) (fun s26 _ => ((l0_2.length : Int) - intOf s26).toNat)
   case atStart => exact ⟨0, List.replicate 256 false, Nat.zero_le _, rfl, List.length_replicate, H', BB, BA, HB2⟩
   case round =>
    clear H' BB BA HB2
    obtain ⟨i, s, hi, rfl, hs, H', BB, BA, HB⟩ := hrel
    by_cases hlt : (i : Int) < (l0_2.length : Int)
    ·have p116 : 0 ≤ (i : Int) := by omega
     have hx0 : l0_2.drop i = rd l0_2 (i : Int) :: l0_2.drop (i + 1) := by
      rw [List.drop_eq_getElem_cons (by omega)]
      congr 1
      unfold rd
      rw [Int.toNat_natCast, List.getD_eq_getElem?_getD, List.getElem?_eq_getElem (by omega)]
      rfl
     have H := H'.out
     clear H'
     rw [hx0] at H
     clear hx0
     unfold seenB at H
     obtain ⟨ad116, e116, hx116_0⟩ := Kd.at_int HR0_2.out (i : Int) p116 hlt
     cases e116
     replace hx116_0 := (HB.out.cell (World.block_lt_of_cell? w _ hx116_0)).trans hx116_0
     rw [Int.toNat_natCast] at hx116_0
     have hlt' := eq_true hlt
     have p116' := eq_true p116
     have hcz0 : wr.cell? ⟨gb111, 0, none⟩ = some (.int .i64 a0_0) := (blk_cell BB.out 0).trans rfl
     have hcz1 : wr.cell? ⟨gb111, 1, none⟩ = some (.int .i64 a0_1) := (blk_cell BB.out 1).trans rfl
     have hcz2 : wr.cell? ⟨gb111, 2, none⟩ = some (.slice (some ad116) l0_2.length c0_2) := (blk_cell BB.out 2).trans rfl
     generalize hx : rd l0_2 (i : Int) = x at H hx116_0
     by_cases c1 : x < 0
     ·rw [if_pos c1] at H
      subst H
      go_wp2
      go_ret
      exact ⟨rfl, by repeat (first | (with_reducible first | exact HB.out | apply below_alloc | apply pw_below_drewN | apply below_drew1 | refine below_set ?_ GA.out) | exact HB.out)⟩
     rw [if_neg c1] at H
     by_cases c2 : x ≥ (l0_2.length : Int)
     ·rw [if_pos c2] at H
      subst H
      go_wp2
      go_ret
      exact ⟨rfl, by repeat (first | (with_reducible first | exact HB.out | apply below_alloc | apply pw_below_drewN | apply below_drew1 | refine below_set ?_ GA.out) | exact HB.out)⟩
     rw [if_neg c2] at H
     have hx0 : 0 ≤ x := by omega
     have hx1 : x < 256 := by have := HL.out trivial; omega
     have hxc : wr.cell? ⟨ga, x.toNat, none⟩ = some (.bool (s.getD x.toNat false)) := (blk_cell BA.out x.toNat).trans (mem01_at s x.toNat (by omega))
     have hxf := blk_frozen BA.out x.toNat
     have hx0' := eq_true hx0
     have hx1' := eq_true hx1
     have c1' : decide (x < 0) = false := decide_eq_false c1
     have c2' : decide (x ≥ (l0_2.length : Int)) = false := decide_eq_false c2
     have c2'' : decide ((l0_2.length : Int) ≤ x) = false := decide_eq_false c2
     generalize hb : s.getD x.toNat false = b at H hxc
     cases b with
     | true =>
      rw [if_pos rfl] at H
      subst H
      go_wp2
      go_ret
      exact ⟨rfl, by repeat (first | (with_reducible first | exact HB.out | apply below_alloc | apply pw_below_drewN | apply below_drew1 | refine below_set ?_ GA.out) | exact HB.out)⟩
     | false =>
      rw [if_neg (by decide)] at H
      go_wp2
      have hw : wrap64 ((i : Int) + 1) = ((i + 1 : Nat) : Int) := by have := HL.out trivial; unfold wrap64; omega
      rw [hw]
      refine ⟨⟨i + 1, s.set x.toNat true, by omega, rfl, by rw [List.length_set]; exact hs, ⟨H⟩, ⟨blk_far BB.out NE.out _⟩, ⟨by rw [← mem01_set]; exact blk_set BA.out _ _⟩, ⟨below_set HB.out GA.out⟩⟩, ?_⟩
      show ((l0_2.length : Int) - ((i + 1 : Nat) : Int)).toNat < ((l0_2.length : Int) - (i : Int)).toNat
      omega
    have e : i = l0_2.length := by omega
    have H := H'.out
    rw [e, List.drop_length] at H
    obtain rfl : true = r := H
    clear H H'
    go_wp2
    go_ret
    exact ⟨rfl, HB.out⟩
def matB (w h : Int) (l : List Int) : Bool := celledB w h && (decide ((l.length : Int) = w * h) && seenB l (l.length : Int) (List.replicate 256 false))
theorem impl_IsMatrix.eq (w h : Int) (l : List Int) : impl_IsMatrix.f w h l = some (matB w h l) := by
 unfold impl_IsMatrix.f matB
 rw [impl_celled.eq, Option.bind_some]
 by_cases hc : celledB w h = true
 ·obtain ⟨h0, h1, h2, h3, h4⟩ := celled_spec hc
  have e0 : 0 ≤ w * h := Int.mul_nonneg (by omega) (by omega)
  have e1 : wrap64 (w * h) = w * h := by unfold wrap64; omega
  rw [if_pos hc, hc, e1]
  by_cases hl : (l.length : Int) = w * h
  ·rw [if_neg (by simp [hl]), decide_eq_true hl]
   rfl
  rw [if_pos (by simp [hl]), decide_eq_false hl]
  rfl
 rw [if_neg hc]
 rw [Bool.not_eq_true] at hc
 rw [hc]
 rfl
theorem mat_spec {w h : Int} {l : List Int} (hm : matB w h l = true) : 1 ≤ w ∧ w ≤ 256 ∧ 1 ≤ h ∧ h ≤ 256 ∧ w * h ≤ 256 ∧ (l.length : Int) = w * h ∧ seenB l (l.length : Int) (List.replicate 256 false) = true := by
 unfold matB at hm
 rw [Bool.and_eq_true, Bool.and_eq_true] at hm
 obtain ⟨a, b, c, d, e⟩ := celled_spec hm.1
 exact ⟨a, b, c, d, e, of_decide_eq_true hm.2.1, hm.2.2⟩
set_option maxHeartbeats 8000000 in
set_option maxRecDepth 100000 in
theorem isMatrix_calls (a0_0 : Int) (a0_1 : Int) (A0_2 : Option Addr) (c0_2 : Nat) (l0_2 : List Int) (w : World) (hr : Kd.C (Kd.int .i64) w A0_2 l0_2.length l0_2) (hc : l0_2.length ≤ c0_2) :
  Calls Try.prog 28 #[.agg #[.int .i64 a0_0, .int .i64 a0_1, .slice A0_2 l0_2.length c0_2]] w fun e w' => e = .returned (.bool (matB a0_0 a0_1 l0_2)) ∧ Below w.heap.size w w' :=
 impl_IsMatrix.calls (h := impl_IsMatrix.eq a0_0 a0_1 l0_2) (hr0_2 := hr) (hc0_2 := hc)


end Go.Proofs.Ytdlehfnlibddcaa.P
