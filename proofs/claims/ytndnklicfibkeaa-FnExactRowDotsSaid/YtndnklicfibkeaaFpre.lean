-- Written by tools/seatprint.py (over the kit's print, changed in memory). Not trusted: Lean checks it.
import Derived.Test.YtndnklicfibkeaaP0
namespace Go.Proofs.Ytndnklicfibkeaa.P
open Go.RowKit Go.Proofs.YtndnklicfibkeaaW.PrintWords Go.Proofs.YtndnklicfibkeaaW.PrintLast Go.Proofs.YtndnklicfibkeaaW.PrintMore
attribute [local go_sem] max2_int min2_int max_two min_two max_three min_three max_four min_four   -- for this text's walks alone
set_option linter.unusedVariables false
set_option linter.unusedSimpArgs false

/-! ### prelude: plain words -/
section
variable {P : Program} {ops : Array Oper} {Q : Exit → Act → World → Prop}
theorem goesF_ {oi : Oper} {N : Option Tmp} {a : Act} {w : World} {K : Act → World → Prop} {g : FuncId} {lb : Array Value} {s : Operand} {as_ : Array Operand} {ts : Array TypeId}
    (eg : ∀ args W, (callFunc g args).run P W = .ok (.enter g args) W) (args : Array Value)
    (hw : Region.wanted oi (yielded ops a.tmps) = true) (hN : oi.dst = N) (hop : oi.op = .call { callee := .value s, args := as_, argTypes := ts }) (hs : a.eval s = .func (.func g) #[] lb) (hargs : as_.map a.eval = args)
    (h : Calls P g (args ++ lb) w fun e w' => ∃ v, e = .returned v ∧ K (a.put N v) w') : if Region.wanted oi (yielded ops a.tmps) = true then Oper.wp P oi a w K Q else K (a.put N undef) w := by
  refine call_ g (args ++ lb) hw hN ?_ h
  have he := eg (args ++ lb) w
  unfold execOp
  simp [hop, resolve, Deferred.ofValue, invoke, hs, hargs, he]
theorem goesFL_ {rest : List Oper} {oi : Oper} {a : Act} {w : World} {g : FuncId} {lb : Array Value} {s : Operand} {as_ : Array Operand} {ts : Array TypeId} (N : Option Tmp) (hd : oi.dst = N) (hg : oi.guard = none)
    (eg : ∀ args W, (callFunc g args).run P W = .ok (.enter g args) W) (args : Array Value) (hop : oi.op = .call { callee := .value s, args := as_, argTypes := ts }) (hs : a.eval s = .func (.func g) #[] lb) (hargs : as_.map a.eval = args)
    (h : Calls P g (args ++ lb) w fun e w' => ∃ v, e = .returned v ∧ wpList P ops Q rest (a.put N v) w') : wpList P ops Q (oi :: rest) a w := by
  refine wpList_plain hg fun K hK => ?_
  have he := eg (args ++ lb) w
  have hrun : (execOp a.eval oi).run P w = .ok (.enter g (args ++ lb)) w := by
    unfold execOp
    simp [hop, resolve, Deferred.ofValue, invoke, hs, hargs, he]
  unfold Oper.wp
  rw [hrun, Oper.upon_enter]
  refine h.mono fun e w'' hh => ?_
  obtain ⟨v, rfl, hk⟩ := hh
  subst hd
  exact hK _ _ hk
end
def cellAt (n : Int) (f : Int → Int → Int) (i : Nat) : Int := f ((i : Int) % n) ((i : Int) / n)
def gridL (n : Int) (f : Int → Int → Int) (m : Nat) : List Int := (List.range m).map (cellAt n f)
theorem gridL_zero (n : Int) (f : Int → Int → Int) : gridL n f 0 = [] := rfl
theorem gridL_succ (n : Int) (f : Int → Int → Int) (m : Nat) : gridL n f (m + 1) = gridL n f m ++ [cellAt n f m] := by
  unfold gridL
  rw [List.range_succ, List.map_append]
  rfl
theorem gridL_len (n : Int) (f : Int → Int → Int) (m : Nat) : (gridL n f m).length = m := by simp [gridL]
theorem gridL_step (n : Int) (f : Int → Int → Int) (i j : Nat) (hi : (i : Int) < n) : gridL n f (j * n.toNat + (i + 1)) = gridL n f (j * n.toNat + i) ++ [f i j] := by
  rw [← Nat.add_assoc, gridL_succ]
  congr 2
  unfold cellAt
  obtain ⟨m, rfl⟩ := Int.eq_ofNat_of_zero_le (show (0 : Int) ≤ n by omega)
  have h1 : ((j * (m : Int).toNat + i : Nat) : Int) = (i : Int) + (m : Int) * (j : Int) := by
    rw [Int.toNat_natCast]
    push_cast
    rw [Int.mul_comm]
    omega
  rw [h1, Int.add_mul_emod_self_left, Int.emod_eq_of_lt (by omega) hi, Int.add_mul_ediv_left _ _ (by omega), Int.ediv_eq_zero_of_lt (by omega) hi, Int.zero_add]
theorem blk_new1 (w : World) (o o' : Obj) : ((w.alloc o).alloc o').heap[w.heap.size + 1]? = some o' := by
  have h := blk_new (w.alloc o) o'
  rwa [World.size_alloc] at h
theorem drawn_room (a0 a1 : Int) (i j : Nat) (h2 : a0 ≤ 256) (h3 : a1 ≤ 256) (hj : (j : Int) < a1) (hi : (i : Int) < a0) : (j * a0.toNat + i + 1) * 8 ≤ 140737488355328 := by
  have h := Nat.mul_le_mul (show j ≤ 256 by omega) (show a0.toNat ≤ 256 by omega)
  omega
def sizedB (w h : Int) : Bool := decide (1 ≤ w ∧ w ≤ 64 ∧ 1 ≤ h ∧ h ≤ 64 ∧ w * h ≤ 1024)
def badN (m n : Int) : Bool := !decide (0 ≤ n ∧ n ≤ m)
def withinB (l : List Int) (m : Int) : Bool := l.all fun n => decide (0 ≤ n ∧ n ≤ m)
def picB (w h : Int) (l : List Int) (m : Int) : Bool := sizedB w h && (decide ((l.length : Int) = w * h) && withinB l m)
theorem sized_spec {w h : Int} (hs : sizedB w h = true) : 1 ≤ w ∧ w ≤ 64 ∧ 1 ≤ h ∧ h ≤ 64 ∧ w * h ≤ 1024 := of_decide_eq_true hs
theorem pic_spec {w h : Int} {l : List Int} {m : Int} (hp : picB w h l m = true) : 1 ≤ w ∧ w ≤ 64 ∧ 1 ≤ h ∧ h ≤ 64 ∧ w * h ≤ 1024 ∧ (l.length : Int) = w * h ∧ ∀ x ∈ l, 0 ≤ x ∧ x ≤ m := by
  unfold picB at hp
  simp only [Bool.and_eq_true] at hp
  obtain ⟨h1, h2, h3⟩ := hp
  obtain ⟨a, b, c, d, e⟩ := sized_spec h1
  refine ⟨a, b, c, d, e, of_decide_eq_true h2, fun x hx => ?_⟩
  have := List.all_eq_true.1 h3 x hx
  exact of_decide_eq_true this
theorem rd_mem (l : List Int) (i : Int) (h0 : 0 ≤ i) (h : i < (l.length : Int)) : rd l i ∈ l := by
  unfold rd
  rw [List.getD_eq_getElem?_getD, List.getElem?_eq_getElem (by omega)]
  exact List.getElem_mem _
theorem idx_lt {w h x y : Int} (hx0 : 0 ≤ x) (hx : x < w) (hy0 : 0 ≤ y) (hy : y < h) : 0 ≤ y * w + x ∧ y * w + x < w * h := by
  have h1 : 0 ≤ y * w := Int.mul_nonneg hy0 (by omega)
  have h2 : (y + 1) * w ≤ h * w := Int.mul_le_mul_of_nonneg_right (by omega) (by omega)
  rw [Int.add_mul, Int.one_mul] at h2
  rw [Int.mul_comm w h]
  omega

end Go.Proofs.Ytndnklicfibkeaa.P
