import Derived.Test.YtbgbbfdmgpcgmaaProg
import Derived.KernelRfl
import GoSem.ClaimFn
import Derived.JoinedOf
namespace Go.Proofs.Ytbgbbfdmgpcgmaa.K
set_option linter.unusedSimpArgs false
/-! What a function leads to, off a table: the closure's fuel is enough, whatever it is. -/
def clo (t : Nat → List Nat) : Nat → List Nat → List Nat → List Nat
  | 0, _, seen => seen.reverse
  | _, [], seen => seen.reverse
  | n + 1, f :: todo, seen => if seen.contains f then clo t n todo seen else clo t n (t f ++ todo) (f :: seen)
theorem clo_nil (t : Nat → List Nat) (n : Nat) (seen : List Nat) : clo t n [] seen = seen.reverse := by cases n <;> rfl
theorem clo_cons (t : Nat → List Nat) (n : Nat) (f : Nat) (todo seen : List Nat) : clo t (n + 1) (f :: todo) seen = if seen.contains f then clo t n todo seen else clo t n (t f ++ todo) (f :: seen) := rfl
theorem via_clo (P : Program) (t : Nat → List Nat) (ht : ∀ g, (P.funcs[g]?).elim [] P.leadsTo = t g) (n : Nat) : ∀ todo seen, P.closureVia n todo seen = clo t n todo seen := by
  induction n with
  | zero => intro todo seen; rfl
  | succ n ih =>
    intro todo seen
    cases todo with
    | nil => rfl
    | cons f todo =>
      rw [clo_cons, ← ht f, ← ih, ← ih]
      rfl
/-- What is still to come at most: what waits, and what the unseen ones of the first m lead to. -/
def pot (t : Nat → List Nat) (m : Nat) (todo seen : List Nat) : Nat := todo.length + ((List.range m).map fun g => if seen.contains g then 0 else (t g).length).sum
theorem sum_le (l : List Nat) (f g : Nat → Nat) (h : ∀ x ∈ l, f x ≤ g x) : (l.map f).sum ≤ (l.map g).sum := by
  induction l with
  | nil => simp
  | cons a r ih =>
    simp only [List.map_cons, List.sum_cons]
    have h1 := h a (by simp)
    have h2 := ih (fun x hx => h x (by simp [hx]))
    omega
theorem sum_split (l : List Nat) (hn : l.Nodup) (f g : Nat → Nat) (a : Nat) (ha : a ∈ l) (hf : g a = 0) (h : ∀ x ∈ l, x ≠ a → f x = g x) : (l.map f).sum = f a + (l.map g).sum := by
  induction l with
  | nil => cases ha
  | cons b r ih =>
    simp only [List.map_cons, List.sum_cons]
    rw [List.nodup_cons] at hn
    rcases List.mem_cons.1 ha with rfl | ha'
    · have : (r.map f) = (r.map g) := List.map_congr_left (fun x hx => h x (by simp [hx]) (fun e => hn.1 (e ▸ hx)))
      rw [this, hf]
      omega
    · have hb : f b = g b := h b (by simp) (fun e => hn.1 (e ▸ ha'))
      rw [ih hn.2 ha' (fun x hx => h x (by simp [hx])), hb]
      omega
theorem pot_seen (t : Nat → List Nat) (m : Nat) (f : Nat) (todo seen : List Nat) (hs : seen.contains f = false) (hm : ∀ g, m ≤ g → t g = []) : pot t m (t f ++ todo) (f :: seen) + 1 = pot t m (f :: todo) seen := by
  unfold pot
  rw [List.length_append, List.length_cons]
  by_cases h : f < m
  · rw [sum_split (List.range m) List.nodup_range (fun g => if seen.contains g then 0 else (t g).length) (fun g => if (f :: seen).contains g then 0 else (t g).length) f (List.mem_range.2 h) (by simp) (fun x hx hne => by simp [List.contains_cons, hne])]
    simp only [hs]
    simp
    omega
  · have e : (List.range m).map (fun g => if (f :: seen).contains g then 0 else (t g).length) = (List.range m).map (fun g => if seen.contains g then 0 else (t g).length) :=
      List.map_congr_left (fun x hx => by have := List.mem_range.1 hx; simp [List.contains_cons, show ¬ x = f by omega])
    rw [e, hm f (by omega)]
    simp
    omega
theorem clo_stable (t : Nat → List Nat) (m : Nat) (hm : ∀ g, m ≤ g → t g = []) (n : Nat) : ∀ todo seen, pot t m todo seen ≤ n → clo t n todo seen = clo t (n + 1) todo seen := by
  induction n with
  | zero =>
    intro todo seen h
    cases todo with
    | nil => rfl
    | cons f r => unfold pot at h; rw [List.length_cons] at h; omega
  | succ n ih =>
    intro todo seen h
    cases todo with
    | nil => rfl
    | cons f r =>
      rw [clo_cons, clo_cons]
      cases hs : seen.contains f with
      | true =>
        simp only [if_true]
        refine ih r seen ?_
        unfold pot at h ⊢
        rw [List.length_cons] at h
        omega
      | false =>
        simp only [Bool.false_eq_true, if_false]
        refine ih _ _ ?_
        have := pot_seen t m f r seen hs hm
        omega
theorem clo_more (t : Nat → List Nat) (m : Nat) (hm : ∀ g, m ≤ g → t g = []) (todo seen : List Nat) (n : Nat) (h : pot t m todo seen ≤ n) (k : Nat) : clo t n todo seen = clo t (n + k) todo seen := by
  induction k with
  | zero => rfl
  | succ k ih => rw [ih, ← Nat.add_assoc]; exact clo_stable t m hm (n + k) todo seen (by omega)
theorem closure_eq (P : Program) (t : Nat → List Nat) (m : Nat) (ht : ∀ g, (P.funcs[g]?).elim [] P.leadsTo = t g) (hsz : P.funcs.size = m) (M : Nat) (hM : 1 + ((List.range m).map fun g => (t g).length).sum ≤ M) (f : Nat) : P.closure f = clo t M [f] [] := by
  have hm : ∀ g, m ≤ g → t g = [] := fun g hg => by rw [← ht g, Array.getElem?_eq_none (by omega)]; rfl
  have e : P.funcs.toList.map (fun g => (P.leadsTo g).length + 1) = (List.range m).map fun g => (t g).length + 1 := by
    apply List.ext_getElem
    · simp [hsz]
    · intro i h1 h2
      simp only [List.getElem_map, List.getElem_range, Array.getElem_toList]
      rw [← ht i, Array.getElem?_eq_getElem (by simpa using h1)]
      rfl
  have p0 : pot t m [f] [] = 1 + ((List.range m).map fun g => (t g).length).sum := by unfold pot; simp
  have q : ((List.range m).map fun g => (t g).length).sum ≤ ((List.range m).map fun g => (t g).length + 1).sum := sum_le _ _ _ (fun x _ => by omega)
  unfold Program.closure
  rw [e, via_clo P t ht]
  rcases Nat.le_total M (1 + ((List.range m).map fun g => (t g).length + 1).sum) with h | h
  · obtain ⟨k, hk⟩ := Nat.exists_eq_add_of_le h
    rw [hk]
    exact (clo_more t m hm [f] [] M (by omega) k).symm
  · obtain ⟨k, hk⟩ := Nat.exists_eq_add_of_le h
    rw [hk]
    exact clo_more t m hm [f] [] _ (by omega) k
/-- A function's row: what it leads to, whether it calls what is not followed, its name where it counts, the variables it names. -/
@[reducible] def Row := List Nat × Bool × Option String × List Nat × Option String
def none0 : Row := ([], false, none, [], none)
def phi (P : Program) (fn : Func) : Row :=
  (P.leadsTo fn, (match fn.body with | some c => c.unfollowed | none => entryCalls fn), (if fn.ours || fn.body.isNone || fn.name == "runtime.NumGoroutine" then some fn.name else none), fn.body.elim [] Code.globalsNamed, if fn.body.isNone then entryReads.lookup fn.name else none)
theorem tab_all {α : Type} (P : Program) (φ : Func → α) (d : α) (tab : List α) (h : P.funcs.toList.map φ = tab) (g : Nat) : (P.funcs[g]?).elim d φ = tab.getD g d := by
  subst h
  rw [List.getD_eq_getElem?_getD, List.getElem?_map, Array.getElem?_toList]
  cases P.funcs[g]? <;> rfl
def unfollowedT (t : Nat → List Nat) (tb : Nat → Row) (n f : Nat) : Bool := (clo t n [f] []).any fun g => (tb g).2.1
def recursesT (t : Nat → List Nat) (tb : Nat → Row) (n f : Nat) : Bool := ((clo t n [f] []).any fun g => (tb g).2.1) || (clo t n [f] []).any fun g => (t g).any fun h => (clo t n [h] []).contains g
def inPlaceT (t : Nat → List Nat) (tb : Nat → Row) (n f : Nat) : List String := (clo t n [f] []).filterMap fun g => (tb g).2.2.1
def varsT (P : Program) (t : Nat → List Nat) (tb : Nat → Row) (n f : Nat) : List String := ((((clo t n [f] []).flatMap fun g => (tb g).2.2.2.1).eraseDups).filterMap (fun g => (P.globals[g]?).map (·.name)) ++ (clo t n [f] []).filterMap fun g => (tb g).2.2.2.2).eraseDups
section
variable (P : Program) (tb : Nat → Row) (at_ : ∀ g : Nat, (P.funcs[g]?).elim none0 (phi P) = tb g) (t : Nat → List Nat) (n : Nat)
include at_
theorem leads_of (g : Nat) : (P.funcs[g]?).elim [] P.leadsTo = (tb g).1 := by
  rw [← at_ g]
  cases P.funcs[g]? <;> rfl
theorem unfollowed_of (hc : ∀ f, P.closure f = clo t n [f] []) (f : Nat) : P.unfollowed f = unfollowedT t tb n f := by
  unfold Program.unfollowed unfollowedT
  rw [hc]
  have e : (fun g : Nat => (P.funcs[g]?).any fun fn => match fn.body with | some c => c.unfollowed | none => entryCalls fn) = fun g => (tb g).2.1 := by
    funext g
    rw [← at_ g]
    cases P.funcs[g]? <;> rfl
  exact congrArg (fun q => (clo t n [f] []).any q) e
theorem recurses_of (ht : ∀ g : Nat, (P.funcs[g]?).elim [] P.leadsTo = t g) (hc : ∀ f, P.closure f = clo t n [f] []) (f : Nat) : P.recurses f = recursesT t tb n f := by
  unfold Program.recurses recursesT
  rw [unfollowed_of P tb at_ t n hc, hc]
  unfold unfollowedT
  have e : (fun g : Nat => ((P.funcs[g]?).elim [] P.leadsTo).any fun h => (P.closure h).contains g) = fun g => (t g).any fun h => (clo t n [h] []).contains g := by
    funext g
    rw [ht g]
    have e2 : (fun h => (P.closure h).contains g) = fun h => (clo t n [h] []).contains g := funext fun h => by rw [hc]
    rw [e2]
  rw [e]
theorem inPlace_of (hc : ∀ f, P.closure f = clo t n [f] []) (f : Nat) : P.inPlace f = inPlaceT t tb n f := by
  unfold Program.inPlace inPlaceT
  rw [hc]
  have e : (fun g : Nat => (P.funcs[g]?).bind fun fn => if fn.ours || fn.body.isNone || fn.name == "runtime.NumGoroutine" then some fn.name else none) = fun g => (tb g).2.2.1 := by
    funext g
    rw [← at_ g]
    cases P.funcs[g]? <;> rfl
  exact congrArg (fun q => (clo t n [f] []).filterMap q) e
theorem vars_of (hc : ∀ f, P.closure f = clo t n [f] []) (f : Nat) : P.varsNamed f = varsT P t tb n f := by
  unfold Program.varsNamed varsT
  rw [hc]
  have e1 : ∀ g : Nat, ((P.funcs[g]?).bind (·.body)).elim [] Code.globalsNamed = (tb g).2.2.2.1 := by
    intro g
    rw [← at_ g]
    cases P.funcs[g]? <;> rfl
  have e2 : ∀ g : Nat, ((P.funcs[g]?).bind fun fn => if fn.body.isNone then entryReads.lookup fn.name else none) = (tb g).2.2.2.2 := by
    intro g
    rw [← at_ g]
    cases P.funcs[g]? <;> rfl
  simp only [e1, e2]
end
theorem and_true' {a b : Bool} (h1 : a = true) (h2 : b = true) : (a && b) = true := by rw [h1, h2]; rfl
theorem make_of (P : Program) (ws : List (List Char)) (h : behindMainWord (wordsSigns P.initOrder.toList) = ['c', 'u', 't'] :: ws) : P.make = some .cut := by
  unfold Program.make
  rw [h]
  have e1 : (['c', 'u', 't'] == "gc".toList || ['c', 'u', 't'] == "spec".toList) = false := by decide
  have e2 : (['c', 'u', 't'] == "cut".toList) = true := by decide
  simp only [e1, e2, Bool.true_or, if_true, Bool.false_eq_true, if_false]
theorem lifts_of (ws : List (List Char)) : stripLifts liftWords (['c', 'u', 't'] :: ws) = ([], ['c', 'u', 't'] :: ws) := by
  have e : ∀ o ∈ liftWords, (['c', 'u', 't'] == o.toList) = false := by decide
  have g : ∀ L : List String, (∀ o ∈ L, (['c', 'u', 't'] == o.toList) = false) → stripLifts L (['c', 'u', 't'] :: ws) = ([], ['c', 'u', 't'] :: ws) := by
    intro L
    induction L with
    | nil => intro _; rfl
    | cons o r ih =>
      intro h
      unfold stripLifts
      rw [h o (by simp)]
      simp only [Bool.false_eq_true, if_false]
      exact ih (fun x hx => h x (by simp [hx]))
  exact g _ e
theorem mayEnter_of (P : Program) (ws : List (List Char)) (h : behindMainWord (wordsSigns P.initOrder.toList) = ['c', 'u', 't'] :: ws) (h1 : P.laysLater = false) (h2 : P.bearsReflect = false) (h3 : P.doorFits [] = true) : P.mayEnter = true := by
  unfold Program.mayEnter
  rw [h]
  simp only [lifts_of, h1, h2, h3]
  simp

theorem row0 : phi Try.prog Try.f0 = ([], false, some "main.main", [], none) := by kernel_rfl
theorem row1 : phi Try.prog Try.f1 = ([], false, some "gosem.cut", [], none) := by kernel_rfl
theorem row2 : phi Try.prog Try.f2 = ([1], false, none, [], none) := by kernel_rfl
theorem row3 : phi Try.prog Try.f3 = ([35, 36, 37, 38, 39, 36, 37, 39], false, none, [], none) := by kernel_rfl
theorem row4 : phi Try.prog Try.f4 = ([40, 41, 37, 38, 39, 41, 37, 39], false, none, [], none) := by kernel_rfl
theorem row5 : phi Try.prog Try.f5 = ([42, 44, 43, 44, 45, 44, 37], false, none, [], none) := by kernel_rfl
theorem row6 : phi Try.prog Try.f6 = ([46, 46, 48, 48, 47, 48, 48, 49, 48, 50, 48, 50], false, none, [], none) := by kernel_rfl
theorem row7 : phi Try.prog Try.f7 = ([51, 52, 52, 52, 53, 54, 55], false, none, [], none) := by kernel_rfl
theorem row8 : phi Try.prog Try.f8 = ([56, 57, 50, 58, 59, 57, 50, 59], false, none, [], none) := by kernel_rfl
theorem row9 : phi Try.prog Try.f9 = ([46, 48, 60, 48, 61, 48, 50], false, none, [], none) := by kernel_rfl
theorem row10 : phi Try.prog Try.f10 = ([46, 48, 62, 48, 63, 48, 50], false, none, [], none) := by kernel_rfl
theorem row11 : phi Try.prog Try.f11 = ([64, 65, 50, 58, 59, 65, 50, 59], false, none, [], none) := by kernel_rfl
theorem row12 : phi Try.prog Try.f12 = ([42, 44, 66, 44, 54, 44, 37], false, none, [], none) := by kernel_rfl
theorem row13 : phi Try.prog Try.f13 = ([51, 68, 67, 52, 69, 63, 70, 55, 71], false, none, [], none) := by kernel_rfl
theorem row14 : phi Try.prog Try.f14 = ([46, 48, 72, 48, 73, 48, 50], false, none, [], none) := by kernel_rfl
theorem row15 : phi Try.prog Try.f15 = ([67, 74, 55], false, none, [], none) := by kernel_rfl
theorem row16 : phi Try.prog Try.f16 = ([46, 48, 75, 48, 76, 48, 50], false, none, [], none) := by kernel_rfl
theorem row17 : phi Try.prog Try.f17 = ([46, 48, 77, 48, 70, 48, 50], false, none, [], none) := by kernel_rfl
theorem row18 : phi Try.prog Try.f18 = ([46, 46, 48, 48, 78, 48, 48, 79, 48, 50, 48, 50], false, none, [], none) := by kernel_rfl
theorem row19 : phi Try.prog Try.f19 = ([52, 52, 80], false, none, [], none) := by kernel_rfl
theorem row20 : phi Try.prog Try.f20 = ([42, 44, 81, 44, 82, 37, 44, 37, 38, 37, 38, 39, 44, 82, 37, 39], false, none, [], none) := by kernel_rfl
theorem row21 : phi Try.prog Try.f21 = ([67, 52, 52, 83, 76, 55, 84, 84, 85], false, none, [], none) := by kernel_rfl
theorem row22 : phi Try.prog Try.f22 = ([46, 48, 86, 48, 74, 48, 50], false, none, [], none) := by kernel_rfl
theorem row23 : phi Try.prog Try.f23 = ([67, 87, 87, 87, 87, 85, 88, 88, 85, 88, 87, 88, 85, 76, 55, 76, 55, 70, 70], false, none, [], none) := by kernel_rfl
theorem row24 : phi Try.prog Try.f24 = ([46, 48, 89, 48, 84, 50, 48, 50, 58, 50, 58, 59, 48, 84, 50, 59], false, none, [], none) := by kernel_rfl
theorem row25 : phi Try.prog Try.f25 = ([46, 48, 90, 48, 88, 50, 48, 50, 58, 50, 58, 59, 48, 88, 50, 59], false, none, [], none) := by kernel_rfl
theorem row26 : phi Try.prog Try.f26 = ([46, 48, 91, 48, 83, 50, 48, 50, 58, 50, 58, 59, 48, 83, 50, 59], false, none, [], none) := by kernel_rfl
theorem row27 : phi Try.prog Try.f27 = ([46, 48, 92, 48, 87, 50, 48, 50, 58, 50, 58, 59, 48, 87, 50, 59], false, none, [], none) := by kernel_rfl
theorem row28 : phi Try.prog Try.f28 = ([67, 68, 93, 94, 79, 79, 79, 85, 49, 85], false, none, [], none) := by kernel_rfl
theorem row29 : phi Try.prog Try.f29 = ([46, 46, 48, 48, 95, 48, 48, 94, 50, 48, 50, 48, 50, 58, 58, 50, 58, 59, 48, 48, 94, 50, 59], false, none, [], none) := by kernel_rfl
theorem row30 : phi Try.prog Try.f30 = ([46, 48, 96, 48, 97, 50, 48, 50, 58, 50, 58, 59, 48, 97, 50, 59], false, none, [], none) := by kernel_rfl
theorem row31 : phi Try.prog Try.f31 = ([98, 97, 97, 85, 76, 55, 68, 67, 62, 97, 76, 55, 63, 97, 85], false, none, [], none) := by kernel_rfl
theorem row32 : phi Try.prog Try.f32 = ([42, 44, 99, 44, 53, 100, 44, 37, 38, 100, 101, 102, 44, 53, 100, 102], false, none, [], none) := by kernel_rfl
theorem row33 : phi Try.prog Try.f33 = ([51, 67, 52, 57, 52, 69, 70], false, none, [], none) := by kernel_rfl
theorem row34 : phi Try.prog Try.f34 = ([104, 103, 104, 80, 100, 104, 100, 101, 100, 101, 102, 104, 80, 100, 102], false, none, [], none) := by kernel_rfl
theorem row35 : phi Try.prog Try.f35 = ([], false, none, [], none) := by kernel_rfl
theorem row36 : phi Try.prog Try.f36 = ([], false, none, [], none) := by kernel_rfl
theorem row37 : phi Try.prog Try.f37 = ([105], false, none, [], none) := by kernel_rfl
theorem row38 : phi Try.prog Try.f38 = ([], false, none, [], none) := by kernel_rfl
theorem row39 : phi Try.prog Try.f39 = ([], false, none, [], none) := by kernel_rfl
theorem row40 : phi Try.prog Try.f40 = ([], false, none, [], none) := by kernel_rfl
theorem row41 : phi Try.prog Try.f41 = ([], false, none, [], none) := by kernel_rfl
theorem row42 : phi Try.prog Try.f42 = ([], false, none, [], none) := by kernel_rfl
theorem row43 : phi Try.prog Try.f43 = ([106, 106, 106, 106], false, none, [], none) := by kernel_rfl
theorem row44 : phi Try.prog Try.f44 = ([107], false, none, [], none) := by kernel_rfl
theorem row45 : phi Try.prog Try.f45 = ([], false, none, [], none) := by kernel_rfl
theorem row46 : phi Try.prog Try.f46 = ([108], false, none, [], none) := by kernel_rfl
theorem row47 : phi Try.prog Try.f47 = ([109], false, none, [], none) := by kernel_rfl
theorem row48 : phi Try.prog Try.f48 = ([104], false, none, [], none) := by kernel_rfl
theorem row49 : phi Try.prog Try.f49 = ([110], false, none, [], none) := by kernel_rfl
theorem row50 : phi Try.prog Try.f50 = ([100], false, none, [], none) := by kernel_rfl
theorem row51 : phi Try.prog Try.f51 = ([112, 111], false, none, [], none) := by kernel_rfl
theorem row52 : phi Try.prog Try.f52 = ([], false, none, [], none) := by kernel_rfl
theorem row53 : phi Try.prog Try.f53 = ([45, 113], false, none, [], none) := by kernel_rfl
theorem row54 : phi Try.prog Try.f54 = ([45, 114], false, none, [], none) := by kernel_rfl
theorem row55 : phi Try.prog Try.f55 = ([], false, none, [], none) := by kernel_rfl
theorem row56 : phi Try.prog Try.f56 = ([115, 106, 116], false, none, [], none) := by kernel_rfl
theorem row57 : phi Try.prog Try.f57 = ([117, 119, 118], false, none, [], none) := by kernel_rfl
theorem row58 : phi Try.prog Try.f58 = ([101], false, none, [], none) := by kernel_rfl
theorem row59 : phi Try.prog Try.f59 = ([102], false, none, [], none) := by kernel_rfl
theorem row60 : phi Try.prog Try.f60 = ([120], false, none, [], none) := by kernel_rfl
theorem row61 : phi Try.prog Try.f61 = ([117, 121], false, none, [], none) := by kernel_rfl
theorem row62 : phi Try.prog Try.f62 = ([120], false, none, [], none) := by kernel_rfl
theorem row63 : phi Try.prog Try.f63 = ([61, 121], false, none, [], none) := by kernel_rfl
theorem row64 : phi Try.prog Try.f64 = ([115, 116], false, none, [], none) := by kernel_rfl
theorem row65 : phi Try.prog Try.f65 = ([117, 122, 118], false, none, [], none) := by kernel_rfl
theorem row66 : phi Try.prog Try.f66 = ([43], false, none, [], none) := by kernel_rfl
theorem row67 : phi Try.prog Try.f67 = ([112, 123], false, none, [], none) := by kernel_rfl
theorem row68 : phi Try.prog Try.f68 = ([], false, none, [], none) := by kernel_rfl
theorem row69 : phi Try.prog Try.f69 = ([45, 61, 124], false, none, [], none) := by kernel_rfl
theorem row70 : phi Try.prog Try.f70 = ([61, 125], false, none, [], none) := by kernel_rfl
theorem row71 : phi Try.prog Try.f71 = ([45, 61, 124], false, none, [], none) := by kernel_rfl
theorem row72 : phi Try.prog Try.f72 = ([60, 106, 106], false, none, [], none) := by kernel_rfl
theorem row73 : phi Try.prog Try.f73 = ([61], false, none, [], none) := by kernel_rfl
theorem row74 : phi Try.prog Try.f74 = ([61, 76, 126], false, none, [], none) := by kernel_rfl
theorem row75 : phi Try.prog Try.f75 = ([60], false, none, [], none) := by kernel_rfl
theorem row76 : phi Try.prog Try.f76 = ([61], false, none, [], none) := by kernel_rfl
theorem row77 : phi Try.prog Try.f77 = ([60], false, none, [], none) := by kernel_rfl
theorem row78 : phi Try.prog Try.f78 = ([127], false, none, [], none) := by kernel_rfl
theorem row79 : phi Try.prog Try.f79 = ([128], false, none, [], none) := by kernel_rfl
theorem row80 : phi Try.prog Try.f80 = ([61, 36, 124], false, none, [], none) := by kernel_rfl
theorem row81 : phi Try.prog Try.f81 = ([43, 43], false, none, [], none) := by kernel_rfl
theorem row82 : phi Try.prog Try.f82 = ([45, 45], false, none, [], none) := by kernel_rfl
theorem row83 : phi Try.prog Try.f83 = ([61, 117, 129, 118], false, none, [], none) := by kernel_rfl
theorem row84 : phi Try.prog Try.f84 = ([61, 117, 130, 118], false, none, [], none) := by kernel_rfl
theorem row85 : phi Try.prog Try.f85 = ([131], false, none, [], none) := by kernel_rfl
theorem row86 : phi Try.prog Try.f86 = ([60, 75, 132], false, none, [], none) := by kernel_rfl
theorem row87 : phi Try.prog Try.f87 = ([61, 133, 118], false, none, [], none) := by kernel_rfl
theorem row88 : phi Try.prog Try.f88 = ([61, 134, 118], false, none, [], none) := by kernel_rfl
theorem row89 : phi Try.prog Try.f89 = ([60, 115, 106, 106, 116], false, none, [], none) := by kernel_rfl
theorem row90 : phi Try.prog Try.f90 = ([60, 116], false, none, [], none) := by kernel_rfl
theorem row91 : phi Try.prog Try.f91 = ([60, 115, 116], false, none, [], none) := by kernel_rfl
theorem row92 : phi Try.prog Try.f92 = ([60, 116], false, none, [], none) := by kernel_rfl
theorem row93 : phi Try.prog Try.f93 = ([112, 116, 135], false, none, [], none) := by kernel_rfl
theorem row94 : phi Try.prog Try.f94 = ([128, 136, 118], false, none, [], none) := by kernel_rfl
theorem row95 : phi Try.prog Try.f95 = ([127, 116], false, none, [], none) := by kernel_rfl
theorem row96 : phi Try.prog Try.f96 = ([60, 62, 116], false, none, [], none) := by kernel_rfl
theorem row97 : phi Try.prog Try.f97 = ([61, 63, 137, 118], false, none, [], none) := by kernel_rfl
theorem row98 : phi Try.prog Try.f98 = ([112, 135, 135, 116, 135, 138, 138, 135], false, none, [], none) := by kernel_rfl
theorem row99 : phi Try.prog Try.f99 = ([43, 106, 66, 139], false, none, [], none) := by kernel_rfl
theorem row100 : phi Try.prog Try.f100 = ([], false, none, [], none) := by kernel_rfl
theorem row101 : phi Try.prog Try.f101 = ([], false, none, [], none) := by kernel_rfl
theorem row102 : phi Try.prog Try.f102 = ([], false, none, [], none) := by kernel_rfl
theorem row103 : phi Try.prog Try.f103 = ([60, 35, 140], false, none, [], none) := by kernel_rfl
theorem row104 : phi Try.prog Try.f104 = ([], false, none, [], none) := by kernel_rfl
theorem row105 : phi Try.prog Try.f105 = ([], false, none, [], none) := by kernel_rfl
theorem row106 : phi Try.prog Try.f106 = ([], false, none, [], none) := by kernel_rfl
theorem row107 : phi Try.prog Try.f107 = ([], false, none, [], none) := by kernel_rfl
theorem row108 : phi Try.prog Try.f108 = ([], false, none, [], none) := by kernel_rfl
theorem row109 : phi Try.prog Try.f109 = ([], false, none, [], none) := by kernel_rfl
theorem row110 : phi Try.prog Try.f110 = ([], false, none, [], none) := by kernel_rfl
theorem row111 : phi Try.prog Try.f111 = ([135, 40, 35, 135, 135, 135, 135, 135, 43], false, none, [], none) := by kernel_rfl
theorem row112 : phi Try.prog Try.f112 = ([], false, none, [], none) := by kernel_rfl
theorem row113 : phi Try.prog Try.f113 = ([114, 141], false, none, [], none) := by kernel_rfl
theorem row114 : phi Try.prog Try.f114 = ([], false, none, [], none) := by kernel_rfl
theorem row115 : phi Try.prog Try.f115 = ([106, 106], false, none, [], none) := by kernel_rfl
theorem row116 : phi Try.prog Try.f116 = ([], false, none, [], none) := by kernel_rfl
theorem row117 : phi Try.prog Try.f117 = ([], false, none, [], none) := by kernel_rfl
theorem row118 : phi Try.prog Try.f118 = ([], true, none, [], none) := by kernel_rfl
theorem row119 : phi Try.prog Try.f119 = ([], false, none, [], none) := by kernel_rfl
theorem row120 : phi Try.prog Try.f120 = ([115, 106], false, none, [], none) := by kernel_rfl
theorem row121 : phi Try.prog Try.f121 = ([143, 142], false, none, [], none) := by kernel_rfl
theorem row122 : phi Try.prog Try.f122 = ([], false, none, [], none) := by kernel_rfl
theorem row123 : phi Try.prog Try.f123 = ([135, 135, 116, 135, 135, 144, 135], false, none, [], none) := by kernel_rfl
theorem row124 : phi Try.prog Try.f124 = ([145, 118, 146, 113], false, none, [], none) := by kernel_rfl
theorem row125 : phi Try.prog Try.f125 = ([], false, none, [], none) := by kernel_rfl
theorem row126 : phi Try.prog Try.f126 = ([], false, none, [], none) := by kernel_rfl
theorem row127 : phi Try.prog Try.f127 = ([60, 60], false, none, [], none) := by kernel_rfl
theorem row128 : phi Try.prog Try.f128 = ([61, 61], false, none, [], none) := by kernel_rfl
theorem row129 : phi Try.prog Try.f129 = ([], false, none, [], none) := by kernel_rfl
theorem row130 : phi Try.prog Try.f130 = ([], false, none, [], none) := by kernel_rfl
theorem row131 : phi Try.prog Try.f131 = ([], false, none, [], none) := by kernel_rfl
theorem row132 : phi Try.prog Try.f132 = ([], false, none, [], none) := by kernel_rfl
theorem row133 : phi Try.prog Try.f133 = ([], false, none, [], none) := by kernel_rfl
theorem row134 : phi Try.prog Try.f134 = ([], false, none, [], none) := by kernel_rfl
theorem row135 : phi Try.prog Try.f135 = ([147, 147, 147, 147, 147], false, none, [], none) := by kernel_rfl
theorem row136 : phi Try.prog Try.f136 = ([], false, none, [], none) := by kernel_rfl
theorem row137 : phi Try.prog Try.f137 = ([], false, none, [], none) := by kernel_rfl
theorem row138 : phi Try.prog Try.f138 = ([135], false, none, [], none) := by kernel_rfl
theorem row139 : phi Try.prog Try.f139 = ([148], false, none, [], none) := by kernel_rfl
theorem row140 : phi Try.prog Try.f140 = ([66, 139, 106], false, none, [], none) := by kernel_rfl
theorem row141 : phi Try.prog Try.f141 = ([149], false, none, [], none) := by kernel_rfl
theorem row142 : phi Try.prog Try.f142 = ([150], false, none, [], none) := by kernel_rfl
theorem row143 : phi Try.prog Try.f143 = ([], false, none, [], none) := by kernel_rfl
theorem row144 : phi Try.prog Try.f144 = ([135], false, none, [], none) := by kernel_rfl
theorem row145 : phi Try.prog Try.f145 = ([151], false, none, [], none) := by kernel_rfl
theorem row146 : phi Try.prog Try.f146 = ([], false, none, [], none) := by kernel_rfl
theorem row147 : phi Try.prog Try.f147 = ([], false, none, [], none) := by kernel_rfl
theorem row148 : phi Try.prog Try.f148 = ([], false, none, [], none) := by kernel_rfl
theorem row149 : phi Try.prog Try.f149 = ([], false, none, [], none) := by kernel_rfl
theorem row150 : phi Try.prog Try.f150 = ([], true, none, [], none) := by kernel_rfl
theorem row151 : phi Try.prog Try.f151 = ([], false, none, [], none) := by kernel_rfl
theorem row152 : phi Try.prog Try.f152 = ([], false, some "(runtime.boundsError).Error", [], none) := by kernel_rfl
theorem row153 : phi Try.prog Try.f153 = ([], false, some "(runtime.boundsError).RuntimeError", [], none) := by kernel_rfl
theorem row154 : phi Try.prog Try.f154 = ([], false, some "(runtime.errorString).Error", [], none) := by kernel_rfl
theorem row155 : phi Try.prog Try.f155 = ([], false, some "(runtime.errorString).RuntimeError", [], none) := by kernel_rfl
theorem row156 : phi Try.prog Try.f156 = ([], false, some "(runtime.plainError).Error", [], none) := by kernel_rfl
theorem row157 : phi Try.prog Try.f157 = ([], false, some "(runtime.plainError).RuntimeError", [], none) := by kernel_rfl
theorem row158 : phi Try.prog Try.f158 = ([], false, some "(runtime.errorAddressString).Error", [], none) := by kernel_rfl
theorem row159 : phi Try.prog Try.f159 = ([], false, some "(runtime.errorAddressString).RuntimeError", [], none) := by kernel_rfl
theorem row160 : phi Try.prog Try.f160 = ([], false, some "(*runtime.TypeAssertionError).Error", [], none) := by kernel_rfl
theorem row161 : phi Try.prog Try.f161 = ([], false, some "(*runtime.TypeAssertionError).RuntimeError", [], none) := by kernel_rfl
theorem row162 : phi Try.prog Try.f162 = ([], false, some "(*runtime.PanicNilError).Error", [], none) := by kernel_rfl
theorem row163 : phi Try.prog Try.f163 = ([], false, some "(*runtime.PanicNilError).RuntimeError", [], none) := by kernel_rfl
theorem row164 : phi Try.prog Try.f164 = ([], false, some "(*internal/abi.Type).Align", [], none) := by kernel_rfl
theorem row165 : phi Try.prog Try.f165 = ([], false, some "(internal/runtime/maps.unhashableTypeError).Error", [], none) := by kernel_rfl
theorem row166 : phi Try.prog Try.f166 = ([], false, some "(internal/runtime/maps.unhashableTypeError).RuntimeError", [], none) := by kernel_rfl
theorem row167 : phi Try.prog Try.f167 = ([], false, some "(internal/abi.Kind).String", [], none) := by kernel_rfl
def tab : List Row := [([], false, some "main.main", [], none), ([], false, some "gosem.cut", [], none), ([1], false, none, [], none), ([35, 36, 37, 38, 39, 36, 37, 39], false, none, [], none), ([40, 41, 37, 38, 39, 41, 37, 39], false, none, [], none), ([42, 44, 43, 44, 45, 44, 37], false, none, [], none), ([46, 46, 48, 48, 47, 48, 48, 49, 48, 50, 48, 50], false, none, [], none), ([51, 52, 52, 52, 53, 54, 55], false, none, [], none), ([56, 57, 50, 58, 59, 57, 50, 59], false, none, [], none), ([46, 48, 60, 48, 61, 48, 50], false, none, [], none), ([46, 48, 62, 48, 63, 48, 50], false, none, [], none), ([64, 65, 50, 58, 59, 65, 50, 59], false, none, [], none), ([42, 44, 66, 44, 54, 44, 37], false, none, [], none), ([51, 68, 67, 52, 69, 63, 70, 55, 71], false, none, [], none), ([46, 48, 72, 48, 73, 48, 50], false, none, [], none), ([67, 74, 55], false, none, [], none), ([46, 48, 75, 48, 76, 48, 50], false, none, [], none), ([46, 48, 77, 48, 70, 48, 50], false, none, [], none), ([46, 46, 48, 48, 78, 48, 48, 79, 48, 50, 48, 50], false, none, [], none), ([52, 52, 80], false, none, [], none), ([42, 44, 81, 44, 82, 37, 44, 37, 38, 37, 38, 39, 44, 82, 37, 39], false, none, [], none), ([67, 52, 52, 83, 76, 55, 84, 84, 85], false, none, [], none), ([46, 48, 86, 48, 74, 48, 50], false, none, [], none), ([67, 87, 87, 87, 87, 85, 88, 88, 85, 88, 87, 88, 85, 76, 55, 76, 55, 70, 70], false, none, [], none), ([46, 48, 89, 48, 84, 50, 48, 50, 58, 50, 58, 59, 48, 84, 50, 59], false, none, [], none), ([46, 48, 90, 48, 88, 50, 48, 50, 58, 50, 58, 59, 48, 88, 50, 59], false, none, [], none), ([46, 48, 91, 48, 83, 50, 48, 50, 58, 50, 58, 59, 48, 83, 50, 59], false, none, [], none), ([46, 48, 92, 48, 87, 50, 48, 50, 58, 50, 58, 59, 48, 87, 50, 59], false, none, [], none), ([67, 68, 93, 94, 79, 79, 79, 85, 49, 85], false, none, [], none), ([46, 46, 48, 48, 95, 48, 48, 94, 50, 48, 50, 48, 50, 58, 58, 50, 58, 59, 48, 48, 94, 50, 59], false, none, [], none), ([46, 48, 96, 48, 97, 50, 48, 50, 58, 50, 58, 59, 48, 97, 50, 59], false, none, [], none), ([98, 97, 97, 85, 76, 55, 68, 67, 62, 97, 76, 55, 63, 97, 85], false, none, [], none), ([42, 44, 99, 44, 53, 100, 44, 37, 38, 100, 101, 102, 44, 53, 100, 102], false, none, [], none), ([51, 67, 52, 57, 52, 69, 70], false, none, [], none), ([104, 103, 104, 80, 100, 104, 100, 101, 100, 101, 102, 104, 80, 100, 102], false, none, [], none), ([], false, none, [], none), ([], false, none, [], none), ([105], false, none, [], none), ([], false, none, [], none), ([], false, none, [], none), ([], false, none, [], none), ([], false, none, [], none), ([], false, none, [], none), ([106, 106, 106, 106], false, none, [], none), ([107], false, none, [], none), ([], false, none, [], none), ([108], false, none, [], none), ([109], false, none, [], none), ([104], false, none, [], none), ([110], false, none, [], none), ([100], false, none, [], none), ([112, 111], false, none, [], none), ([], false, none, [], none), ([45, 113], false, none, [], none), ([45, 114], false, none, [], none), ([], false, none, [], none), ([115, 106, 116], false, none, [], none), ([117, 119, 118], false, none, [], none), ([101], false, none, [], none), ([102], false, none, [], none), ([120], false, none, [], none), ([117, 121], false, none, [], none), ([120], false, none, [], none), ([61, 121], false, none, [], none), ([115, 116], false, none, [], none), ([117, 122, 118], false, none, [], none), ([43], false, none, [], none), ([112, 123], false, none, [], none), ([], false, none, [], none), ([45, 61, 124], false, none, [], none), ([61, 125], false, none, [], none), ([45, 61, 124], false, none, [], none), ([60, 106, 106], false, none, [], none), ([61], false, none, [], none), ([61, 76, 126], false, none, [], none), ([60], false, none, [], none), ([61], false, none, [], none), ([60], false, none, [], none), ([127], false, none, [], none), ([128], false, none, [], none), ([61, 36, 124], false, none, [], none), ([43, 43], false, none, [], none), ([45, 45], false, none, [], none), ([61, 117, 129, 118], false, none, [], none), ([61, 117, 130, 118], false, none, [], none), ([131], false, none, [], none), ([60, 75, 132], false, none, [], none), ([61, 133, 118], false, none, [], none), ([61, 134, 118], false, none, [], none), ([60, 115, 106, 106, 116], false, none, [], none), ([60, 116], false, none, [], none), ([60, 115, 116], false, none, [], none), ([60, 116], false, none, [], none), ([112, 116, 135], false, none, [], none), ([128, 136, 118], false, none, [], none), ([127, 116], false, none, [], none), ([60, 62, 116], false, none, [], none), ([61, 63, 137, 118], false, none, [], none), ([112, 135, 135, 116, 135, 138, 138, 135], false, none, [], none), ([43, 106, 66, 139], false, none, [], none), ([], false, none, [], none), ([], false, none, [], none), ([], false, none, [], none), ([60, 35, 140], false, none, [], none), ([], false, none, [], none), ([], false, none, [], none), ([], false, none, [], none), ([], false, none, [], none), ([], false, none, [], none), ([], false, none, [], none), ([], false, none, [], none), ([135, 40, 35, 135, 135, 135, 135, 135, 43], false, none, [], none), ([], false, none, [], none), ([114, 141], false, none, [], none), ([], false, none, [], none), ([106, 106], false, none, [], none), ([], false, none, [], none), ([], false, none, [], none), ([], true, none, [], none), ([], false, none, [], none), ([115, 106], false, none, [], none), ([143, 142], false, none, [], none), ([], false, none, [], none), ([135, 135, 116, 135, 135, 144, 135], false, none, [], none), ([145, 118, 146, 113], false, none, [], none), ([], false, none, [], none), ([], false, none, [], none), ([60, 60], false, none, [], none), ([61, 61], false, none, [], none), ([], false, none, [], none), ([], false, none, [], none), ([], false, none, [], none), ([], false, none, [], none), ([], false, none, [], none), ([], false, none, [], none), ([147, 147, 147, 147, 147], false, none, [], none), ([], false, none, [], none), ([], false, none, [], none), ([135], false, none, [], none), ([148], false, none, [], none), ([66, 139, 106], false, none, [], none), ([149], false, none, [], none), ([150], false, none, [], none), ([], false, none, [], none), ([135], false, none, [], none), ([151], false, none, [], none), ([], false, none, [], none), ([], false, none, [], none), ([], false, none, [], none), ([], false, none, [], none), ([], true, none, [], none), ([], false, none, [], none), ([], false, some "(runtime.boundsError).Error", [], none), ([], false, some "(runtime.boundsError).RuntimeError", [], none), ([], false, some "(runtime.errorString).Error", [], none), ([], false, some "(runtime.errorString).RuntimeError", [], none), ([], false, some "(runtime.plainError).Error", [], none), ([], false, some "(runtime.plainError).RuntimeError", [], none), ([], false, some "(runtime.errorAddressString).Error", [], none), ([], false, some "(runtime.errorAddressString).RuntimeError", [], none), ([], false, some "(*runtime.TypeAssertionError).Error", [], none), ([], false, some "(*runtime.TypeAssertionError).RuntimeError", [], none), ([], false, some "(*runtime.PanicNilError).Error", [], none), ([], false, some "(*runtime.PanicNilError).RuntimeError", [], none), ([], false, some "(*internal/abi.Type).Align", [], none), ([], false, some "(internal/runtime/maps.unhashableTypeError).Error", [], none), ([], false, some "(internal/runtime/maps.unhashableTypeError).RuntimeError", [], none), ([], false, some "(internal/abi.Kind).String", [], none)]
set_option maxRecDepth 100000 in
theorem tab_ok : Try.prog.funcs.toList.map (phi Try.prog) = tab := by
  show [phi Try.prog Try.f0, phi Try.prog Try.f1, phi Try.prog Try.f2, phi Try.prog Try.f3, phi Try.prog Try.f4, phi Try.prog Try.f5, phi Try.prog Try.f6, phi Try.prog Try.f7, phi Try.prog Try.f8, phi Try.prog Try.f9, phi Try.prog Try.f10, phi Try.prog Try.f11, phi Try.prog Try.f12, phi Try.prog Try.f13, phi Try.prog Try.f14, phi Try.prog Try.f15, phi Try.prog Try.f16, phi Try.prog Try.f17, phi Try.prog Try.f18, phi Try.prog Try.f19, phi Try.prog Try.f20, phi Try.prog Try.f21, phi Try.prog Try.f22, phi Try.prog Try.f23, phi Try.prog Try.f24, phi Try.prog Try.f25, phi Try.prog Try.f26, phi Try.prog Try.f27, phi Try.prog Try.f28, phi Try.prog Try.f29, phi Try.prog Try.f30, phi Try.prog Try.f31, phi Try.prog Try.f32, phi Try.prog Try.f33, phi Try.prog Try.f34, phi Try.prog Try.f35, phi Try.prog Try.f36, phi Try.prog Try.f37, phi Try.prog Try.f38, phi Try.prog Try.f39, phi Try.prog Try.f40, phi Try.prog Try.f41, phi Try.prog Try.f42, phi Try.prog Try.f43, phi Try.prog Try.f44, phi Try.prog Try.f45, phi Try.prog Try.f46, phi Try.prog Try.f47, phi Try.prog Try.f48, phi Try.prog Try.f49, phi Try.prog Try.f50, phi Try.prog Try.f51, phi Try.prog Try.f52, phi Try.prog Try.f53, phi Try.prog Try.f54, phi Try.prog Try.f55, phi Try.prog Try.f56, phi Try.prog Try.f57, phi Try.prog Try.f58, phi Try.prog Try.f59, phi Try.prog Try.f60, phi Try.prog Try.f61, phi Try.prog Try.f62, phi Try.prog Try.f63, phi Try.prog Try.f64, phi Try.prog Try.f65, phi Try.prog Try.f66, phi Try.prog Try.f67, phi Try.prog Try.f68, phi Try.prog Try.f69, phi Try.prog Try.f70, phi Try.prog Try.f71, phi Try.prog Try.f72, phi Try.prog Try.f73, phi Try.prog Try.f74, phi Try.prog Try.f75, phi Try.prog Try.f76, phi Try.prog Try.f77, phi Try.prog Try.f78, phi Try.prog Try.f79, phi Try.prog Try.f80, phi Try.prog Try.f81, phi Try.prog Try.f82, phi Try.prog Try.f83, phi Try.prog Try.f84, phi Try.prog Try.f85, phi Try.prog Try.f86, phi Try.prog Try.f87, phi Try.prog Try.f88, phi Try.prog Try.f89, phi Try.prog Try.f90, phi Try.prog Try.f91, phi Try.prog Try.f92, phi Try.prog Try.f93, phi Try.prog Try.f94, phi Try.prog Try.f95, phi Try.prog Try.f96, phi Try.prog Try.f97, phi Try.prog Try.f98, phi Try.prog Try.f99, phi Try.prog Try.f100, phi Try.prog Try.f101, phi Try.prog Try.f102, phi Try.prog Try.f103, phi Try.prog Try.f104, phi Try.prog Try.f105, phi Try.prog Try.f106, phi Try.prog Try.f107, phi Try.prog Try.f108, phi Try.prog Try.f109, phi Try.prog Try.f110, phi Try.prog Try.f111, phi Try.prog Try.f112, phi Try.prog Try.f113, phi Try.prog Try.f114, phi Try.prog Try.f115, phi Try.prog Try.f116, phi Try.prog Try.f117, phi Try.prog Try.f118, phi Try.prog Try.f119, phi Try.prog Try.f120, phi Try.prog Try.f121, phi Try.prog Try.f122, phi Try.prog Try.f123, phi Try.prog Try.f124, phi Try.prog Try.f125, phi Try.prog Try.f126, phi Try.prog Try.f127, phi Try.prog Try.f128, phi Try.prog Try.f129, phi Try.prog Try.f130, phi Try.prog Try.f131, phi Try.prog Try.f132, phi Try.prog Try.f133, phi Try.prog Try.f134, phi Try.prog Try.f135, phi Try.prog Try.f136, phi Try.prog Try.f137, phi Try.prog Try.f138, phi Try.prog Try.f139, phi Try.prog Try.f140, phi Try.prog Try.f141, phi Try.prog Try.f142, phi Try.prog Try.f143, phi Try.prog Try.f144, phi Try.prog Try.f145, phi Try.prog Try.f146, phi Try.prog Try.f147, phi Try.prog Try.f148, phi Try.prog Try.f149, phi Try.prog Try.f150, phi Try.prog Try.f151, phi Try.prog Try.f152, phi Try.prog Try.f153, phi Try.prog Try.f154, phi Try.prog Try.f155, phi Try.prog Try.f156, phi Try.prog Try.f157, phi Try.prog Try.f158, phi Try.prog Try.f159, phi Try.prog Try.f160, phi Try.prog Try.f161, phi Try.prog Try.f162, phi Try.prog Try.f163, phi Try.prog Try.f164, phi Try.prog Try.f165, phi Try.prog Try.f166, phi Try.prog Try.f167] = tab
  rw [row0, row1, row2, row3, row4, row5, row6, row7, row8, row9, row10, row11, row12, row13, row14, row15, row16, row17, row18, row19, row20, row21, row22, row23, row24, row25, row26, row27, row28, row29, row30, row31, row32, row33, row34, row35, row36, row37, row38, row39, row40, row41, row42, row43, row44, row45, row46, row47, row48, row49, row50, row51, row52, row53, row54, row55, row56, row57, row58, row59, row60, row61, row62, row63, row64, row65, row66, row67, row68, row69, row70, row71, row72, row73, row74, row75, row76, row77, row78, row79, row80, row81, row82, row83, row84, row85, row86, row87, row88, row89, row90, row91, row92, row93, row94, row95, row96, row97, row98, row99, row100, row101, row102, row103, row104, row105, row106, row107, row108, row109, row110, row111, row112, row113, row114, row115, row116, row117, row118, row119, row120, row121, row122, row123, row124, row125, row126, row127, row128, row129, row130, row131, row132, row133, row134, row135, row136, row137, row138, row139, row140, row141, row142, row143, row144, row145, row146, row147, row148, row149, row150, row151, row152, row153, row154, row155, row156, row157, row158, row159, row160, row161, row162, row163, row164, row165, row166, row167]
  rfl
def order : List Char := ['h', 'a', 'r', 'n', 'e', 's', 's', ' ', '5', '0', 'b', '4', '3', 'b', '2', '3', '9', '5', '0', '3', '3', 'f', '5', 'e', '0', 'd', '0', '4', '1', 'b', 'c', 'b', '9', '6', 'f', '6', '6', 'd', '0', '3', '1', 'c', '8', '6', 'b', 'b', '7', 'd', 'c', '0', '9', '9', '5', '7', '3', '6', '4', '0', 'b', 'd', '6', '9', '8', '8', 'b', '0', '6', '1', 'd', 'f', 'f', '5', ' ', 'c', 'u', 't', ' ', 'a', 't', ' ', 'l', 'o', 'o', 'p', '.', 'e', 'x', 'a', 'm', 'p', 'l', 'e', '/', 'g', '0', '3', '2', '2', '9', '/', 'l', 'a', 'w', 's', '.', 'F', 'n', 'E', 'x', 'a', 'c', 't', 'P', 'l', 'a', 'i', 'n', 'K', 'e', 'r', 'n', 'e', 'l', ' ', 'l', 'o', 'o', 'p', '.', 'e', 'x', 'a', 'm', 'p', 'l', 'e', '/', 'g', '0', '3', '2', '2', '9', '/', 'l', 'a', 'w', 's', '.', 'F', 'n', 'E', 'x', 'a', 'c', 't', 'S', 't', 'e', 'i', 'n', 'K', 'e', 'r', 'n', 'e', 'l', ' ', 'l', 'o', 'o', 'p', '.', 'e', 'x', 'a', 'm', 'p', 'l', 'e', '/', 'g', '0', '3', '2', '2', '9', '/', 'l', 'a', 'w', 's', '.', 'F', 'n', 'E', 'x', 'a', 'c', 't', 'I', 's', 'K', 'e', 'r', 'n', 'e', 'l', ' ', 'l', 'o', 'o', 'p', '.', 'e', 'x', 'a', 'm', 'p', 'l', 'e', '/', 'g', '0', '3', '2', '2', '9', '/', 'l', 'a', 'w', 's', '.', 'F', 'n', 'E', 'x', 'a', 'c', 't', 'S', 'a', 'm', 'e', 'P', 'i', 'c', 't', 'u', 'r', 'e', ' ', 'l', 'o', 'o', 'p', '.', 'e', 'x', 'a', 'm', 'p', 'l', 'e', '/', 'g', '0', '3', '2', '2', '9', '/', 'l', 'a', 'w', 's', '.', 'F', 'n', 'S', 'h', 'a', 'r', 'e', 's', ' ', 'l', 'o', 'o', 'p', '.', 'e', 'x', 'a', 'm', 'p', 'l', 'e', '/', 'g', '0', '3', '2', '2', '9', '/', 'l', 'a', 'w', 's', '.', 'F', 'n', 'E', 'x', 'a', 'c', 't', 'F', 'l', 'a', 't', 'P', 'i', 'c', 't', 'u', 'r', 'e', ' ', 'l', 'o', 'o', 'p', '.', 'e', 'x', 'a', 'm', 'p', 'l', 'e', '/', 'g', '0', '3', '2', '2', '9', '/', 'l', 'a', 'w', 's', '.', 'F', 'n', 'E', 'x', 'a', 'c', 't', 'I', 's', 'P', 'i', 'c', 't', 'u', 'r', 'e', ' ', 'l', 'o', 'o', 'p', '.', 'e', 'x', 'a', 'm', 'p', 'l', 'e', '/', 'g', '0', '3', '2', '2', '9', '/', 'l', 'a', 'w', 's', '.', 'F', 'n', 'E', 'x', 'a', 'c', 't', 'I', 's', 'P', 'l', 'a', 't', 'e', ' ', 'l', 'o', 'o', 'p', '.', 'e', 'x', 'a', 'm', 'p', 'l', 'e', '/', 'g', '0', '3', '2', '2', '9', '/', 'l', 'a', 'w', 's', '.', 'F', 'n', 'E', 'x', 'a', 'c', 't', 'R', 'a', 'm', 'p', 'P', 'i', 'c', 't', 'u', 'r', 'e', ' ', 'l', 'o', 'o', 'p', '.', 'e', 'x', 'a', 'm', 'p', 'l', 'e', '/', 'g', '0', '3', '2', '2', '9', '/', 'l', 'a', 'w', 's', '.', 'F', 'n', 'E', 'x', 'a', 'c', 't', 'W', 'e', 'i', 'g', 'h', 't', 'O', 'f', ' ', 'l', 'o', 'o', 'p', '.', 'e', 'x', 'a', 'm', 'p', 'l', 'e', '/', 'g', '0', '3', '2', '2', '9', '/', 'l', 'a', 'w', 's', '.', 'F', 'n', 'C', 'o', 'n', 's', 'e', 'r', 'v', 'e', 'd', ' ', 'l', 'o', 'o', 'p', '.', 'e', 'x', 'a', 'm', 'p', 'l', 'e', '/', 'g', '0', '3', '2', '2', '9', '/', 'l', 'a', 'w', 's', '.', 'F', 'n', 'E', 'x', 'a', 'c', 't', 'I', 'n', 'k', 'A', 't', ' ', 'l', 'o', 'o', 'p', '.', 'e', 'x', 'a', 'm', 'p', 'l', 'e', '/', 'g', '0', '3', '2', '2', '9', '/', 'l', 'a', 'w', 's', '.', 'F', 'n', 'M', 'e', 'a', 'n', ' ', 'l', 'o', 'o', 'p', '.', 'e', 'x', 'a', 'm', 'p', 'l', 'e', '/', 'g', '0', '3', '2', '2', '9', '/', 'l', 'a', 'w', 's', '.', 'F', 'n', 'E', 'x', 'a', 'c', 't', 'S', 'u', 'm', 'I', 'n', 'k', ' ', 'l', 'o', 'o', 'p', '.', 'e', 'x', 'a', 'm', 'p', 'l', 'e', '/', 'g', '0', '3', '2', '2', '9', '/', 'l', 'a', 'w', 's', '.', 'F', 'n', 'E', 'x', 'a', 'c', 't', 'C', 'o', 'u', 'n', 't', 'I', 'n', 'k', ' ', 'l', 'o', 'o', 'p', '.', 'e', 'x', 'a', 'm', 'p', 'l', 'e', '/', 'g', '0', '3', '2', '2', '9', '/', 'l', 'a', 'w', 's', '.', 'F', 'n', 'E', 'x', 'a', 'c', 't', 'C', 'o', 'v', 'e', 'r', 's', 'P', 'i', 'c', 't', 'u', 'r', 'e', ' ', 'l', 'o', 'o', 'p', '.', 'e', 'x', 'a', 'm', 'p', 'l', 'e', '/', 'g', '0', '3', '2', '2', '9', '/', 'l', 'a', 'w', 's', '.', 'F', 'n', 'R', 'o', 'w', ' ', 'l', 'o', 'o', 'p', '.', 'e', 'x', 'a', 'm', 'p', 'l', 'e', '/', 'g', '0', '3', '2', '2', '9', '/', 'l', 'a', 'w', 's', '.', 'F', 'n', 'E', 'x', 'a', 'c', 't', 'M', 'i', 'r', 'r', 'o', 'r', 'K', 'e', 'r', 'n', 'e', 'l', ' ', 'l', 'o', 'o', 'p', '.', 'e', 'x', 'a', 'm', 'p', 'l', 'e', '/', 'g', '0', '3', '2', '2', '9', '/', 'l', 'a', 'w', 's', '.', 'F', 'n', 'T', 'i', 'l', 'e', 'd', ' ', 'l', 'o', 'o', 'p', '.', 'e', 'x', 'a', 'm', 'p', 'l', 'e', '/', 'g', '0', '3', '2', '2', '9', '/', 'l', 'a', 'w', 's', '.', 'F', 'n', 'E', 'x', 'a', 'c', 't', 'M', 'e', 'a', 'n', 'O', 'f', ' ', 'l', 'o', 'o', 'p', '.', 'e', 'x', 'a', 'm', 'p', 'l', 'e', '/', 'g', '0', '3', '2', '2', '9', '/', 'l', 'a', 'w', 's', '.', 'F', 'n', 'T', 'u', 'r', 'n', 'e', 'd', ' ', 'l', 'o', 'o', 'p', '.', 'e', 'x', 'a', 'm', 'p', 'l', 'e', '/', 'g', '0', '3', '2', '2', '9', '/', 'l', 'a', 'w', 's', '.', 'F', 'n', 'E', 'x', 'a', 'c', 't', 'C', 'r', 'o', 'p', 'P', 'i', 'c', 't', 'u', 'r', 'e', ' ', 'l', 'o', 'o', 'p', '.', 'e', 'x', 'a', 'm', 'p', 'l', 'e', '/', 'g', '0', '3', '2', '2', '9', '/', 'l', 'a', 'w', 's', '.', 'F', 'n', 'E', 'x', 'a', 'c', 't', 'M', 'i', 'r', 'r', 'o', 'r', 'P', 'i', 'c', 't', 'u', 'r', 'e', ' ', 'l', 'o', 'o', 'p', '.', 'e', 'x', 'a', 'm', 'p', 'l', 'e', '/', 'g', '0', '3', '2', '2', '9', '/', 'l', 'a', 'w', 's', '.', 'F', 'n', 'E', 'x', 'a', 'c', 't', 'T', 'i', 'l', 'e', 'P', 'i', 'c', 't', 'u', 'r', 'e', ' ', 'l', 'o', 'o', 'p', '.', 'e', 'x', 'a', 'm', 'p', 'l', 'e', '/', 'g', '0', '3', '2', '2', '9', '/', 'l', 'a', 'w', 's', '.', 'F', 'n', 'E', 'x', 'a', 'c', 't', 'T', 'u', 'r', 'n', 'P', 'i', 'c', 't', 'u', 'r', 'e', ' ', 'l', 'o', 'o', 'p', '.', 'e', 'x', 'a', 'm', 'p', 'l', 'e', '/', 'g', '0', '3', '2', '2', '9', '/', 'l', 'a', 'w', 's', '.', 'F', 'n', 'C', 'o', 'v', 'e', 'r', 'e', 'd', ' ', 'l', 'o', 'o', 'p', '.', 'e', 'x', 'a', 'm', 'p', 'l', 'e', '/', 'g', '0', '3', '2', '2', '9', '/', 'l', 'a', 'w', 's', '.', 'F', 'n', 'E', 'x', 'a', 'c', 't', 'A', 'd', 'd', 'P', 'i', 'c', 't', 'u', 'r', 'e', 's', ' ', 'l', 'o', 'o', 'p', '.', 'e', 'x', 'a', 'm', 'p', 'l', 'e', '/', 'g', '0', '3', '2', '2', '9', '/', 'l', 'a', 'w', 's', '.', 'F', 'n', 'E', 'x', 'a', 'c', 't', 'N', 'e', 'g', 'a', 't', 'i', 'v', 'e', 'P', 'i', 'c', 't', 'u', 'r', 'e', ' ', 'l', 'o', 'o', 'p', '.', 'e', 'x', 'a', 'm', 'p', 'l', 'e', '/', 'g', '0', '3', '2', '2', '9', '/', 'l', 'a', 'w', 's', '.', 'F', 'n', 'N', 'e', 'g', 'a', 't', 'i', 'v', 'e', ' ', 'l', 'o', 'o', 'p', '.', 'e', 'x', 'a', 'm', 'p', 'l', 'e', '/', 'g', '0', '3', '2', '2', '9', '/', 'l', 'a', 'w', 's', '.', 'F', 'n', 'E', 'x', 'a', 'c', 't', 'S', 'h', 'a', 'r', 'e', 's', 'O', 'f', ' ', 'l', 'o', 'o', 'p', '.', 'e', 'x', 'a', 'm', 'p', 'l', 'e', '/', 'g', '0', '3', '2', '2', '9', '/', 'l', 'a', 'w', 's', '.', 'F', 'n', 'E', 'm', 'p', 't', 'y', ' ', 'l', 'o', 'o', 'p', '.', 'e', 'x', 'a', 'm', 'p', 'l', 'e', '/', 'g', '0', '3', '2', '2', '9', '/', 'l', 'a', 'w', 's', '.', 'F', 'n', 'E', 'x', 'a', 'c', 't', 'R', 'o', 'w', 'D', 'o', 't', 's']
def words : List (List Char) := [['a', 't'], ['l', 'o', 'o', 'p', '.', 'e', 'x', 'a', 'm', 'p', 'l', 'e', '/', 'g', '0', '3', '2', '2', '9', '/', 'l', 'a', 'w', 's', '.', 'F', 'n', 'E', 'x', 'a', 'c', 't', 'P', 'l', 'a', 'i', 'n', 'K', 'e', 'r', 'n', 'e', 'l'], ['l', 'o', 'o', 'p', '.', 'e', 'x', 'a', 'm', 'p', 'l', 'e', '/', 'g', '0', '3', '2', '2', '9', '/', 'l', 'a', 'w', 's', '.', 'F', 'n', 'E', 'x', 'a', 'c', 't', 'S', 't', 'e', 'i', 'n', 'K', 'e', 'r', 'n', 'e', 'l'], ['l', 'o', 'o', 'p', '.', 'e', 'x', 'a', 'm', 'p', 'l', 'e', '/', 'g', '0', '3', '2', '2', '9', '/', 'l', 'a', 'w', 's', '.', 'F', 'n', 'E', 'x', 'a', 'c', 't', 'I', 's', 'K', 'e', 'r', 'n', 'e', 'l'], ['l', 'o', 'o', 'p', '.', 'e', 'x', 'a', 'm', 'p', 'l', 'e', '/', 'g', '0', '3', '2', '2', '9', '/', 'l', 'a', 'w', 's', '.', 'F', 'n', 'E', 'x', 'a', 'c', 't', 'S', 'a', 'm', 'e', 'P', 'i', 'c', 't', 'u', 'r', 'e'], ['l', 'o', 'o', 'p', '.', 'e', 'x', 'a', 'm', 'p', 'l', 'e', '/', 'g', '0', '3', '2', '2', '9', '/', 'l', 'a', 'w', 's', '.', 'F', 'n', 'S', 'h', 'a', 'r', 'e', 's'], ['l', 'o', 'o', 'p', '.', 'e', 'x', 'a', 'm', 'p', 'l', 'e', '/', 'g', '0', '3', '2', '2', '9', '/', 'l', 'a', 'w', 's', '.', 'F', 'n', 'E', 'x', 'a', 'c', 't', 'F', 'l', 'a', 't', 'P', 'i', 'c', 't', 'u', 'r', 'e'], ['l', 'o', 'o', 'p', '.', 'e', 'x', 'a', 'm', 'p', 'l', 'e', '/', 'g', '0', '3', '2', '2', '9', '/', 'l', 'a', 'w', 's', '.', 'F', 'n', 'E', 'x', 'a', 'c', 't', 'I', 's', 'P', 'i', 'c', 't', 'u', 'r', 'e'], ['l', 'o', 'o', 'p', '.', 'e', 'x', 'a', 'm', 'p', 'l', 'e', '/', 'g', '0', '3', '2', '2', '9', '/', 'l', 'a', 'w', 's', '.', 'F', 'n', 'E', 'x', 'a', 'c', 't', 'I', 's', 'P', 'l', 'a', 't', 'e'], ['l', 'o', 'o', 'p', '.', 'e', 'x', 'a', 'm', 'p', 'l', 'e', '/', 'g', '0', '3', '2', '2', '9', '/', 'l', 'a', 'w', 's', '.', 'F', 'n', 'E', 'x', 'a', 'c', 't', 'R', 'a', 'm', 'p', 'P', 'i', 'c', 't', 'u', 'r', 'e'], ['l', 'o', 'o', 'p', '.', 'e', 'x', 'a', 'm', 'p', 'l', 'e', '/', 'g', '0', '3', '2', '2', '9', '/', 'l', 'a', 'w', 's', '.', 'F', 'n', 'E', 'x', 'a', 'c', 't', 'W', 'e', 'i', 'g', 'h', 't', 'O', 'f'], ['l', 'o', 'o', 'p', '.', 'e', 'x', 'a', 'm', 'p', 'l', 'e', '/', 'g', '0', '3', '2', '2', '9', '/', 'l', 'a', 'w', 's', '.', 'F', 'n', 'C', 'o', 'n', 's', 'e', 'r', 'v', 'e', 'd'], ['l', 'o', 'o', 'p', '.', 'e', 'x', 'a', 'm', 'p', 'l', 'e', '/', 'g', '0', '3', '2', '2', '9', '/', 'l', 'a', 'w', 's', '.', 'F', 'n', 'E', 'x', 'a', 'c', 't', 'I', 'n', 'k', 'A', 't'], ['l', 'o', 'o', 'p', '.', 'e', 'x', 'a', 'm', 'p', 'l', 'e', '/', 'g', '0', '3', '2', '2', '9', '/', 'l', 'a', 'w', 's', '.', 'F', 'n', 'M', 'e', 'a', 'n'], ['l', 'o', 'o', 'p', '.', 'e', 'x', 'a', 'm', 'p', 'l', 'e', '/', 'g', '0', '3', '2', '2', '9', '/', 'l', 'a', 'w', 's', '.', 'F', 'n', 'E', 'x', 'a', 'c', 't', 'S', 'u', 'm', 'I', 'n', 'k'], ['l', 'o', 'o', 'p', '.', 'e', 'x', 'a', 'm', 'p', 'l', 'e', '/', 'g', '0', '3', '2', '2', '9', '/', 'l', 'a', 'w', 's', '.', 'F', 'n', 'E', 'x', 'a', 'c', 't', 'C', 'o', 'u', 'n', 't', 'I', 'n', 'k'], ['l', 'o', 'o', 'p', '.', 'e', 'x', 'a', 'm', 'p', 'l', 'e', '/', 'g', '0', '3', '2', '2', '9', '/', 'l', 'a', 'w', 's', '.', 'F', 'n', 'E', 'x', 'a', 'c', 't', 'C', 'o', 'v', 'e', 'r', 's', 'P', 'i', 'c', 't', 'u', 'r', 'e'], ['l', 'o', 'o', 'p', '.', 'e', 'x', 'a', 'm', 'p', 'l', 'e', '/', 'g', '0', '3', '2', '2', '9', '/', 'l', 'a', 'w', 's', '.', 'F', 'n', 'R', 'o', 'w'], ['l', 'o', 'o', 'p', '.', 'e', 'x', 'a', 'm', 'p', 'l', 'e', '/', 'g', '0', '3', '2', '2', '9', '/', 'l', 'a', 'w', 's', '.', 'F', 'n', 'E', 'x', 'a', 'c', 't', 'M', 'i', 'r', 'r', 'o', 'r', 'K', 'e', 'r', 'n', 'e', 'l'], ['l', 'o', 'o', 'p', '.', 'e', 'x', 'a', 'm', 'p', 'l', 'e', '/', 'g', '0', '3', '2', '2', '9', '/', 'l', 'a', 'w', 's', '.', 'F', 'n', 'T', 'i', 'l', 'e', 'd'], ['l', 'o', 'o', 'p', '.', 'e', 'x', 'a', 'm', 'p', 'l', 'e', '/', 'g', '0', '3', '2', '2', '9', '/', 'l', 'a', 'w', 's', '.', 'F', 'n', 'E', 'x', 'a', 'c', 't', 'M', 'e', 'a', 'n', 'O', 'f'], ['l', 'o', 'o', 'p', '.', 'e', 'x', 'a', 'm', 'p', 'l', 'e', '/', 'g', '0', '3', '2', '2', '9', '/', 'l', 'a', 'w', 's', '.', 'F', 'n', 'T', 'u', 'r', 'n', 'e', 'd'], ['l', 'o', 'o', 'p', '.', 'e', 'x', 'a', 'm', 'p', 'l', 'e', '/', 'g', '0', '3', '2', '2', '9', '/', 'l', 'a', 'w', 's', '.', 'F', 'n', 'E', 'x', 'a', 'c', 't', 'C', 'r', 'o', 'p', 'P', 'i', 'c', 't', 'u', 'r', 'e'], ['l', 'o', 'o', 'p', '.', 'e', 'x', 'a', 'm', 'p', 'l', 'e', '/', 'g', '0', '3', '2', '2', '9', '/', 'l', 'a', 'w', 's', '.', 'F', 'n', 'E', 'x', 'a', 'c', 't', 'M', 'i', 'r', 'r', 'o', 'r', 'P', 'i', 'c', 't', 'u', 'r', 'e'], ['l', 'o', 'o', 'p', '.', 'e', 'x', 'a', 'm', 'p', 'l', 'e', '/', 'g', '0', '3', '2', '2', '9', '/', 'l', 'a', 'w', 's', '.', 'F', 'n', 'E', 'x', 'a', 'c', 't', 'T', 'i', 'l', 'e', 'P', 'i', 'c', 't', 'u', 'r', 'e'], ['l', 'o', 'o', 'p', '.', 'e', 'x', 'a', 'm', 'p', 'l', 'e', '/', 'g', '0', '3', '2', '2', '9', '/', 'l', 'a', 'w', 's', '.', 'F', 'n', 'E', 'x', 'a', 'c', 't', 'T', 'u', 'r', 'n', 'P', 'i', 'c', 't', 'u', 'r', 'e'], ['l', 'o', 'o', 'p', '.', 'e', 'x', 'a', 'm', 'p', 'l', 'e', '/', 'g', '0', '3', '2', '2', '9', '/', 'l', 'a', 'w', 's', '.', 'F', 'n', 'C', 'o', 'v', 'e', 'r', 'e', 'd'], ['l', 'o', 'o', 'p', '.', 'e', 'x', 'a', 'm', 'p', 'l', 'e', '/', 'g', '0', '3', '2', '2', '9', '/', 'l', 'a', 'w', 's', '.', 'F', 'n', 'E', 'x', 'a', 'c', 't', 'A', 'd', 'd', 'P', 'i', 'c', 't', 'u', 'r', 'e', 's'], ['l', 'o', 'o', 'p', '.', 'e', 'x', 'a', 'm', 'p', 'l', 'e', '/', 'g', '0', '3', '2', '2', '9', '/', 'l', 'a', 'w', 's', '.', 'F', 'n', 'E', 'x', 'a', 'c', 't', 'N', 'e', 'g', 'a', 't', 'i', 'v', 'e', 'P', 'i', 'c', 't', 'u', 'r', 'e'], ['l', 'o', 'o', 'p', '.', 'e', 'x', 'a', 'm', 'p', 'l', 'e', '/', 'g', '0', '3', '2', '2', '9', '/', 'l', 'a', 'w', 's', '.', 'F', 'n', 'N', 'e', 'g', 'a', 't', 'i', 'v', 'e'], ['l', 'o', 'o', 'p', '.', 'e', 'x', 'a', 'm', 'p', 'l', 'e', '/', 'g', '0', '3', '2', '2', '9', '/', 'l', 'a', 'w', 's', '.', 'F', 'n', 'E', 'x', 'a', 'c', 't', 'S', 'h', 'a', 'r', 'e', 's', 'O', 'f'], ['l', 'o', 'o', 'p', '.', 'e', 'x', 'a', 'm', 'p', 'l', 'e', '/', 'g', '0', '3', '2', '2', '9', '/', 'l', 'a', 'w', 's', '.', 'F', 'n', 'E', 'm', 'p', 't', 'y'], ['l', 'o', 'o', 'p', '.', 'e', 'x', 'a', 'm', 'p', 'l', 'e', '/', 'g', '0', '3', '2', '2', '9', '/', 'l', 'a', 'w', 's', '.', 'F', 'n', 'E', 'x', 'a', 'c', 't', 'R', 'o', 'w', 'D', 'o', 't', 's']]
set_option maxRecDepth 100000 in
theorem order_ok : Try.prog.initOrder.toList = order := (congrArg String.toList (show Try.prog.initOrder = String.ofList order by kernel_rfl)).trans String.toList_ofList
theorem words_ok : behindMainWord (wordsSigns Try.prog.initOrder.toList) = ['c', 'u', 't'] :: words := by
  rw [order_ok]
  kernel_rfl
theorem liftsFinal_ok : Try.prog.liftsFinal = false := by
  unfold Program.liftsFinal Program.headLifts
  rw [words_ok]
  kernel_rfl
theorem make_ok : Try.prog.make = some .cut := make_of Try.prog words words_ok
theorem mayEnter_ok : Try.prog.mayEnter = true := mayEnter_of Try.prog words words_ok (by kernel_rfl) (by kernel_rfl) (by kernel_rfl)
theorem size_ok : Try.prog.funcs.size = 168 := by kernel_rfl
theorem at_tab (g : Nat) : (Try.prog.funcs[g]?).elim none0 (phi Try.prog) = tab.getD g none0 := tab_all Try.prog (phi Try.prog) none0 tab tab_ok g
def fuel : Nat := 518
def tb (g : Nat) : Row := tab.getD g none0
def T (g : Nat) : List Nat := (tb g).1
theorem leads_ok (g : Nat) : (Try.prog.funcs[g]?).elim [] Try.prog.leadsTo = T g := leads_of Try.prog tb at_tab g
theorem closure_ok (f : Nat) : Try.prog.closure f = clo T fuel [f] [] := closure_eq Try.prog T 168 leads_ok size_ok fuel (of_decide_eq_true (by kernel_rfl)) f
theorem unfollowed_ok (f : Nat) : Try.prog.unfollowed f = unfollowedT T tb fuel f := unfollowed_of Try.prog tb at_tab T fuel closure_ok f
theorem recurses_ok (f : Nat) : Try.prog.recurses f = recursesT T tb fuel f := recurses_of Try.prog tb at_tab T fuel leads_ok closure_ok f
theorem inPlace_ok (f : Nat) : Try.prog.inPlace f = inPlaceT T tb fuel f := inPlace_of Try.prog tb at_tab T fuel closure_ok f
theorem varsNamed_ok (f : Nat) : Try.prog.varsNamed f = varsT Try.prog T tb fuel f := vars_of Try.prog tb at_tab T fuel closure_ok f
end Go.Proofs.Ytbgbbfdmgpcgmaa.K
