import Derived.Test.YtndnklicfibkeaaProg
import Derived.KernelRfl
import GoSem.ClaimFn
import Derived.JoinedOf
namespace Go.Proofs.Ytndnklicfibkeaa.K
set_option linter.unusedSimpArgs false
/-! What a function leads to, off a table: the closure's fuel is enough, whatever it is. -/
def clo (t : Nat → List Nat) : Nat → List Nat → List Nat → List Nat
  | 0, _, seen => seen.reverse
  | _, [], seen => seen.reverse
  | n + 1, f :: todo, seen => if seen.contains f then clo t n todo seen else clo t n (t f ++ todo) (f :: seen)
theorem clo_nil (t : Nat → List Nat) (n : Nat) (seen : List Nat) : clo t n [] seen = seen.reverse := by cases n <;> rfl
theorem clo_cons (t : Nat → List Nat) (n : Nat) (f : Nat) (todo seen : List Nat) : clo t (n + 1) (f :: todo) seen = if seen.contains f then clo t n todo seen else clo t n (t f ++ todo) (f :: seen) := rfl
theorem via_clo (P : Program) (t : Nat → List Nat) (ht : ∀ g, (P.funcs[g]?).elim [] P.leadsTo = t g) (n : Nat) : ∀ todo seen, P.closureVia n todo seen = clo t n todo seen := by
  induction n with
  | zero => intro todo seen; rfl
  | succ n ih =>
    intro todo seen
    cases todo with
    | nil => rfl
    | cons f todo =>
      rw [clo_cons, ← ht f, ← ih, ← ih]
      rfl
/-- What is still to come at most: what waits, and what the unseen ones of the first m lead to. -/
def pot (t : Nat → List Nat) (m : Nat) (todo seen : List Nat) : Nat := todo.length + ((List.range m).map fun g => if seen.contains g then 0 else (t g).length).sum
theorem sum_le (l : List Nat) (f g : Nat → Nat) (h : ∀ x ∈ l, f x ≤ g x) : (l.map f).sum ≤ (l.map g).sum := by
  induction l with
  | nil => simp
  | cons a r ih =>
    simp only [List.map_cons, List.sum_cons]
    have h1 := h a (by simp)
    have h2 := ih (fun x hx => h x (by simp [hx]))
    omega
theorem sum_split (l : List Nat) (hn : l.Nodup) (f g : Nat → Nat) (a : Nat) (ha : a ∈ l) (hf : g a = 0) (h : ∀ x ∈ l, x ≠ a → f x = g x) : (l.map f).sum = f a + (l.map g).sum := by
  induction l with
  | nil => cases ha
  | cons b r ih =>
    simp only [List.map_cons, List.sum_cons]
    rw [List.nodup_cons] at hn
    rcases List.mem_cons.1 ha with rfl | ha'
    · have : (r.map f) = (r.map g) := List.map_congr_left (fun x hx => h x (by simp [hx]) (fun e => hn.1 (e ▸ hx)))
      rw [this, hf]
      omega
    · have hb : f b = g b := h b (by simp) (fun e => hn.1 (e ▸ ha'))
      rw [ih hn.2 ha' (fun x hx => h x (by simp [hx])), hb]
      omega
theorem pot_seen (t : Nat → List Nat) (m : Nat) (f : Nat) (todo seen : List Nat) (hs : seen.contains f = false) (hm : ∀ g, m ≤ g → t g = []) : pot t m (t f ++ todo) (f :: seen) + 1 = pot t m (f :: todo) seen := by
  unfold pot
  rw [List.length_append, List.length_cons]
  by_cases h : f < m
  · rw [sum_split (List.range m) List.nodup_range (fun g => if seen.contains g then 0 else (t g).length) (fun g => if (f :: seen).contains g then 0 else (t g).length) f (List.mem_range.2 h) (by simp) (fun x hx hne => by simp [List.contains_cons, hne])]
    simp only [hs]
    simp
    omega
  · have e : (List.range m).map (fun g => if (f :: seen).contains g then 0 else (t g).length) = (List.range m).map (fun g => if seen.contains g then 0 else (t g).length) :=
      List.map_congr_left (fun x hx => by have := List.mem_range.1 hx; simp [List.contains_cons, show ¬ x = f by omega])
    rw [e, hm f (by omega)]
    simp
    omega
theorem clo_stable (t : Nat → List Nat) (m : Nat) (hm : ∀ g, m ≤ g → t g = []) (n : Nat) : ∀ todo seen, pot t m todo seen ≤ n → clo t n todo seen = clo t (n + 1) todo seen := by
  induction n with
  | zero =>
    intro todo seen h
    cases todo with
    | nil => rfl
    | cons f r => unfold pot at h; rw [List.length_cons] at h; omega
  | succ n ih =>
    intro todo seen h
    cases todo with
    | nil => rfl
    | cons f r =>
      rw [clo_cons, clo_cons]
      cases hs : seen.contains f with
      | true =>
        simp only [if_true]
        refine ih r seen ?_
        unfold pot at h ⊢
        rw [List.length_cons] at h
        omega
      | false =>
        simp only [Bool.false_eq_true, if_false]
        refine ih _ _ ?_
        have := pot_seen t m f r seen hs hm
        omega
theorem clo_more (t : Nat → List Nat) (m : Nat) (hm : ∀ g, m ≤ g → t g = []) (todo seen : List Nat) (n : Nat) (h : pot t m todo seen ≤ n) (k : Nat) : clo t n todo seen = clo t (n + k) todo seen := by
  induction k with
  | zero => rfl
  | succ k ih => rw [ih, ← Nat.add_assoc]; exact clo_stable t m hm (n + k) todo seen (by omega)
theorem closure_eq (P : Program) (t : Nat → List Nat) (m : Nat) (ht : ∀ g, (P.funcs[g]?).elim [] P.leadsTo = t g) (hsz : P.funcs.size = m) (M : Nat) (hM : 1 + ((List.range m).map fun g => (t g).length).sum ≤ M) (f : Nat) : P.closure f = clo t M [f] [] := by
  have hm : ∀ g, m ≤ g → t g = [] := fun g hg => by rw [← ht g, Array.getElem?_eq_none (by omega)]; rfl
  have e : P.funcs.toList.map (fun g => (P.leadsTo g).length + 1) = (List.range m).map fun g => (t g).length + 1 := by
    apply List.ext_getElem
    · simp [hsz]
    · intro i h1 h2
      simp only [List.getElem_map, List.getElem_range, Array.getElem_toList]
      rw [← ht i, Array.getElem?_eq_getElem (by simpa using h1)]
      rfl
  have p0 : pot t m [f] [] = 1 + ((List.range m).map fun g => (t g).length).sum := by unfold pot; simp
  have q : ((List.range m).map fun g => (t g).length).sum ≤ ((List.range m).map fun g => (t g).length + 1).sum := sum_le _ _ _ (fun x _ => by omega)
  unfold Program.closure
  rw [e, via_clo P t ht]
  rcases Nat.le_total M (1 + ((List.range m).map fun g => (t g).length + 1).sum) with h | h
  · obtain ⟨k, hk⟩ := Nat.exists_eq_add_of_le h
    rw [hk]
    exact (clo_more t m hm [f] [] M (by omega) k).symm
  · obtain ⟨k, hk⟩ := Nat.exists_eq_add_of_le h
    rw [hk]
    exact clo_more t m hm [f] [] _ (by omega) k
/-! A function's row: what it leads to, whether it calls what is not followed, its name where it counts, the variables it names. -/
def none0 : List Nat × Bool × Option String × List Nat × Option String := ([], false, none, [], none)
def phi (P : Program) (fn : Func) : List Nat × Bool × Option String × List Nat × Option String :=
  (P.leadsTo fn, (match fn.body with | some c => c.unfollowed | none => entryCalls fn), (if fn.ours || fn.body.isNone || fn.name == "runtime.NumGoroutine" then some fn.name else none), fn.body.elim [] Code.globalsNamed, if fn.body.isNone then entryReads.lookup fn.name else none)
theorem tab_all {α : Type} (P : Program) (φ : Func → α) (d : α) (tab : List α) (h : P.funcs.toList.map φ = tab) (g : Nat) : (P.funcs[g]?).elim d φ = tab.getD g d := by
  subst h
  rw [List.getD_eq_getElem?_getD, List.getElem?_map, Array.getElem?_toList]
  cases P.funcs[g]? <;> rfl
def unfollowedT (t : Nat → List Nat) (tb : Nat → List Nat × Bool × Option String × List Nat × Option String) (n f : Nat) : Bool := (clo t n [f] []).any fun g => (tb g).2.1
def recursesT (t : Nat → List Nat) (tb : Nat → List Nat × Bool × Option String × List Nat × Option String) (n f : Nat) : Bool := ((clo t n [f] []).any fun g => (tb g).2.1) || (clo t n [f] []).any fun g => (t g).any fun h => (clo t n [h] []).contains g
def inPlaceT (t : Nat → List Nat) (tb : Nat → List Nat × Bool × Option String × List Nat × Option String) (n f : Nat) : List String := (clo t n [f] []).filterMap fun g => (tb g).2.2.1
def varsT (P : Program) (t : Nat → List Nat) (tb : Nat → List Nat × Bool × Option String × List Nat × Option String) (n f : Nat) : List String := ((((clo t n [f] []).flatMap fun g => (tb g).2.2.2.1).eraseDups).filterMap (fun g => (P.globals[g]?).map (·.name)) ++ (clo t n [f] []).filterMap fun g => (tb g).2.2.2.2).eraseDups
theorem leads_of (P : Program) (tb : Nat → List Nat × Bool × Option String × List Nat × Option String) (at_ : ∀ g : Nat, (P.funcs[g]?).elim none0 (phi P) = tb g) (g : Nat) : (P.funcs[g]?).elim [] P.leadsTo = (tb g).1 := by
  rw [← at_ g]
  cases P.funcs[g]? <;> rfl
theorem unfollowed_of (P : Program) (tb : Nat → List Nat × Bool × Option String × List Nat × Option String) (at_ : ∀ g : Nat, (P.funcs[g]?).elim none0 (phi P) = tb g) (t : Nat → List Nat) (n : Nat) (hc : ∀ f, P.closure f = clo t n [f] []) (f : Nat) : P.unfollowed f = unfollowedT t tb n f := by
  unfold Program.unfollowed unfollowedT
  rw [hc]
  have e : (fun g : Nat => (P.funcs[g]?).any fun fn => match fn.body with | some c => c.unfollowed | none => entryCalls fn) = fun g => (tb g).2.1 := by
    funext g
    rw [← at_ g]
    cases P.funcs[g]? <;> rfl
  exact congrArg (fun q => (clo t n [f] []).any q) e
theorem recurses_of (P : Program) (tb : Nat → List Nat × Bool × Option String × List Nat × Option String) (at_ : ∀ g : Nat, (P.funcs[g]?).elim none0 (phi P) = tb g) (t : Nat → List Nat) (n : Nat) (ht : ∀ g : Nat, (P.funcs[g]?).elim [] P.leadsTo = t g) (hc : ∀ f, P.closure f = clo t n [f] []) (f : Nat) : P.recurses f = recursesT t tb n f := by
  unfold Program.recurses recursesT
  rw [unfollowed_of P tb at_ t n hc, hc]
  unfold unfollowedT
  have e : (fun g : Nat => ((P.funcs[g]?).elim [] P.leadsTo).any fun h => (P.closure h).contains g) = fun g => (t g).any fun h => (clo t n [h] []).contains g := by
    funext g
    rw [ht g]
    have e2 : (fun h => (P.closure h).contains g) = fun h => (clo t n [h] []).contains g := funext fun h => by rw [hc]
    rw [e2]
  rw [e]
theorem inPlace_of (P : Program) (tb : Nat → List Nat × Bool × Option String × List Nat × Option String) (at_ : ∀ g : Nat, (P.funcs[g]?).elim none0 (phi P) = tb g) (t : Nat → List Nat) (n : Nat) (hc : ∀ f, P.closure f = clo t n [f] []) (f : Nat) : P.inPlace f = inPlaceT t tb n f := by
  unfold Program.inPlace inPlaceT
  rw [hc]
  have e : (fun g : Nat => (P.funcs[g]?).bind fun fn => if fn.ours || fn.body.isNone || fn.name == "runtime.NumGoroutine" then some fn.name else none) = fun g => (tb g).2.2.1 := by
    funext g
    rw [← at_ g]
    cases P.funcs[g]? <;> rfl
  exact congrArg (fun q => (clo t n [f] []).filterMap q) e
theorem vars_of (P : Program) (tb : Nat → List Nat × Bool × Option String × List Nat × Option String) (at_ : ∀ g : Nat, (P.funcs[g]?).elim none0 (phi P) = tb g) (t : Nat → List Nat) (n : Nat) (hc : ∀ f, P.closure f = clo t n [f] []) (f : Nat) : P.varsNamed f = varsT P t tb n f := by
  unfold Program.varsNamed varsT
  rw [hc]
  have e1 : ∀ g : Nat, ((P.funcs[g]?).bind (·.body)).elim [] Code.globalsNamed = (tb g).2.2.2.1 := by
    intro g
    rw [← at_ g]
    cases P.funcs[g]? <;> rfl
  have e2 : ∀ g : Nat, ((P.funcs[g]?).bind fun fn => if fn.body.isNone then entryReads.lookup fn.name else none) = (tb g).2.2.2.2 := by
    intro g
    rw [← at_ g]
    cases P.funcs[g]? <;> rfl
  simp only [e1, e2]
theorem and_true' {a b : Bool} (h1 : a = true) (h2 : b = true) : (a && b) = true := by rw [h1, h2]; rfl
theorem make_of (P : Program) (ws : List (List Char)) (h : behindMainWord (wordsSigns P.initOrder.toList) = [Char.ofNat 99, Char.ofNat 117, Char.ofNat 116] :: ws) : P.make = some .cut := by
  unfold Program.make
  rw [h]
  have e1 : ([Char.ofNat 99, Char.ofNat 117, Char.ofNat 116] == "gc".toList || [Char.ofNat 99, Char.ofNat 117, Char.ofNat 116] == "spec".toList) = false := by decide
  have e2 : ([Char.ofNat 99, Char.ofNat 117, Char.ofNat 116] == "cut".toList) = true := by decide
  simp only [e1, e2, Bool.true_or, if_true, Bool.false_eq_true, if_false]
theorem lifts_of (ws : List (List Char)) : stripLifts liftWords ([Char.ofNat 99, Char.ofNat 117, Char.ofNat 116] :: ws) = ([], [Char.ofNat 99, Char.ofNat 117, Char.ofNat 116] :: ws) := by
  have e : ∀ o ∈ liftWords, ([Char.ofNat 99, Char.ofNat 117, Char.ofNat 116] == o.toList) = false := by decide
  have g : ∀ L : List String, (∀ o ∈ L, ([Char.ofNat 99, Char.ofNat 117, Char.ofNat 116] == o.toList) = false) → stripLifts L ([Char.ofNat 99, Char.ofNat 117, Char.ofNat 116] :: ws) = ([], [Char.ofNat 99, Char.ofNat 117, Char.ofNat 116] :: ws) := by
    intro L
    induction L with
    | nil => intro _; rfl
    | cons o r ih =>
      intro h
      unfold stripLifts
      rw [h o (by simp)]
      simp only [Bool.false_eq_true, if_false]
      exact ih (fun x hx => h x (by simp [hx]))
  exact g _ e
theorem mayEnter_of (P : Program) (ws : List (List Char)) (h : behindMainWord (wordsSigns P.initOrder.toList) = [Char.ofNat 99, Char.ofNat 117, Char.ofNat 116] :: ws) (h1 : P.laysLater = false) (h2 : P.bearsReflect = false) (h3 : P.doorFits [] = true) : P.mayEnter = true := by
  unfold Program.mayEnter
  rw [h]
  simp only [lifts_of, h1, h2, h3]
  simp

theorem row0 : phi Try.prog Try.f0 = ([], false, some "main.main", [], none) := by kernel_rfl
theorem row1 : phi Try.prog Try.f1 = ([], false, some "gosem.cut", [], none) := by kernel_rfl
theorem row2 : phi Try.prog Try.f2 = ([1], false, none, [], none) := by kernel_rfl
theorem row3 : phi Try.prog Try.f3 = ([8, 10, 9, 11, 12, 13, 14, 15, 16], false, none, [], none) := by kernel_rfl
theorem row4 : phi Try.prog Try.f4 = ([11, 11, 17], false, none, [], none) := by kernel_rfl
theorem row5 : phi Try.prog Try.f5 = ([18, 18, 20, 20, 19, 20, 20, 21, 22, 20, 22, 20, 22, 23, 23, 22, 23, 24, 20, 20, 21, 22, 24], false, none, [], none) := by kernel_rfl
theorem row6 : phi Try.prog Try.f6 = ([8, 9, 11, 25, 11, 12, 14], false, none, [], none) := by kernel_rfl
theorem row7 : phi Try.prog Try.f7 = ([27, 26, 27, 17, 28, 27, 28, 29, 28, 29, 30, 27, 17, 28, 30], false, none, [], none) := by kernel_rfl
theorem row8 : phi Try.prog Try.f8 = ([32, 31], false, none, [], none) := by kernel_rfl
theorem row9 : phi Try.prog Try.f9 = ([32, 33], false, none, [], none) := by kernel_rfl
theorem row10 : phi Try.prog Try.f10 = ([], false, none, [], none) := by kernel_rfl
theorem row11 : phi Try.prog Try.f11 = ([], false, none, [], none) := by kernel_rfl
theorem row12 : phi Try.prog Try.f12 = ([34, 35, 36], false, none, [], none) := by kernel_rfl
theorem row13 : phi Try.prog Try.f13 = ([35, 37], false, none, [], none) := by kernel_rfl
theorem row14 : phi Try.prog Try.f14 = ([35, 38], false, none, [], none) := by kernel_rfl
theorem row15 : phi Try.prog Try.f15 = ([], false, none, [], none) := by kernel_rfl
theorem row16 : phi Try.prog Try.f16 = ([34, 35, 36], false, none, [], none) := by kernel_rfl
theorem row17 : phi Try.prog Try.f17 = ([35, 39, 36], false, none, [], none) := by kernel_rfl
theorem row18 : phi Try.prog Try.f18 = ([40], false, none, [], none) := by kernel_rfl
theorem row19 : phi Try.prog Try.f19 = ([41, 42], false, none, [], none) := by kernel_rfl
theorem row20 : phi Try.prog Try.f20 = ([27], false, none, [], none) := by kernel_rfl
theorem row21 : phi Try.prog Try.f21 = ([43, 45, 44], false, none, [], none) := by kernel_rfl
theorem row22 : phi Try.prog Try.f22 = ([28], false, none, [], none) := by kernel_rfl
theorem row23 : phi Try.prog Try.f23 = ([29], false, none, [], none) := by kernel_rfl
theorem row24 : phi Try.prog Try.f24 = ([30], false, none, [], none) := by kernel_rfl
theorem row25 : phi Try.prog Try.f25 = ([46, 47, 44], false, none, [], none) := by kernel_rfl
theorem row26 : phi Try.prog Try.f26 = ([48, 50, 49], false, none, [], none) := by kernel_rfl
theorem row27 : phi Try.prog Try.f27 = ([], false, none, [], none) := by kernel_rfl
theorem row28 : phi Try.prog Try.f28 = ([], false, none, [], none) := by kernel_rfl
theorem row29 : phi Try.prog Try.f29 = ([], false, none, [], none) := by kernel_rfl
theorem row30 : phi Try.prog Try.f30 = ([], false, none, [], none) := by kernel_rfl
theorem row31 : phi Try.prog Try.f31 = ([51, 52, 50, 51, 51, 51, 51, 51, 53], false, none, [], none) := by kernel_rfl
theorem row32 : phi Try.prog Try.f32 = ([], false, none, [], none) := by kernel_rfl
theorem row33 : phi Try.prog Try.f33 = ([51, 51, 42, 51, 51, 54, 51], false, none, [], none) := by kernel_rfl
theorem row34 : phi Try.prog Try.f34 = ([], false, none, [], none) := by kernel_rfl
theorem row35 : phi Try.prog Try.f35 = ([46, 37], false, none, [], none) := by kernel_rfl
theorem row36 : phi Try.prog Try.f36 = ([55, 44, 56, 57], false, none, [], none) := by kernel_rfl
theorem row37 : phi Try.prog Try.f37 = ([59, 58], false, none, [], none) := by kernel_rfl
theorem row38 : phi Try.prog Try.f38 = ([], false, none, [], none) := by kernel_rfl
theorem row39 : phi Try.prog Try.f39 = ([], false, none, [], none) := by kernel_rfl
theorem row40 : phi Try.prog Try.f40 = ([], false, none, [], none) := by kernel_rfl
theorem row41 : phi Try.prog Try.f41 = ([48, 48], false, none, [], none) := by kernel_rfl
theorem row42 : phi Try.prog Try.f42 = ([], false, none, [], none) := by kernel_rfl
theorem row43 : phi Try.prog Try.f43 = ([35, 35], false, none, [], none) := by kernel_rfl
theorem row44 : phi Try.prog Try.f44 = ([], true, none, [], none) := by kernel_rfl
theorem row45 : phi Try.prog Try.f45 = ([], false, none, [], none) := by kernel_rfl
theorem row46 : phi Try.prog Try.f46 = ([], false, none, [], none) := by kernel_rfl
theorem row47 : phi Try.prog Try.f47 = ([], false, none, [], none) := by kernel_rfl
theorem row48 : phi Try.prog Try.f48 = ([60], false, none, [], none) := by kernel_rfl
theorem row49 : phi Try.prog Try.f49 = ([61, 62, 63], false, none, [], none) := by kernel_rfl
theorem row50 : phi Try.prog Try.f50 = ([], false, none, [], none) := by kernel_rfl
theorem row51 : phi Try.prog Try.f51 = ([64, 64, 64, 64, 64], false, none, [], none) := by kernel_rfl
theorem row52 : phi Try.prog Try.f52 = ([], false, none, [], none) := by kernel_rfl
theorem row53 : phi Try.prog Try.f53 = ([63, 63, 63, 63], false, none, [], none) := by kernel_rfl
theorem row54 : phi Try.prog Try.f54 = ([51], false, none, [], none) := by kernel_rfl
theorem row55 : phi Try.prog Try.f55 = ([65], false, none, [], none) := by kernel_rfl
theorem row56 : phi Try.prog Try.f56 = ([], false, none, [], none) := by kernel_rfl
theorem row57 : phi Try.prog Try.f57 = ([66, 67], false, none, [], none) := by kernel_rfl
theorem row58 : phi Try.prog Try.f58 = ([68], false, none, [], none) := by kernel_rfl
theorem row59 : phi Try.prog Try.f59 = ([], false, none, [], none) := by kernel_rfl
theorem row60 : phi Try.prog Try.f60 = ([69, 63], false, none, [], none) := by kernel_rfl
theorem row61 : phi Try.prog Try.f61 = ([53], false, none, [], none) := by kernel_rfl
theorem row62 : phi Try.prog Try.f62 = ([70], false, none, [], none) := by kernel_rfl
theorem row63 : phi Try.prog Try.f63 = ([], false, none, [], none) := by kernel_rfl
theorem row64 : phi Try.prog Try.f64 = ([], false, none, [], none) := by kernel_rfl
theorem row65 : phi Try.prog Try.f65 = ([], false, none, [], none) := by kernel_rfl
theorem row66 : phi Try.prog Try.f66 = ([], false, none, [], none) := by kernel_rfl
theorem row67 : phi Try.prog Try.f67 = ([71], false, none, [], none) := by kernel_rfl
theorem row68 : phi Try.prog Try.f68 = ([], true, none, [], none) := by kernel_rfl
theorem row69 : phi Try.prog Try.f69 = ([63, 63], false, none, [], none) := by kernel_rfl
theorem row70 : phi Try.prog Try.f70 = ([], false, none, [], none) := by kernel_rfl
theorem row71 : phi Try.prog Try.f71 = ([], false, none, [], none) := by kernel_rfl
theorem row72 : phi Try.prog Try.f72 = ([], false, some "(runtime.boundsError).Error", [], none) := by kernel_rfl
theorem row73 : phi Try.prog Try.f73 = ([], false, some "(runtime.boundsError).RuntimeError", [], none) := by kernel_rfl
theorem row74 : phi Try.prog Try.f74 = ([], false, some "(runtime.errorString).Error", [], none) := by kernel_rfl
theorem row75 : phi Try.prog Try.f75 = ([], false, some "(runtime.errorString).RuntimeError", [], none) := by kernel_rfl
theorem row76 : phi Try.prog Try.f76 = ([], false, some "(runtime.plainError).Error", [], none) := by kernel_rfl
theorem row77 : phi Try.prog Try.f77 = ([], false, some "(runtime.plainError).RuntimeError", [], none) := by kernel_rfl
theorem row78 : phi Try.prog Try.f78 = ([], false, some "(runtime.errorAddressString).Error", [], none) := by kernel_rfl
theorem row79 : phi Try.prog Try.f79 = ([], false, some "(runtime.errorAddressString).RuntimeError", [], none) := by kernel_rfl
theorem row80 : phi Try.prog Try.f80 = ([], false, some "(*runtime.TypeAssertionError).Error", [], none) := by kernel_rfl
theorem row81 : phi Try.prog Try.f81 = ([], false, some "(*runtime.TypeAssertionError).RuntimeError", [], none) := by kernel_rfl
theorem row82 : phi Try.prog Try.f82 = ([], false, some "(*runtime.PanicNilError).Error", [], none) := by kernel_rfl
theorem row83 : phi Try.prog Try.f83 = ([], false, some "(*runtime.PanicNilError).RuntimeError", [], none) := by kernel_rfl
theorem row84 : phi Try.prog Try.f84 = ([], false, some "(*internal/abi.Type).Align", [], none) := by kernel_rfl
theorem row85 : phi Try.prog Try.f85 = ([], false, some "(internal/runtime/maps.unhashableTypeError).Error", [], none) := by kernel_rfl
theorem row86 : phi Try.prog Try.f86 = ([], false, some "(internal/runtime/maps.unhashableTypeError).RuntimeError", [], none) := by kernel_rfl
theorem row87 : phi Try.prog Try.f87 = ([], false, some "(internal/abi.Kind).String", [], none) := by kernel_rfl
def tab : List (List Nat × Bool × Option String × List Nat × Option String) := [([], false, some "main.main", [], none), ([], false, some "gosem.cut", [], none), ([1], false, none, [], none), ([8, 10, 9, 11, 12, 13, 14, 15, 16], false, none, [], none), ([11, 11, 17], false, none, [], none), ([18, 18, 20, 20, 19, 20, 20, 21, 22, 20, 22, 20, 22, 23, 23, 22, 23, 24, 20, 20, 21, 22, 24], false, none, [], none), ([8, 9, 11, 25, 11, 12, 14], false, none, [], none), ([27, 26, 27, 17, 28, 27, 28, 29, 28, 29, 30, 27, 17, 28, 30], false, none, [], none), ([32, 31], false, none, [], none), ([32, 33], false, none, [], none), ([], false, none, [], none), ([], false, none, [], none), ([34, 35, 36], false, none, [], none), ([35, 37], false, none, [], none), ([35, 38], false, none, [], none), ([], false, none, [], none), ([34, 35, 36], false, none, [], none), ([35, 39, 36], false, none, [], none), ([40], false, none, [], none), ([41, 42], false, none, [], none), ([27], false, none, [], none), ([43, 45, 44], false, none, [], none), ([28], false, none, [], none), ([29], false, none, [], none), ([30], false, none, [], none), ([46, 47, 44], false, none, [], none), ([48, 50, 49], false, none, [], none), ([], false, none, [], none), ([], false, none, [], none), ([], false, none, [], none), ([], false, none, [], none), ([51, 52, 50, 51, 51, 51, 51, 51, 53], false, none, [], none), ([], false, none, [], none), ([51, 51, 42, 51, 51, 54, 51], false, none, [], none), ([], false, none, [], none), ([46, 37], false, none, [], none), ([55, 44, 56, 57], false, none, [], none), ([59, 58], false, none, [], none), ([], false, none, [], none), ([], false, none, [], none), ([], false, none, [], none), ([48, 48], false, none, [], none), ([], false, none, [], none), ([35, 35], false, none, [], none), ([], true, none, [], none), ([], false, none, [], none), ([], false, none, [], none), ([], false, none, [], none), ([60], false, none, [], none), ([61, 62, 63], false, none, [], none), ([], false, none, [], none), ([64, 64, 64, 64, 64], false, none, [], none), ([], false, none, [], none), ([63, 63, 63, 63], false, none, [], none), ([51], false, none, [], none), ([65], false, none, [], none), ([], false, none, [], none), ([66, 67], false, none, [], none), ([68], false, none, [], none), ([], false, none, [], none), ([69, 63], false, none, [], none), ([53], false, none, [], none), ([70], false, none, [], none), ([], false, none, [], none), ([], false, none, [], none), ([], false, none, [], none), ([], false, none, [], none), ([71], false, none, [], none), ([], true, none, [], none), ([63, 63], false, none, [], none), ([], false, none, [], none), ([], false, none, [], none), ([], false, some "(runtime.boundsError).Error", [], none), ([], false, some "(runtime.boundsError).RuntimeError", [], none), ([], false, some "(runtime.errorString).Error", [], none), ([], false, some "(runtime.errorString).RuntimeError", [], none), ([], false, some "(runtime.plainError).Error", [], none), ([], false, some "(runtime.plainError).RuntimeError", [], none), ([], false, some "(runtime.errorAddressString).Error", [], none), ([], false, some "(runtime.errorAddressString).RuntimeError", [], none), ([], false, some "(*runtime.TypeAssertionError).Error", [], none), ([], false, some "(*runtime.TypeAssertionError).RuntimeError", [], none), ([], false, some "(*runtime.PanicNilError).Error", [], none), ([], false, some "(*runtime.PanicNilError).RuntimeError", [], none), ([], false, some "(*internal/abi.Type).Align", [], none), ([], false, some "(internal/runtime/maps.unhashableTypeError).Error", [], none), ([], false, some "(internal/runtime/maps.unhashableTypeError).RuntimeError", [], none), ([], false, some "(internal/abi.Kind).String", [], none)]
set_option maxRecDepth 100000 in
theorem tab_ok : Try.prog.funcs.toList.map (phi Try.prog) = tab := by
  show [phi Try.prog Try.f0, phi Try.prog Try.f1, phi Try.prog Try.f2, phi Try.prog Try.f3, phi Try.prog Try.f4, phi Try.prog Try.f5, phi Try.prog Try.f6, phi Try.prog Try.f7, phi Try.prog Try.f8, phi Try.prog Try.f9, phi Try.prog Try.f10, phi Try.prog Try.f11, phi Try.prog Try.f12, phi Try.prog Try.f13, phi Try.prog Try.f14, phi Try.prog Try.f15, phi Try.prog Try.f16, phi Try.prog Try.f17, phi Try.prog Try.f18, phi Try.prog Try.f19, phi Try.prog Try.f20, phi Try.prog Try.f21, phi Try.prog Try.f22, phi Try.prog Try.f23, phi Try.prog Try.f24, phi Try.prog Try.f25, phi Try.prog Try.f26, phi Try.prog Try.f27, phi Try.prog Try.f28, phi Try.prog Try.f29, phi Try.prog Try.f30, phi Try.prog Try.f31, phi Try.prog Try.f32, phi Try.prog Try.f33, phi Try.prog Try.f34, phi Try.prog Try.f35, phi Try.prog Try.f36, phi Try.prog Try.f37, phi Try.prog Try.f38, phi Try.prog Try.f39, phi Try.prog Try.f40, phi Try.prog Try.f41, phi Try.prog Try.f42, phi Try.prog Try.f43, phi Try.prog Try.f44, phi Try.prog Try.f45, phi Try.prog Try.f46, phi Try.prog Try.f47, phi Try.prog Try.f48, phi Try.prog Try.f49, phi Try.prog Try.f50, phi Try.prog Try.f51, phi Try.prog Try.f52, phi Try.prog Try.f53, phi Try.prog Try.f54, phi Try.prog Try.f55, phi Try.prog Try.f56, phi Try.prog Try.f57, phi Try.prog Try.f58, phi Try.prog Try.f59, phi Try.prog Try.f60, phi Try.prog Try.f61, phi Try.prog Try.f62, phi Try.prog Try.f63, phi Try.prog Try.f64, phi Try.prog Try.f65, phi Try.prog Try.f66, phi Try.prog Try.f67, phi Try.prog Try.f68, phi Try.prog Try.f69, phi Try.prog Try.f70, phi Try.prog Try.f71, phi Try.prog Try.f72, phi Try.prog Try.f73, phi Try.prog Try.f74, phi Try.prog Try.f75, phi Try.prog Try.f76, phi Try.prog Try.f77, phi Try.prog Try.f78, phi Try.prog Try.f79, phi Try.prog Try.f80, phi Try.prog Try.f81, phi Try.prog Try.f82, phi Try.prog Try.f83, phi Try.prog Try.f84, phi Try.prog Try.f85, phi Try.prog Try.f86, phi Try.prog Try.f87] = tab
  rw [row0, row1, row2, row3, row4, row5, row6, row7, row8, row9, row10, row11, row12, row13, row14, row15, row16, row17, row18, row19, row20, row21, row22, row23, row24, row25, row26, row27, row28, row29, row30, row31, row32, row33, row34, row35, row36, row37, row38, row39, row40, row41, row42, row43, row44, row45, row46, row47, row48, row49, row50, row51, row52, row53, row54, row55, row56, row57, row58, row59, row60, row61, row62, row63, row64, row65, row66, row67, row68, row69, row70, row71, row72, row73, row74, row75, row76, row77, row78, row79, row80, row81, row82, row83, row84, row85, row86, row87]
  rfl
def order : List Char := [Char.ofNat 104, Char.ofNat 97, Char.ofNat 114, Char.ofNat 110, Char.ofNat 101, Char.ofNat 115, Char.ofNat 115, Char.ofNat 32, Char.ofNat 51, Char.ofNat 50, Char.ofNat 97, Char.ofNat 97, Char.ofNat 97, Char.ofNat 48, Char.ofNat 52, Char.ofNat 50, Char.ofNat 56, Char.ofNat 100, Char.ofNat 51, Char.ofNat 52, Char.ofNat 54, Char.ofNat 102, Char.ofNat 101, Char.ofNat 97, Char.ofNat 54, Char.ofNat 55, Char.ofNat 98, Char.ofNat 52, Char.ofNat 54, Char.ofNat 48, Char.ofNat 49, Char.ofNat 101, Char.ofNat 98, Char.ofNat 49, Char.ofNat 97, Char.ofNat 100, Char.ofNat 101, Char.ofNat 50, Char.ofNat 53, Char.ofNat 49, Char.ofNat 55, Char.ofNat 48, Char.ofNat 49, Char.ofNat 50, Char.ofNat 101, Char.ofNat 57, Char.ofNat 53, Char.ofNat 48, Char.ofNat 98, Char.ofNat 52, Char.ofNat 101, Char.ofNat 99, Char.ofNat 102, Char.ofNat 97, Char.ofNat 50, Char.ofNat 48, Char.ofNat 51, Char.ofNat 53, Char.ofNat 57, Char.ofNat 51, Char.ofNat 101, Char.ofNat 51, Char.ofNat 102, Char.ofNat 101, Char.ofNat 48, Char.ofNat 98, Char.ofNat 53, Char.ofNat 52, Char.ofNat 99, Char.ofNat 97, Char.ofNat 51, Char.ofNat 49, Char.ofNat 32, Char.ofNat 99, Char.ofNat 117, Char.ofNat 116, Char.ofNat 32, Char.ofNat 97, Char.ofNat 116, Char.ofNat 32, Char.ofNat 108, Char.ofNat 111, Char.ofNat 111, Char.ofNat 112, Char.ofNat 46, Char.ofNat 101, Char.ofNat 120, Char.ofNat 97, Char.ofNat 109, Char.ofNat 112, Char.ofNat 108, Char.ofNat 101, Char.ofNat 47, Char.ofNat 103, Char.ofNat 48, Char.ofNat 51, Char.ofNat 50, Char.ofNat 50, Char.ofNat 57, Char.ofNat 47, Char.ofNat 108, Char.ofNat 97, Char.ofNat 119, Char.ofNat 115, Char.ofNat 46, Char.ofNat 70, Char.ofNat 110, Char.ofNat 67, Char.ofNat 111, Char.ofNat 110, Char.ofNat 115, Char.ofNat 101, Char.ofNat 114, Char.ofNat 118, Char.ofNat 101, Char.ofNat 100, Char.ofNat 32, Char.ofNat 108, Char.ofNat 111, Char.ofNat 111, Char.ofNat 112, Char.ofNat 46, Char.ofNat 101, Char.ofNat 120, Char.ofNat 97, Char.ofNat 109, Char.ofNat 112, Char.ofNat 108, Char.ofNat 101, Char.ofNat 47, Char.ofNat 103, Char.ofNat 48, Char.ofNat 51, Char.ofNat 50, Char.ofNat 50, Char.ofNat 57, Char.ofNat 47, Char.ofNat 108, Char.ofNat 97, Char.ofNat 119, Char.ofNat 115, Char.ofNat 46, Char.ofNat 70, Char.ofNat 110, Char.ofNat 82, Char.ofNat 111, Char.ofNat 119, Char.ofNat 32, Char.ofNat 108, Char.ofNat 111, Char.ofNat 111, Char.ofNat 112, Char.ofNat 46, Char.ofNat 101, Char.ofNat 120, Char.ofNat 97, Char.ofNat 109, Char.ofNat 112, Char.ofNat 108, Char.ofNat 101, Char.ofNat 47, Char.ofNat 103, Char.ofNat 48, Char.ofNat 51, Char.ofNat 50, Char.ofNat 50, Char.ofNat 57, Char.ofNat 47, Char.ofNat 108, Char.ofNat 97, Char.ofNat 119, Char.ofNat 115, Char.ofNat 46, Char.ofNat 70, Char.ofNat 110, Char.ofNat 69, Char.ofNat 120, Char.ofNat 97, Char.ofNat 99, Char.ofNat 116, Char.ofNat 65, Char.ofNat 100, Char.ofNat 100, Char.ofNat 80, Char.ofNat 105, Char.ofNat 99, Char.ofNat 116, Char.ofNat 117, Char.ofNat 114, Char.ofNat 101, Char.ofNat 115, Char.ofNat 32, Char.ofNat 108, Char.ofNat 111, Char.ofNat 111, Char.ofNat 112, Char.ofNat 46, Char.ofNat 101, Char.ofNat 120, Char.ofNat 97, Char.ofNat 109, Char.ofNat 112, Char.ofNat 108, Char.ofNat 101, Char.ofNat 47, Char.ofNat 103, Char.ofNat 48, Char.ofNat 51, Char.ofNat 50, Char.ofNat 50, Char.ofNat 57, Char.ofNat 47, Char.ofNat 108, Char.ofNat 97, Char.ofNat 119, Char.ofNat 115, Char.ofNat 46, Char.ofNat 70, Char.ofNat 110, Char.ofNat 69, Char.ofNat 109, Char.ofNat 112, Char.ofNat 116, Char.ofNat 121, Char.ofNat 32, Char.ofNat 108, Char.ofNat 111, Char.ofNat 111, Char.ofNat 112, Char.ofNat 46, Char.ofNat 101, Char.ofNat 120, Char.ofNat 97, Char.ofNat 109, Char.ofNat 112, Char.ofNat 108, Char.ofNat 101, Char.ofNat 47, Char.ofNat 103, Char.ofNat 48, Char.ofNat 51, Char.ofNat 50, Char.ofNat 50, Char.ofNat 57, Char.ofNat 47, Char.ofNat 108, Char.ofNat 97, Char.ofNat 119, Char.ofNat 115, Char.ofNat 46, Char.ofNat 70, Char.ofNat 110, Char.ofNat 69, Char.ofNat 120, Char.ofNat 97, Char.ofNat 99, Char.ofNat 116, Char.ofNat 82, Char.ofNat 111, Char.ofNat 119, Char.ofNat 68, Char.ofNat 111, Char.ofNat 116, Char.ofNat 115]
def words : List (List Char) := [[Char.ofNat 97, Char.ofNat 116], [Char.ofNat 108, Char.ofNat 111, Char.ofNat 111, Char.ofNat 112, Char.ofNat 46, Char.ofNat 101, Char.ofNat 120, Char.ofNat 97, Char.ofNat 109, Char.ofNat 112, Char.ofNat 108, Char.ofNat 101, Char.ofNat 47, Char.ofNat 103, Char.ofNat 48, Char.ofNat 51, Char.ofNat 50, Char.ofNat 50, Char.ofNat 57, Char.ofNat 47, Char.ofNat 108, Char.ofNat 97, Char.ofNat 119, Char.ofNat 115, Char.ofNat 46, Char.ofNat 70, Char.ofNat 110, Char.ofNat 67, Char.ofNat 111, Char.ofNat 110, Char.ofNat 115, Char.ofNat 101, Char.ofNat 114, Char.ofNat 118, Char.ofNat 101, Char.ofNat 100], [Char.ofNat 108, Char.ofNat 111, Char.ofNat 111, Char.ofNat 112, Char.ofNat 46, Char.ofNat 101, Char.ofNat 120, Char.ofNat 97, Char.ofNat 109, Char.ofNat 112, Char.ofNat 108, Char.ofNat 101, Char.ofNat 47, Char.ofNat 103, Char.ofNat 48, Char.ofNat 51, Char.ofNat 50, Char.ofNat 50, Char.ofNat 57, Char.ofNat 47, Char.ofNat 108, Char.ofNat 97, Char.ofNat 119, Char.ofNat 115, Char.ofNat 46, Char.ofNat 70, Char.ofNat 110, Char.ofNat 82, Char.ofNat 111, Char.ofNat 119], [Char.ofNat 108, Char.ofNat 111, Char.ofNat 111, Char.ofNat 112, Char.ofNat 46, Char.ofNat 101, Char.ofNat 120, Char.ofNat 97, Char.ofNat 109, Char.ofNat 112, Char.ofNat 108, Char.ofNat 101, Char.ofNat 47, Char.ofNat 103, Char.ofNat 48, Char.ofNat 51, Char.ofNat 50, Char.ofNat 50, Char.ofNat 57, Char.ofNat 47, Char.ofNat 108, Char.ofNat 97, Char.ofNat 119, Char.ofNat 115, Char.ofNat 46, Char.ofNat 70, Char.ofNat 110, Char.ofNat 69, Char.ofNat 120, Char.ofNat 97, Char.ofNat 99, Char.ofNat 116, Char.ofNat 65, Char.ofNat 100, Char.ofNat 100, Char.ofNat 80, Char.ofNat 105, Char.ofNat 99, Char.ofNat 116, Char.ofNat 117, Char.ofNat 114, Char.ofNat 101, Char.ofNat 115], [Char.ofNat 108, Char.ofNat 111, Char.ofNat 111, Char.ofNat 112, Char.ofNat 46, Char.ofNat 101, Char.ofNat 120, Char.ofNat 97, Char.ofNat 109, Char.ofNat 112, Char.ofNat 108, Char.ofNat 101, Char.ofNat 47, Char.ofNat 103, Char.ofNat 48, Char.ofNat 51, Char.ofNat 50, Char.ofNat 50, Char.ofNat 57, Char.ofNat 47, Char.ofNat 108, Char.ofNat 97, Char.ofNat 119, Char.ofNat 115, Char.ofNat 46, Char.ofNat 70, Char.ofNat 110, Char.ofNat 69, Char.ofNat 109, Char.ofNat 112, Char.ofNat 116, Char.ofNat 121], [Char.ofNat 108, Char.ofNat 111, Char.ofNat 111, Char.ofNat 112, Char.ofNat 46, Char.ofNat 101, Char.ofNat 120, Char.ofNat 97, Char.ofNat 109, Char.ofNat 112, Char.ofNat 108, Char.ofNat 101, Char.ofNat 47, Char.ofNat 103, Char.ofNat 48, Char.ofNat 51, Char.ofNat 50, Char.ofNat 50, Char.ofNat 57, Char.ofNat 47, Char.ofNat 108, Char.ofNat 97, Char.ofNat 119, Char.ofNat 115, Char.ofNat 46, Char.ofNat 70, Char.ofNat 110, Char.ofNat 69, Char.ofNat 120, Char.ofNat 97, Char.ofNat 99, Char.ofNat 116, Char.ofNat 82, Char.ofNat 111, Char.ofNat 119, Char.ofNat 68, Char.ofNat 111, Char.ofNat 116, Char.ofNat 115]]
set_option maxRecDepth 100000 in
theorem order_ok : Try.prog.initOrder.toList = order := (congrArg String.toList (show Try.prog.initOrder = String.ofList order by kernel_rfl)).trans String.toList_ofList
theorem words_ok : behindMainWord (wordsSigns Try.prog.initOrder.toList) = [Char.ofNat 99, Char.ofNat 117, Char.ofNat 116] :: words := by
  rw [order_ok]
  kernel_rfl
theorem liftsFinal_ok : Try.prog.liftsFinal = false := by
  unfold Program.liftsFinal Program.headLifts
  rw [words_ok]
  kernel_rfl
theorem make_ok : Try.prog.make = some .cut := make_of Try.prog words words_ok
theorem mayEnter_ok : Try.prog.mayEnter = true := mayEnter_of Try.prog words words_ok (by kernel_rfl) (by kernel_rfl) (by kernel_rfl)
theorem size_ok : Try.prog.funcs.size = 88 := by kernel_rfl
theorem at_tab (g : Nat) : (Try.prog.funcs[g]?).elim none0 (phi Try.prog) = tab.getD g none0 := tab_all Try.prog (phi Try.prog) none0 tab tab_ok g
def fuel : Nat := 145
def tb (g : Nat) : List Nat × Bool × Option String × List Nat × Option String := tab.getD g none0
def T (g : Nat) : List Nat := (tb g).1
theorem leads_ok (g : Nat) : (Try.prog.funcs[g]?).elim [] Try.prog.leadsTo = T g := leads_of Try.prog tb at_tab g
theorem closure_ok (f : Nat) : Try.prog.closure f = clo T fuel [f] [] := closure_eq Try.prog T 88 leads_ok size_ok fuel (of_decide_eq_true (by kernel_rfl)) f
theorem unfollowed_ok (f : Nat) : Try.prog.unfollowed f = unfollowedT T tb fuel f := unfollowed_of Try.prog tb at_tab T fuel closure_ok f
theorem recurses_ok (f : Nat) : Try.prog.recurses f = recursesT T tb fuel f := recurses_of Try.prog tb at_tab T fuel leads_ok closure_ok f
theorem inPlace_ok (f : Nat) : Try.prog.inPlace f = inPlaceT T tb fuel f := inPlace_of Try.prog tb at_tab T fuel closure_ok f
theorem varsNamed_ok (f : Nat) : Try.prog.varsNamed f = varsT Try.prog T tb fuel f := vars_of Try.prog tb at_tab T fuel closure_ok f
end Go.Proofs.Ytndnklicfibkeaa.K
