import Derived.Test.YtdlehfnlibddcaaProg
import Derived.KernelRfl
import GoSem.ClaimFn
import Derived.JoinedOf
namespace Go.Proofs.Ytdlehfnlibddcaa.K
set_option linter.unusedSimpArgs false
/-! What a function leads to, off a table: the closure's fuel is enough, whatever it is. -/
def clo (t : Nat → List Nat) : Nat → List Nat → List Nat → List Nat
  | 0, _, seen => seen.reverse
  | _, [], seen => seen.reverse
  | n + 1, f :: todo, seen => if seen.contains f then clo t n todo seen else clo t n (t f ++ todo) (f :: seen)
theorem clo_nil (t : Nat → List Nat) (n : Nat) (seen : List Nat) : clo t n [] seen = seen.reverse := by cases n <;> rfl
theorem clo_cons (t : Nat → List Nat) (n : Nat) (f : Nat) (todo seen : List Nat) : clo t (n + 1) (f :: todo) seen = if seen.contains f then clo t n todo seen else clo t n (t f ++ todo) (f :: seen) := rfl
theorem via_clo (P : Program) (t : Nat → List Nat) (ht : ∀ g, (P.funcs[g]?).elim [] P.leadsTo = t g) (n : Nat) : ∀ todo seen, P.closureVia n todo seen = clo t n todo seen := by
  induction n with
  | zero => intro todo seen; rfl
  | succ n ih =>
    intro todo seen
    cases todo with
    | nil => rfl
    | cons f todo =>
      rw [clo_cons, ← ht f, ← ih, ← ih]
      rfl
/-- What is still to come at most: what waits, and what the unseen ones of the first m lead to. -/
def pot (t : Nat → List Nat) (m : Nat) (todo seen : List Nat) : Nat := todo.length + ((List.range m).map fun g => if seen.contains g then 0 else (t g).length).sum
theorem sum_le (l : List Nat) (f g : Nat → Nat) (h : ∀ x ∈ l, f x ≤ g x) : (l.map f).sum ≤ (l.map g).sum := by
  induction l with
  | nil => simp
  | cons a r ih =>
    simp only [List.map_cons, List.sum_cons]
    have h1 := h a (by simp)
    have h2 := ih (fun x hx => h x (by simp [hx]))
    omega
theorem sum_split (l : List Nat) (hn : l.Nodup) (f g : Nat → Nat) (a : Nat) (ha : a ∈ l) (hf : g a = 0) (h : ∀ x ∈ l, x ≠ a → f x = g x) : (l.map f).sum = f a + (l.map g).sum := by
  induction l with
  | nil => cases ha
  | cons b r ih =>
    simp only [List.map_cons, List.sum_cons]
    rw [List.nodup_cons] at hn
    rcases List.mem_cons.1 ha with rfl | ha'
    · have : (r.map f) = (r.map g) := List.map_congr_left (fun x hx => h x (by simp [hx]) (fun e => hn.1 (e ▸ hx)))
      rw [this, hf]
      omega
    · have hb : f b = g b := h b (by simp) (fun e => hn.1 (e ▸ ha'))
      rw [ih hn.2 ha' (fun x hx => h x (by simp [hx])), hb]
      omega
theorem pot_seen (t : Nat → List Nat) (m : Nat) (f : Nat) (todo seen : List Nat) (hs : seen.contains f = false) (hm : ∀ g, m ≤ g → t g = []) : pot t m (t f ++ todo) (f :: seen) + 1 = pot t m (f :: todo) seen := by
  unfold pot
  rw [List.length_append, List.length_cons]
  by_cases h : f < m
  · rw [sum_split (List.range m) List.nodup_range (fun g => if seen.contains g then 0 else (t g).length) (fun g => if (f :: seen).contains g then 0 else (t g).length) f (List.mem_range.2 h) (by simp) (fun x hx hne => by simp [List.contains_cons, hne])]
    simp only [hs]
    simp
    omega
  · have e : (List.range m).map (fun g => if (f :: seen).contains g then 0 else (t g).length) = (List.range m).map (fun g => if seen.contains g then 0 else (t g).length) :=
      List.map_congr_left (fun x hx => by have := List.mem_range.1 hx; simp [List.contains_cons, show ¬ x = f by omega])
    rw [e, hm f (by omega)]
    simp
    omega
theorem clo_stable (t : Nat → List Nat) (m : Nat) (hm : ∀ g, m ≤ g → t g = []) (n : Nat) : ∀ todo seen, pot t m todo seen ≤ n → clo t n todo seen = clo t (n + 1) todo seen := by
  induction n with
  | zero =>
    intro todo seen h
    cases todo with
    | nil => rfl
    | cons f r => unfold pot at h; rw [List.length_cons] at h; omega
  | succ n ih =>
    intro todo seen h
    cases todo with
    | nil => rfl
    | cons f r =>
      rw [clo_cons, clo_cons]
      cases hs : seen.contains f with
      | true =>
        simp only [if_true]
        refine ih r seen ?_
        unfold pot at h ⊢
        rw [List.length_cons] at h
        omega
      | false =>
        simp only [Bool.false_eq_true, if_false]
        refine ih _ _ ?_
        have := pot_seen t m f r seen hs hm
        omega
theorem clo_more (t : Nat → List Nat) (m : Nat) (hm : ∀ g, m ≤ g → t g = []) (todo seen : List Nat) (n : Nat) (h : pot t m todo seen ≤ n) (k : Nat) : clo t n todo seen = clo t (n + k) todo seen := by
  induction k with
  | zero => rfl
  | succ k ih => rw [ih, ← Nat.add_assoc]; exact clo_stable t m hm (n + k) todo seen (by omega)
theorem closure_eq (P : Program) (t : Nat → List Nat) (m : Nat) (ht : ∀ g, (P.funcs[g]?).elim [] P.leadsTo = t g) (hsz : P.funcs.size = m) (M : Nat) (hM : 1 + ((List.range m).map fun g => (t g).length).sum ≤ M) (f : Nat) : P.closure f = clo t M [f] [] := by
  have hm : ∀ g, m ≤ g → t g = [] := fun g hg => by rw [← ht g, Array.getElem?_eq_none (by omega)]; rfl
  have e : P.funcs.toList.map (fun g => (P.leadsTo g).length + 1) = (List.range m).map fun g => (t g).length + 1 := by
    apply List.ext_getElem
    · simp [hsz]
    · intro i h1 h2
      simp only [List.getElem_map, List.getElem_range, Array.getElem_toList]
      rw [← ht i, Array.getElem?_eq_getElem (by simpa using h1)]
      rfl
  have p0 : pot t m [f] [] = 1 + ((List.range m).map fun g => (t g).length).sum := by unfold pot; simp
  have q : ((List.range m).map fun g => (t g).length).sum ≤ ((List.range m).map fun g => (t g).length + 1).sum := sum_le _ _ _ (fun x _ => by omega)
  unfold Program.closure
  rw [e, via_clo P t ht]
  rcases Nat.le_total M (1 + ((List.range m).map fun g => (t g).length + 1).sum) with h | h
  · obtain ⟨k, hk⟩ := Nat.exists_eq_add_of_le h
    rw [hk]
    exact (clo_more t m hm [f] [] M (by omega) k).symm
  · obtain ⟨k, hk⟩ := Nat.exists_eq_add_of_le h
    rw [hk]
    exact clo_more t m hm [f] [] _ (by omega) k
/-! A function's row: what it leads to, whether it calls what is not followed, its name where it counts, the variables it names. -/
def none0 : List Nat × Bool × Option String × List Nat × Option String := ([], false, none, [], none)
def phi (P : Program) (fn : Func) : List Nat × Bool × Option String × List Nat × Option String :=
  (P.leadsTo fn, (match fn.body with | some c => c.unfollowed | none => entryCalls fn), (if fn.ours || fn.body.isNone || fn.name == "runtime.NumGoroutine" then some fn.name else none), fn.body.elim [] Code.globalsNamed, if fn.body.isNone then entryReads.lookup fn.name else none)
theorem tab_all {α : Type} (P : Program) (φ : Func → α) (d : α) (tab : List α) (h : P.funcs.toList.map φ = tab) (g : Nat) : (P.funcs[g]?).elim d φ = tab.getD g d := by
  subst h
  rw [List.getD_eq_getElem?_getD, List.getElem?_map, Array.getElem?_toList]
  cases P.funcs[g]? <;> rfl
def unfollowedT (t : Nat → List Nat) (tb : Nat → List Nat × Bool × Option String × List Nat × Option String) (n f : Nat) : Bool := (clo t n [f] []).any fun g => (tb g).2.1
def recursesT (t : Nat → List Nat) (tb : Nat → List Nat × Bool × Option String × List Nat × Option String) (n f : Nat) : Bool := ((clo t n [f] []).any fun g => (tb g).2.1) || (clo t n [f] []).any fun g => (t g).any fun h => (clo t n [h] []).contains g
def inPlaceT (t : Nat → List Nat) (tb : Nat → List Nat × Bool × Option String × List Nat × Option String) (n f : Nat) : List String := (clo t n [f] []).filterMap fun g => (tb g).2.2.1
def varsT (P : Program) (t : Nat → List Nat) (tb : Nat → List Nat × Bool × Option String × List Nat × Option String) (n f : Nat) : List String := ((((clo t n [f] []).flatMap fun g => (tb g).2.2.2.1).eraseDups).filterMap (fun g => (P.globals[g]?).map (·.name)) ++ (clo t n [f] []).filterMap fun g => (tb g).2.2.2.2).eraseDups
theorem leads_of (P : Program) (tb : Nat → List Nat × Bool × Option String × List Nat × Option String) (at_ : ∀ g : Nat, (P.funcs[g]?).elim none0 (phi P) = tb g) (g : Nat) : (P.funcs[g]?).elim [] P.leadsTo = (tb g).1 := by
  rw [← at_ g]
  cases P.funcs[g]? <;> rfl
theorem unfollowed_of (P : Program) (tb : Nat → List Nat × Bool × Option String × List Nat × Option String) (at_ : ∀ g : Nat, (P.funcs[g]?).elim none0 (phi P) = tb g) (t : Nat → List Nat) (n : Nat) (hc : ∀ f, P.closure f = clo t n [f] []) (f : Nat) : P.unfollowed f = unfollowedT t tb n f := by
  unfold Program.unfollowed unfollowedT
  rw [hc]
  have e : (fun g : Nat => (P.funcs[g]?).any fun fn => match fn.body with | some c => c.unfollowed | none => entryCalls fn) = fun g => (tb g).2.1 := by
    funext g
    rw [← at_ g]
    cases P.funcs[g]? <;> rfl
  exact congrArg (fun q => (clo t n [f] []).any q) e
theorem recurses_of (P : Program) (tb : Nat → List Nat × Bool × Option String × List Nat × Option String) (at_ : ∀ g : Nat, (P.funcs[g]?).elim none0 (phi P) = tb g) (t : Nat → List Nat) (n : Nat) (ht : ∀ g : Nat, (P.funcs[g]?).elim [] P.leadsTo = t g) (hc : ∀ f, P.closure f = clo t n [f] []) (f : Nat) : P.recurses f = recursesT t tb n f := by
  unfold Program.recurses recursesT
  rw [unfollowed_of P tb at_ t n hc, hc]
  unfold unfollowedT
  have e : (fun g : Nat => ((P.funcs[g]?).elim [] P.leadsTo).any fun h => (P.closure h).contains g) = fun g => (t g).any fun h => (clo t n [h] []).contains g := by
    funext g
    rw [ht g]
    have e2 : (fun h => (P.closure h).contains g) = fun h => (clo t n [h] []).contains g := funext fun h => by rw [hc]
    rw [e2]
  rw [e]
theorem inPlace_of (P : Program) (tb : Nat → List Nat × Bool × Option String × List Nat × Option String) (at_ : ∀ g : Nat, (P.funcs[g]?).elim none0 (phi P) = tb g) (t : Nat → List Nat) (n : Nat) (hc : ∀ f, P.closure f = clo t n [f] []) (f : Nat) : P.inPlace f = inPlaceT t tb n f := by
  unfold Program.inPlace inPlaceT
  rw [hc]
  have e : (fun g : Nat => (P.funcs[g]?).bind fun fn => if fn.ours || fn.body.isNone || fn.name == "runtime.NumGoroutine" then some fn.name else none) = fun g => (tb g).2.2.1 := by
    funext g
    rw [← at_ g]
    cases P.funcs[g]? <;> rfl
  exact congrArg (fun q => (clo t n [f] []).filterMap q) e
theorem vars_of (P : Program) (tb : Nat → List Nat × Bool × Option String × List Nat × Option String) (at_ : ∀ g : Nat, (P.funcs[g]?).elim none0 (phi P) = tb g) (t : Nat → List Nat) (n : Nat) (hc : ∀ f, P.closure f = clo t n [f] []) (f : Nat) : P.varsNamed f = varsT P t tb n f := by
  unfold Program.varsNamed varsT
  rw [hc]
  have e1 : ∀ g : Nat, ((P.funcs[g]?).bind (·.body)).elim [] Code.globalsNamed = (tb g).2.2.2.1 := by
    intro g
    rw [← at_ g]
    cases P.funcs[g]? <;> rfl
  have e2 : ∀ g : Nat, ((P.funcs[g]?).bind fun fn => if fn.body.isNone then entryReads.lookup fn.name else none) = (tb g).2.2.2.2 := by
    intro g
    rw [← at_ g]
    cases P.funcs[g]? <;> rfl
  simp only [e1, e2]
theorem and_true' {a b : Bool} (h1 : a = true) (h2 : b = true) : (a && b) = true := by rw [h1, h2]; rfl
theorem make_of (P : Program) (ws : List (List Char)) (h : behindMainWord (wordsSigns P.initOrder.toList) = [Char.ofNat 99, Char.ofNat 117, Char.ofNat 116] :: ws) : P.make = some .cut := by
  unfold Program.make
  rw [h]
  have e1 : ([Char.ofNat 99, Char.ofNat 117, Char.ofNat 116] == "gc".toList || [Char.ofNat 99, Char.ofNat 117, Char.ofNat 116] == "spec".toList) = false := by decide
  have e2 : ([Char.ofNat 99, Char.ofNat 117, Char.ofNat 116] == "cut".toList) = true := by decide
  simp only [e1, e2, Bool.true_or, if_true, Bool.false_eq_true, if_false]
theorem lifts_of (ws : List (List Char)) : stripLifts liftWords ([Char.ofNat 99, Char.ofNat 117, Char.ofNat 116] :: ws) = ([], [Char.ofNat 99, Char.ofNat 117, Char.ofNat 116] :: ws) := by
  have e : ∀ o ∈ liftWords, ([Char.ofNat 99, Char.ofNat 117, Char.ofNat 116] == o.toList) = false := by decide
  have g : ∀ L : List String, (∀ o ∈ L, ([Char.ofNat 99, Char.ofNat 117, Char.ofNat 116] == o.toList) = false) → stripLifts L ([Char.ofNat 99, Char.ofNat 117, Char.ofNat 116] :: ws) = ([], [Char.ofNat 99, Char.ofNat 117, Char.ofNat 116] :: ws) := by
    intro L
    induction L with
    | nil => intro _; rfl
    | cons o r ih =>
      intro h
      unfold stripLifts
      rw [h o (by simp)]
      simp only [Bool.false_eq_true, if_false]
      exact ih (fun x hx => h x (by simp [hx]))
  exact g _ e
theorem mayEnter_of (P : Program) (ws : List (List Char)) (h : behindMainWord (wordsSigns P.initOrder.toList) = [Char.ofNat 99, Char.ofNat 117, Char.ofNat 116] :: ws) (h1 : P.laysLater = false) (h2 : P.bearsReflect = false) (h3 : P.doorFits [] = true) : P.mayEnter = true := by
  unfold Program.mayEnter
  rw [h]
  simp only [lifts_of, h1, h2, h3]
  simp

theorem row0 : phi Try.prog Try.f0 = ([], false, some "main.main", [], none) := by kernel_rfl
theorem row1 : phi Try.prog Try.f1 = ([], false, some "gosem.cut", [], none) := by kernel_rfl
theorem row2 : phi Try.prog Try.f2 = ([1], false, none, [], none) := by kernel_rfl
theorem row3 : phi Try.prog Try.f3 = ([23, 24, 25], false, none, [], none) := by kernel_rfl
theorem row4 : phi Try.prog Try.f4 = ([23, 26, 27, 27, 28, 23, 23, 29, 30, 30, 31, 26, 32], false, none, [], none) := by kernel_rfl
theorem row5 : phi Try.prog Try.f5 = ([33, 24, 34, 35, 36, 24, 34, 36], false, none, [], none) := by kernel_rfl
theorem row6 : phi Try.prog Try.f6 = ([37, 23, 23, 23, 23, 23, 38, 39, 40, 41, 43, 42], false, none, [], none) := by kernel_rfl
theorem row7 : phi Try.prog Try.f7 = ([23, 23, 26, 27, 27, 44, 44, 27, 27, 44], false, none, [], none) := by kernel_rfl
theorem row8 : phi Try.prog Try.f8 = ([45, 26, 34, 35, 36, 26, 34, 36], false, none, [], none) := by kernel_rfl
theorem row9 : phi Try.prog Try.f9 = ([46, 48, 47, 48, 41, 49, 48, 49, 50, 49, 50, 51, 48, 41, 49, 51], false, none, [], none) := by kernel_rfl
theorem row10 : phi Try.prog Try.f10 = ([46, 48, 52, 48, 40, 53, 48, 49, 50, 53, 54, 55, 48, 40, 53, 55], false, none, [], none) := by kernel_rfl
theorem row11 : phi Try.prog Try.f11 = ([37, 31, 28], false, none, [], none) := by kernel_rfl
theorem row12 : phi Try.prog Try.f12 = ([56, 58, 57, 58, 31, 34, 58, 34, 35, 34, 35, 36, 58, 31, 34, 36], false, none, [], none) := by kernel_rfl
theorem row13 : phi Try.prog Try.f13 = ([56, 58, 59, 58, 44, 58, 34], false, none, [], none) := by kernel_rfl
theorem row14 : phi Try.prog Try.f14 = ([56, 58, 60, 58, 39, 49, 58, 34, 35, 49, 50, 51, 58, 39, 49, 51], false, none, [], none) := by kernel_rfl
theorem row15 : phi Try.prog Try.f15 = ([37, 23, 23, 23, 23, 61, 28, 61, 61, 32, 29, 29], false, none, [], none) := by kernel_rfl
theorem row16 : phi Try.prog Try.f16 = ([56, 46, 58, 48, 62, 58, 48, 63, 53, 58, 34, 48, 49, 35, 50, 53, 54, 55, 58, 48, 63, 53, 55], false, none, [], none) := by kernel_rfl
theorem row17 : phi Try.prog Try.f17 = ([37, 23, 64, 64, 64, 64, 64, 64, 66, 65, 63, 64], false, none, [], none) := by kernel_rfl
theorem row18 : phi Try.prog Try.f18 = ([37, 23, 23, 67, 67, 68, 69, 69, 70], false, none, [], none) := by kernel_rfl
theorem row19 : phi Try.prog Try.f19 = ([56, 46, 58, 48, 71, 58, 48, 72, 49, 58, 34, 48, 49, 35, 50, 49, 50, 51, 58, 48, 72, 49, 51], false, none, [], none) := by kernel_rfl
theorem row20 : phi Try.prog Try.f20 = ([37, 73, 28, 73, 32, 23, 67, 76, 75, 74], false, none, [], none) := by kernel_rfl
theorem row21 : phi Try.prog Try.f21 = ([56, 46, 58, 48, 77, 58, 48, 78, 49, 58, 34, 48, 49, 35, 50, 49, 50, 51, 58, 48, 78, 49, 51], false, none, [], none) := by kernel_rfl
theorem row22 : phi Try.prog Try.f22 = ([37, 66, 65, 66, 80, 79, 72, 72, 68, 68, 70, 23, 81, 64, 39, 72, 74], false, none, [], none) := by kernel_rfl
theorem row23 : phi Try.prog Try.f23 = ([], false, none, [], none) := by kernel_rfl
theorem row24 : phi Try.prog Try.f24 = ([82, 83, 84], true, none, [], none) := by kernel_rfl
theorem row25 : phi Try.prog Try.f25 = ([85, 86], false, none, [], none) := by kernel_rfl
theorem row26 : phi Try.prog Try.f26 = ([31], false, none, [], none) := by kernel_rfl
theorem row27 : phi Try.prog Try.f27 = ([], false, none, [], none) := by kernel_rfl
theorem row28 : phi Try.prog Try.f28 = ([87], false, none, [], none) := by kernel_rfl
theorem row29 : phi Try.prog Try.f29 = ([28, 88], false, none, [], none) := by kernel_rfl
theorem row30 : phi Try.prog Try.f30 = ([89, 89], false, none, [], none) := by kernel_rfl
theorem row31 : phi Try.prog Try.f31 = ([28, 87, 90, 82], false, none, [], none) := by kernel_rfl
theorem row32 : phi Try.prog Try.f32 = ([42], false, none, [], none) := by kernel_rfl
theorem row33 : phi Try.prog Try.f33 = ([86, 86, 86], false, none, [], none) := by kernel_rfl
theorem row34 : phi Try.prog Try.f34 = ([53], false, none, [], none) := by kernel_rfl
theorem row35 : phi Try.prog Try.f35 = ([54], false, none, [], none) := by kernel_rfl
theorem row36 : phi Try.prog Try.f36 = ([55], false, none, [], none) := by kernel_rfl
theorem row37 : phi Try.prog Try.f37 = ([92, 91], false, none, [], none) := by kernel_rfl
theorem row38 : phi Try.prog Try.f38 = ([25, 86, 86, 93], false, none, [], none) := by kernel_rfl
theorem row39 : phi Try.prog Try.f39 = ([28, 94, 96, 95], false, none, [], none) := by kernel_rfl
theorem row40 : phi Try.prog Try.f40 = ([98], false, none, [], none) := by kernel_rfl
theorem row41 : phi Try.prog Try.f41 = ([68, 99, 95], false, none, [], none) := by kernel_rfl
theorem row42 : phi Try.prog Try.f42 = ([], false, none, [], none) := by kernel_rfl
theorem row43 : phi Try.prog Try.f43 = ([], false, none, [], none) := by kernel_rfl
theorem row44 : phi Try.prog Try.f44 = ([67, 100], false, none, [], none) := by kernel_rfl
theorem row45 : phi Try.prog Try.f45 = ([86, 101], false, none, [], none) := by kernel_rfl
theorem row46 : phi Try.prog Try.f46 = ([102], false, none, [], none) := by kernel_rfl
theorem row47 : phi Try.prog Try.f47 = ([103, 86, 86, 104], false, none, [], none) := by kernel_rfl
theorem row48 : phi Try.prog Try.f48 = ([105], false, none, [], none) := by kernel_rfl
theorem row49 : phi Try.prog Try.f49 = ([53], false, none, [], none) := by kernel_rfl
theorem row50 : phi Try.prog Try.f50 = ([54], false, none, [], none) := by kernel_rfl
theorem row51 : phi Try.prog Try.f51 = ([55], false, none, [], none) := by kernel_rfl
theorem row52 : phi Try.prog Try.f52 = ([106, 107, 108], false, none, [], none) := by kernel_rfl
theorem row53 : phi Try.prog Try.f53 = ([], false, none, [], none) := by kernel_rfl
theorem row54 : phi Try.prog Try.f54 = ([], false, none, [], none) := by kernel_rfl
theorem row55 : phi Try.prog Try.f55 = ([], false, none, [], none) := by kernel_rfl
theorem row56 : phi Try.prog Try.f56 = ([102], false, none, [], none) := by kernel_rfl
theorem row57 : phi Try.prog Try.f57 = ([25, 101], false, none, [], none) := by kernel_rfl
theorem row58 : phi Try.prog Try.f58 = ([105], false, none, [], none) := by kernel_rfl
theorem row59 : phi Try.prog Try.f59 = ([109, 110, 110], false, none, [], none) := by kernel_rfl
theorem row60 : phi Try.prog Try.f60 = ([25, 86, 111, 104, 93], false, none, [], none) := by kernel_rfl
theorem row61 : phi Try.prog Try.f61 = ([28, 112, 82], false, none, [], none) := by kernel_rfl
theorem row62 : phi Try.prog Try.f62 = ([25, 106, 113], false, none, [], none) := by kernel_rfl
theorem row63 : phi Try.prog Try.f63 = ([28, 98, 114], false, none, [], none) := by kernel_rfl
theorem row64 : phi Try.prog Try.f64 = ([28, 114], false, none, [], none) := by kernel_rfl
theorem row65 : phi Try.prog Try.f65 = ([92, 115], false, none, [], none) := by kernel_rfl
theorem row66 : phi Try.prog Try.f66 = ([], false, none, [], none) := by kernel_rfl
theorem row67 : phi Try.prog Try.f67 = ([28, 94, 116, 95], false, none, [], none) := by kernel_rfl
theorem row68 : phi Try.prog Try.f68 = ([98, 117], false, none, [], none) := by kernel_rfl
theorem row69 : phi Try.prog Try.f69 = ([98, 97], false, none, [], none) := by kernel_rfl
theorem row70 : phi Try.prog Try.f70 = ([118], false, none, [], none) := by kernel_rfl
theorem row71 : phi Try.prog Try.f71 = ([25, 106, 104, 93, 113], false, none, [], none) := by kernel_rfl
theorem row72 : phi Try.prog Try.f72 = ([28, 98, 119, 95], false, none, [], none) := by kernel_rfl
theorem row73 : phi Try.prog Try.f73 = ([28, 120, 82], false, none, [], none) := by kernel_rfl
theorem row74 : phi Try.prog Try.f74 = ([42], false, none, [], none) := by kernel_rfl
theorem row75 : phi Try.prog Try.f75 = ([106, 103, 104], false, none, [], none) := by kernel_rfl
theorem row76 : phi Try.prog Try.f76 = ([], false, none, [], none) := by kernel_rfl
theorem row77 : phi Try.prog Try.f77 = ([38, 71], false, none, [], none) := by kernel_rfl
theorem row78 : phi Try.prog Try.f78 = ([61, 72], false, none, [], none) := by kernel_rfl
theorem row79 : phi Try.prog Try.f79 = ([121, 104], false, none, [], none) := by kernel_rfl
theorem row80 : phi Try.prog Try.f80 = ([92, 104, 122], false, none, [], none) := by kernel_rfl
theorem row81 : phi Try.prog Try.f81 = ([94, 123, 95], false, none, [], none) := by kernel_rfl
theorem row82 : phi Try.prog Try.f82 = ([], true, none, [], none) := by kernel_rfl
theorem row83 : phi Try.prog Try.f83 = ([], false, none, [], none) := by kernel_rfl
theorem row84 : phi Try.prog Try.f84 = ([], false, none, [], none) := by kernel_rfl
theorem row85 : phi Try.prog Try.f85 = ([86, 86], false, none, [], none) := by kernel_rfl
theorem row86 : phi Try.prog Try.f86 = ([], false, none, [], none) := by kernel_rfl
theorem row87 : phi Try.prog Try.f87 = ([], false, none, [], none) := by kernel_rfl
theorem row88 : phi Try.prog Try.f88 = ([89, 89], false, none, [], none) := by kernel_rfl
theorem row89 : phi Try.prog Try.f89 = ([], false, none, [], none) := by kernel_rfl
theorem row90 : phi Try.prog Try.f90 = ([88], false, none, [], none) := by kernel_rfl
theorem row91 : phi Try.prog Try.f91 = ([122, 122, 45, 122, 33, 122, 122, 124, 122], false, none, [], none) := by kernel_rfl
theorem row92 : phi Try.prog Try.f92 = ([], false, none, [], none) := by kernel_rfl
theorem row93 : phi Try.prog Try.f93 = ([125, 125], false, none, [], none) := by kernel_rfl
theorem row94 : phi Try.prog Try.f94 = ([], false, none, [], none) := by kernel_rfl
theorem row95 : phi Try.prog Try.f95 = ([], true, none, [], none) := by kernel_rfl
theorem row96 : phi Try.prog Try.f96 = ([88, 97], false, none, [], none) := by kernel_rfl
theorem row97 : phi Try.prog Try.f97 = ([], false, none, [], none) := by kernel_rfl
theorem row98 : phi Try.prog Try.f98 = ([94, 117], false, none, [], none) := by kernel_rfl
theorem row99 : phi Try.prog Try.f99 = ([], false, none, [], none) := by kernel_rfl
theorem row100 : phi Try.prog Try.f100 = ([89, 89], false, none, [], none) := by kernel_rfl
theorem row101 : phi Try.prog Try.f101 = ([93], false, none, [], none) := by kernel_rfl
theorem row102 : phi Try.prog Try.f102 = ([], false, none, [], none) := by kernel_rfl
theorem row103 : phi Try.prog Try.f103 = ([126], false, none, [], none) := by kernel_rfl
theorem row104 : phi Try.prog Try.f104 = ([], false, none, [], none) := by kernel_rfl
theorem row105 : phi Try.prog Try.f105 = ([], false, none, [], none) := by kernel_rfl
theorem row106 : phi Try.prog Try.f106 = ([126], false, none, [], none) := by kernel_rfl
theorem row107 : phi Try.prog Try.f107 = ([106, 111, 86, 86, 104], false, none, [], none) := by kernel_rfl
theorem row108 : phi Try.prog Try.f108 = ([106], false, none, [], none) := by kernel_rfl
theorem row109 : phi Try.prog Try.f109 = ([25, 86, 111, 104], false, none, [], none) := by kernel_rfl
theorem row110 : phi Try.prog Try.f110 = ([127, 127], false, none, [], none) := by kernel_rfl
theorem row111 : phi Try.prog Try.f111 = ([86, 86], false, none, [], none) := by kernel_rfl
theorem row112 : phi Try.prog Try.f112 = ([88], false, none, [], none) := by kernel_rfl
theorem row113 : phi Try.prog Try.f113 = ([], false, none, [], none) := by kernel_rfl
theorem row114 : phi Try.prog Try.f114 = ([], false, none, [], none) := by kernel_rfl
theorem row115 : phi Try.prog Try.f115 = ([122, 122, 104, 122, 122, 128, 122], false, none, [], none) := by kernel_rfl
theorem row116 : phi Try.prog Try.f116 = ([88, 97], false, none, [], none) := by kernel_rfl
theorem row117 : phi Try.prog Try.f117 = ([130, 129], false, none, [], none) := by kernel_rfl
theorem row118 : phi Try.prog Try.f118 = ([98, 98], false, none, [], none) := by kernel_rfl
theorem row119 : phi Try.prog Try.f119 = ([88, 114, 97], false, none, [], none) := by kernel_rfl
theorem row120 : phi Try.prog Try.f120 = ([88], false, none, [], none) := by kernel_rfl
theorem row121 : phi Try.prog Try.f121 = ([106, 106], false, none, [], none) := by kernel_rfl
theorem row122 : phi Try.prog Try.f122 = ([131, 131, 131, 131, 131], false, none, [], none) := by kernel_rfl
theorem row123 : phi Try.prog Try.f123 = ([], false, none, [], none) := by kernel_rfl
theorem row124 : phi Try.prog Try.f124 = ([85], false, none, [], none) := by kernel_rfl
theorem row125 : phi Try.prog Try.f125 = ([], false, none, [], none) := by kernel_rfl
theorem row126 : phi Try.prog Try.f126 = ([111, 86], false, none, [], none) := by kernel_rfl
theorem row127 : phi Try.prog Try.f127 = ([125, 125], false, none, [], none) := by kernel_rfl
theorem row128 : phi Try.prog Try.f128 = ([122], false, none, [], none) := by kernel_rfl
theorem row129 : phi Try.prog Try.f129 = ([132], false, none, [], none) := by kernel_rfl
theorem row130 : phi Try.prog Try.f130 = ([], false, none, [], none) := by kernel_rfl
theorem row131 : phi Try.prog Try.f131 = ([], false, none, [], none) := by kernel_rfl
theorem row132 : phi Try.prog Try.f132 = ([], true, none, [], none) := by kernel_rfl
theorem row133 : phi Try.prog Try.f133 = ([], false, some "(runtime.boundsError).Error", [], none) := by kernel_rfl
theorem row134 : phi Try.prog Try.f134 = ([], false, some "(runtime.boundsError).RuntimeError", [], none) := by kernel_rfl
theorem row135 : phi Try.prog Try.f135 = ([], false, some "(runtime.errorString).Error", [], none) := by kernel_rfl
theorem row136 : phi Try.prog Try.f136 = ([], false, some "(runtime.errorString).RuntimeError", [], none) := by kernel_rfl
theorem row137 : phi Try.prog Try.f137 = ([], false, some "(runtime.plainError).Error", [], none) := by kernel_rfl
theorem row138 : phi Try.prog Try.f138 = ([], false, some "(runtime.plainError).RuntimeError", [], none) := by kernel_rfl
theorem row139 : phi Try.prog Try.f139 = ([], false, some "(runtime.errorAddressString).Error", [], none) := by kernel_rfl
theorem row140 : phi Try.prog Try.f140 = ([], false, some "(runtime.errorAddressString).RuntimeError", [], none) := by kernel_rfl
theorem row141 : phi Try.prog Try.f141 = ([], false, some "(*runtime.TypeAssertionError).Error", [], none) := by kernel_rfl
theorem row142 : phi Try.prog Try.f142 = ([], false, some "(*runtime.TypeAssertionError).RuntimeError", [], none) := by kernel_rfl
theorem row143 : phi Try.prog Try.f143 = ([], false, some "(*runtime.PanicNilError).Error", [], none) := by kernel_rfl
theorem row144 : phi Try.prog Try.f144 = ([], false, some "(*runtime.PanicNilError).RuntimeError", [], none) := by kernel_rfl
theorem row145 : phi Try.prog Try.f145 = ([], false, some "(*internal/abi.Type).Align", [], none) := by kernel_rfl
theorem row146 : phi Try.prog Try.f146 = ([], false, some "(internal/runtime/maps.unhashableTypeError).Error", [], none) := by kernel_rfl
theorem row147 : phi Try.prog Try.f147 = ([], false, some "(internal/runtime/maps.unhashableTypeError).RuntimeError", [], none) := by kernel_rfl
theorem row148 : phi Try.prog Try.f148 = ([], false, some "(internal/abi.Kind).String", [], none) := by kernel_rfl
def tab : List (List Nat × Bool × Option String × List Nat × Option String) := [([], false, some "main.main", [], none), ([], false, some "gosem.cut", [], none), ([1], false, none, [], none), ([23, 24, 25], false, none, [], none), ([23, 26, 27, 27, 28, 23, 23, 29, 30, 30, 31, 26, 32], false, none, [], none), ([33, 24, 34, 35, 36, 24, 34, 36], false, none, [], none), ([37, 23, 23, 23, 23, 23, 38, 39, 40, 41, 43, 42], false, none, [], none), ([23, 23, 26, 27, 27, 44, 44, 27, 27, 44], false, none, [], none), ([45, 26, 34, 35, 36, 26, 34, 36], false, none, [], none), ([46, 48, 47, 48, 41, 49, 48, 49, 50, 49, 50, 51, 48, 41, 49, 51], false, none, [], none), ([46, 48, 52, 48, 40, 53, 48, 49, 50, 53, 54, 55, 48, 40, 53, 55], false, none, [], none), ([37, 31, 28], false, none, [], none), ([56, 58, 57, 58, 31, 34, 58, 34, 35, 34, 35, 36, 58, 31, 34, 36], false, none, [], none), ([56, 58, 59, 58, 44, 58, 34], false, none, [], none), ([56, 58, 60, 58, 39, 49, 58, 34, 35, 49, 50, 51, 58, 39, 49, 51], false, none, [], none), ([37, 23, 23, 23, 23, 61, 28, 61, 61, 32, 29, 29], false, none, [], none), ([56, 46, 58, 48, 62, 58, 48, 63, 53, 58, 34, 48, 49, 35, 50, 53, 54, 55, 58, 48, 63, 53, 55], false, none, [], none), ([37, 23, 64, 64, 64, 64, 64, 64, 66, 65, 63, 64], false, none, [], none), ([37, 23, 23, 67, 67, 68, 69, 69, 70], false, none, [], none), ([56, 46, 58, 48, 71, 58, 48, 72, 49, 58, 34, 48, 49, 35, 50, 49, 50, 51, 58, 48, 72, 49, 51], false, none, [], none), ([37, 73, 28, 73, 32, 23, 67, 76, 75, 74], false, none, [], none), ([56, 46, 58, 48, 77, 58, 48, 78, 49, 58, 34, 48, 49, 35, 50, 49, 50, 51, 58, 48, 78, 49, 51], false, none, [], none), ([37, 66, 65, 66, 80, 79, 72, 72, 68, 68, 70, 23, 81, 64, 39, 72, 74], false, none, [], none), ([], false, none, [], none), ([82, 83, 84], true, none, [], none), ([85, 86], false, none, [], none), ([31], false, none, [], none), ([], false, none, [], none), ([87], false, none, [], none), ([28, 88], false, none, [], none), ([89, 89], false, none, [], none), ([28, 87, 90, 82], false, none, [], none), ([42], false, none, [], none), ([86, 86, 86], false, none, [], none), ([53], false, none, [], none), ([54], false, none, [], none), ([55], false, none, [], none), ([92, 91], false, none, [], none), ([25, 86, 86, 93], false, none, [], none), ([28, 94, 96, 95], false, none, [], none), ([98], false, none, [], none), ([68, 99, 95], false, none, [], none), ([], false, none, [], none), ([], false, none, [], none), ([67, 100], false, none, [], none), ([86, 101], false, none, [], none), ([102], false, none, [], none), ([103, 86, 86, 104], false, none, [], none), ([105], false, none, [], none), ([53], false, none, [], none), ([54], false, none, [], none), ([55], false, none, [], none), ([106, 107, 108], false, none, [], none), ([], false, none, [], none), ([], false, none, [], none), ([], false, none, [], none), ([102], false, none, [], none), ([25, 101], false, none, [], none), ([105], false, none, [], none), ([109, 110, 110], false, none, [], none), ([25, 86, 111, 104, 93], false, none, [], none), ([28, 112, 82], false, none, [], none), ([25, 106, 113], false, none, [], none), ([28, 98, 114], false, none, [], none), ([28, 114], false, none, [], none), ([92, 115], false, none, [], none), ([], false, none, [], none), ([28, 94, 116, 95], false, none, [], none), ([98, 117], false, none, [], none), ([98, 97], false, none, [], none), ([118], false, none, [], none), ([25, 106, 104, 93, 113], false, none, [], none), ([28, 98, 119, 95], false, none, [], none), ([28, 120, 82], false, none, [], none), ([42], false, none, [], none), ([106, 103, 104], false, none, [], none), ([], false, none, [], none), ([38, 71], false, none, [], none), ([61, 72], false, none, [], none), ([121, 104], false, none, [], none), ([92, 104, 122], false, none, [], none), ([94, 123, 95], false, none, [], none), ([], true, none, [], none), ([], false, none, [], none), ([], false, none, [], none), ([86, 86], false, none, [], none), ([], false, none, [], none), ([], false, none, [], none), ([89, 89], false, none, [], none), ([], false, none, [], none), ([88], false, none, [], none), ([122, 122, 45, 122, 33, 122, 122, 124, 122], false, none, [], none), ([], false, none, [], none), ([125, 125], false, none, [], none), ([], false, none, [], none), ([], true, none, [], none), ([88, 97], false, none, [], none), ([], false, none, [], none), ([94, 117], false, none, [], none), ([], false, none, [], none), ([89, 89], false, none, [], none), ([93], false, none, [], none), ([], false, none, [], none), ([126], false, none, [], none), ([], false, none, [], none), ([], false, none, [], none), ([126], false, none, [], none), ([106, 111, 86, 86, 104], false, none, [], none), ([106], false, none, [], none), ([25, 86, 111, 104], false, none, [], none), ([127, 127], false, none, [], none), ([86, 86], false, none, [], none), ([88], false, none, [], none), ([], false, none, [], none), ([], false, none, [], none), ([122, 122, 104, 122, 122, 128, 122], false, none, [], none), ([88, 97], false, none, [], none), ([130, 129], false, none, [], none), ([98, 98], false, none, [], none), ([88, 114, 97], false, none, [], none), ([88], false, none, [], none), ([106, 106], false, none, [], none), ([131, 131, 131, 131, 131], false, none, [], none), ([], false, none, [], none), ([85], false, none, [], none), ([], false, none, [], none), ([111, 86], false, none, [], none), ([125, 125], false, none, [], none), ([122], false, none, [], none), ([132], false, none, [], none), ([], false, none, [], none), ([], false, none, [], none), ([], true, none, [], none), ([], false, some "(runtime.boundsError).Error", [], none), ([], false, some "(runtime.boundsError).RuntimeError", [], none), ([], false, some "(runtime.errorString).Error", [], none), ([], false, some "(runtime.errorString).RuntimeError", [], none), ([], false, some "(runtime.plainError).Error", [], none), ([], false, some "(runtime.plainError).RuntimeError", [], none), ([], false, some "(runtime.errorAddressString).Error", [], none), ([], false, some "(runtime.errorAddressString).RuntimeError", [], none), ([], false, some "(*runtime.TypeAssertionError).Error", [], none), ([], false, some "(*runtime.TypeAssertionError).RuntimeError", [], none), ([], false, some "(*runtime.PanicNilError).Error", [], none), ([], false, some "(*runtime.PanicNilError).RuntimeError", [], none), ([], false, some "(*internal/abi.Type).Align", [], none), ([], false, some "(internal/runtime/maps.unhashableTypeError).Error", [], none), ([], false, some "(internal/runtime/maps.unhashableTypeError).RuntimeError", [], none), ([], false, some "(internal/abi.Kind).String", [], none)]
set_option maxRecDepth 100000 in
theorem tab_ok : Try.prog.funcs.toList.map (phi Try.prog) = tab := by
  show [phi Try.prog Try.f0, phi Try.prog Try.f1, phi Try.prog Try.f2, phi Try.prog Try.f3, phi Try.prog Try.f4, phi Try.prog Try.f5, phi Try.prog Try.f6, phi Try.prog Try.f7, phi Try.prog Try.f8, phi Try.prog Try.f9, phi Try.prog Try.f10, phi Try.prog Try.f11, phi Try.prog Try.f12, phi Try.prog Try.f13, phi Try.prog Try.f14, phi Try.prog Try.f15, phi Try.prog Try.f16, phi Try.prog Try.f17, phi Try.prog Try.f18, phi Try.prog Try.f19, phi Try.prog Try.f20, phi Try.prog Try.f21, phi Try.prog Try.f22, phi Try.prog Try.f23, phi Try.prog Try.f24, phi Try.prog Try.f25, phi Try.prog Try.f26, phi Try.prog Try.f27, phi Try.prog Try.f28, phi Try.prog Try.f29, phi Try.prog Try.f30, phi Try.prog Try.f31, phi Try.prog Try.f32, phi Try.prog Try.f33, phi Try.prog Try.f34, phi Try.prog Try.f35, phi Try.prog Try.f36, phi Try.prog Try.f37, phi Try.prog Try.f38, phi Try.prog Try.f39, phi Try.prog Try.f40, phi Try.prog Try.f41, phi Try.prog Try.f42, phi Try.prog Try.f43, phi Try.prog Try.f44, phi Try.prog Try.f45, phi Try.prog Try.f46, phi Try.prog Try.f47, phi Try.prog Try.f48, phi Try.prog Try.f49, phi Try.prog Try.f50, phi Try.prog Try.f51, phi Try.prog Try.f52, phi Try.prog Try.f53, phi Try.prog Try.f54, phi Try.prog Try.f55, phi Try.prog Try.f56, phi Try.prog Try.f57, phi Try.prog Try.f58, phi Try.prog Try.f59, phi Try.prog Try.f60, phi Try.prog Try.f61, phi Try.prog Try.f62, phi Try.prog Try.f63, phi Try.prog Try.f64, phi Try.prog Try.f65, phi Try.prog Try.f66, phi Try.prog Try.f67, phi Try.prog Try.f68, phi Try.prog Try.f69, phi Try.prog Try.f70, phi Try.prog Try.f71, phi Try.prog Try.f72, phi Try.prog Try.f73, phi Try.prog Try.f74, phi Try.prog Try.f75, phi Try.prog Try.f76, phi Try.prog Try.f77, phi Try.prog Try.f78, phi Try.prog Try.f79, phi Try.prog Try.f80, phi Try.prog Try.f81, phi Try.prog Try.f82, phi Try.prog Try.f83, phi Try.prog Try.f84, phi Try.prog Try.f85, phi Try.prog Try.f86, phi Try.prog Try.f87, phi Try.prog Try.f88, phi Try.prog Try.f89, phi Try.prog Try.f90, phi Try.prog Try.f91, phi Try.prog Try.f92, phi Try.prog Try.f93, phi Try.prog Try.f94, phi Try.prog Try.f95, phi Try.prog Try.f96, phi Try.prog Try.f97, phi Try.prog Try.f98, phi Try.prog Try.f99, phi Try.prog Try.f100, phi Try.prog Try.f101, phi Try.prog Try.f102, phi Try.prog Try.f103, phi Try.prog Try.f104, phi Try.prog Try.f105, phi Try.prog Try.f106, phi Try.prog Try.f107, phi Try.prog Try.f108, phi Try.prog Try.f109, phi Try.prog Try.f110, phi Try.prog Try.f111, phi Try.prog Try.f112, phi Try.prog Try.f113, phi Try.prog Try.f114, phi Try.prog Try.f115, phi Try.prog Try.f116, phi Try.prog Try.f117, phi Try.prog Try.f118, phi Try.prog Try.f119, phi Try.prog Try.f120, phi Try.prog Try.f121, phi Try.prog Try.f122, phi Try.prog Try.f123, phi Try.prog Try.f124, phi Try.prog Try.f125, phi Try.prog Try.f126, phi Try.prog Try.f127, phi Try.prog Try.f128, phi Try.prog Try.f129, phi Try.prog Try.f130, phi Try.prog Try.f131, phi Try.prog Try.f132, phi Try.prog Try.f133, phi Try.prog Try.f134, phi Try.prog Try.f135, phi Try.prog Try.f136, phi Try.prog Try.f137, phi Try.prog Try.f138, phi Try.prog Try.f139, phi Try.prog Try.f140, phi Try.prog Try.f141, phi Try.prog Try.f142, phi Try.prog Try.f143, phi Try.prog Try.f144, phi Try.prog Try.f145, phi Try.prog Try.f146, phi Try.prog Try.f147, phi Try.prog Try.f148] = tab
  rw [row0, row1, row2, row3, row4, row5, row6, row7, row8, row9, row10, row11, row12, row13, row14, row15, row16, row17, row18, row19, row20, row21, row22, row23, row24, row25, row26, row27, row28, row29, row30, row31, row32, row33, row34, row35, row36, row37, row38, row39, row40, row41, row42, row43, row44, row45, row46, row47, row48, row49, row50, row51, row52, row53, row54, row55, row56, row57, row58, row59, row60, row61, row62, row63, row64, row65, row66, row67, row68, row69, row70, row71, row72, row73, row74, row75, row76, row77, row78, row79, row80, row81, row82, row83, row84, row85, row86, row87, row88, row89, row90, row91, row92, row93, row94, row95, row96, row97, row98, row99, row100, row101, row102, row103, row104, row105, row106, row107, row108, row109, row110, row111, row112, row113, row114, row115, row116, row117, row118, row119, row120, row121, row122, row123, row124, row125, row126, row127, row128, row129, row130, row131, row132, row133, row134, row135, row136, row137, row138, row139, row140, row141, row142, row143, row144, row145, row146, row147, row148]
  rfl
def order : List Char := [Char.ofNat 104, Char.ofNat 97, Char.ofNat 114, Char.ofNat 110, Char.ofNat 101, Char.ofNat 115, Char.ofNat 115, Char.ofNat 32, Char.ofNat 54, Char.ofNat 51, Char.ofNat 100, Char.ofNat 52, Char.ofNat 97, Char.ofNat 51, Char.ofNat 56, Char.ofNat 49, Char.ofNat 98, Char.ofNat 56, Char.ofNat 48, Char.ofNat 55, Char.ofNat 100, Char.ofNat 50, Char.ofNat 51, Char.ofNat 52, Char.ofNat 56, Char.ofNat 48, Char.ofNat 56, Char.ofNat 101, Char.ofNat 99, Char.ofNat 99, Char.ofNat 51, Char.ofNat 55, Char.ofNat 50, Char.ofNat 98, Char.ofNat 100, Char.ofNat 100, Char.ofNat 50, Char.ofNat 100, Char.ofNat 54, Char.ofNat 99, Char.ofNat 56, Char.ofNat 55, Char.ofNat 99, Char.ofNat 54, Char.ofNat 55, Char.ofNat 48, Char.ofNat 50, Char.ofNat 100, Char.ofNat 97, Char.ofNat 50, Char.ofNat 52, Char.ofNat 100, Char.ofNat 98, Char.ofNat 99, Char.ofNat 102, Char.ofNat 52, Char.ofNat 54, Char.ofNat 57, Char.ofNat 101, Char.ofNat 55, Char.ofNat 51, Char.ofNat 100, Char.ofNat 101, Char.ofNat 57, Char.ofNat 54, Char.ofNat 100, Char.ofNat 49, Char.ofNat 101, Char.ofNat 102, Char.ofNat 99, Char.ofNat 55, Char.ofNat 54, Char.ofNat 32, Char.ofNat 99, Char.ofNat 117, Char.ofNat 116, Char.ofNat 32, Char.ofNat 97, Char.ofNat 116, Char.ofNat 32, Char.ofNat 108, Char.ofNat 111, Char.ofNat 111, Char.ofNat 112, Char.ofNat 46, Char.ofNat 101, Char.ofNat 120, Char.ofNat 97, Char.ofNat 109, Char.ofNat 112, Char.ofNat 108, Char.ofNat 101, Char.ofNat 47, Char.ofNat 103, Char.ofNat 48, Char.ofNat 51, Char.ofNat 50, Char.ofNat 50, Char.ofNat 57, Char.ofNat 47, Char.ofNat 108, Char.ofNat 97, Char.ofNat 119, Char.ofNat 115, Char.ofNat 46, Char.ofNat 70, Char.ofNat 110, Char.ofNat 83, Char.ofNat 112, Char.ofNat 105, Char.ofNat 114, Char.ofNat 97, Char.ofNat 108, Char.ofNat 32, Char.ofNat 108, Char.ofNat 111, Char.ofNat 111, Char.ofNat 112, Char.ofNat 46, Char.ofNat 101, Char.ofNat 120, Char.ofNat 97, Char.ofNat 109, Char.ofNat 112, Char.ofNat 108, Char.ofNat 101, Char.ofNat 47, Char.ofNat 103, Char.ofNat 48, Char.ofNat 51, Char.ofNat 50, Char.ofNat 50, Char.ofNat 57, Char.ofNat 47, Char.ofNat 108, Char.ofNat 97, Char.ofNat 119, Char.ofNat 115, Char.ofNat 46, Char.ofNat 70, Char.ofNat 110, Char.ofNat 66, Char.ofNat 97, Char.ofNat 121, Char.ofNat 101, Char.ofNat 114, Char.ofNat 32, Char.ofNat 108, Char.ofNat 111, Char.ofNat 111, Char.ofNat 112, Char.ofNat 46, Char.ofNat 101, Char.ofNat 120, Char.ofNat 97, Char.ofNat 109, Char.ofNat 112, Char.ofNat 108, Char.ofNat 101, Char.ofNat 47, Char.ofNat 103, Char.ofNat 48, Char.ofNat 51, Char.ofNat 50, Char.ofNat 50, Char.ofNat 57, Char.ofNat 47, Char.ofNat 108, Char.ofNat 97, Char.ofNat 119, Char.ofNat 115, Char.ofNat 46, Char.ofNat 70, Char.ofNat 110, Char.ofNat 69, Char.ofNat 120, Char.ofNat 97, Char.ofNat 99, Char.ofNat 116, Char.ofNat 83, Char.ofNat 112, Char.ofNat 105, Char.ofNat 114, Char.ofNat 97, Char.ofNat 108, Char.ofNat 77, Char.ofNat 97, Char.ofNat 116, Char.ofNat 114, Char.ofNat 105, Char.ofNat 120, Char.ofNat 32, Char.ofNat 108, Char.ofNat 111, Char.ofNat 111, Char.ofNat 112, Char.ofNat 46, Char.ofNat 101, Char.ofNat 120, Char.ofNat 97, Char.ofNat 109, Char.ofNat 112, Char.ofNat 108, Char.ofNat 101, Char.ofNat 47, Char.ofNat 103, Char.ofNat 48, Char.ofNat 51, Char.ofNat 50, Char.ofNat 50, Char.ofNat 57, Char.ofNat 47, Char.ofNat 108, Char.ofNat 97, Char.ofNat 119, Char.ofNat 115, Char.ofNat 46, Char.ofNat 70, Char.ofNat 110, Char.ofNat 84, Char.ofNat 105, Char.ofNat 108, Char.ofNat 101, Char.ofNat 115, Char.ofNat 32, Char.ofNat 108, Char.ofNat 111, Char.ofNat 111, Char.ofNat 112, Char.ofNat 46, Char.ofNat 101, Char.ofNat 120, Char.ofNat 97, Char.ofNat 109, Char.ofNat 112, Char.ofNat 108, Char.ofNat 101, Char.ofNat 47, Char.ofNat 103, Char.ofNat 48, Char.ofNat 51, Char.ofNat 50, Char.ofNat 50, Char.ofNat 57, Char.ofNat 47, Char.ofNat 108, Char.ofNat 97, Char.ofNat 119, Char.ofNat 115, Char.ofNat 46, Char.ofNat 70, Char.ofNat 110, Char.ofNat 83, Char.ofNat 112, Char.ofNat 114, Char.ofNat 101, Char.ofNat 97, Char.ofNat 100, Char.ofNat 32, Char.ofNat 108, Char.ofNat 111, Char.ofNat 111, Char.ofNat 112, Char.ofNat 46, Char.ofNat 101, Char.ofNat 120, Char.ofNat 97, Char.ofNat 109, Char.ofNat 112, Char.ofNat 108, Char.ofNat 101, Char.ofNat 47, Char.ofNat 103, Char.ofNat 48, Char.ofNat 51, Char.ofNat 50, Char.ofNat 50, Char.ofNat 57, Char.ofNat 47, Char.ofNat 108, Char.ofNat 97, Char.ofNat 119, Char.ofNat 115, Char.ofNat 46, Char.ofNat 70, Char.ofNat 110, Char.ofNat 69, Char.ofNat 120, Char.ofNat 97, Char.ofNat 99, Char.ofNat 116, Char.ofNat 66, Char.ofNat 97, Char.ofNat 121, Char.ofNat 101, Char.ofNat 114, Char.ofNat 77, Char.ofNat 97, Char.ofNat 116, Char.ofNat 114, Char.ofNat 105, Char.ofNat 120, Char.ofNat 32, Char.ofNat 108, Char.ofNat 111, Char.ofNat 111, Char.ofNat 112, Char.ofNat 46, Char.ofNat 101, Char.ofNat 120, Char.ofNat 97, Char.ofNat 109, Char.ofNat 112, Char.ofNat 108, Char.ofNat 101, Char.ofNat 47, Char.ofNat 103, Char.ofNat 48, Char.ofNat 51, Char.ofNat 50, Char.ofNat 50, Char.ofNat 57, Char.ofNat 47, Char.ofNat 108, Char.ofNat 97, Char.ofNat 119, Char.ofNat 115, Char.ofNat 46, Char.ofNat 70, Char.ofNat 110, Char.ofNat 69, Char.ofNat 120, Char.ofNat 97, Char.ofNat 99, Char.ofNat 116, Char.ofNat 66, Char.ofNat 108, Char.ofNat 117, Char.ofNat 114, Char.ofNat 80, Char.ofNat 105, Char.ofNat 99, Char.ofNat 116, Char.ofNat 117, Char.ofNat 114, Char.ofNat 101, Char.ofNat 32, Char.ofNat 108, Char.ofNat 111, Char.ofNat 111, Char.ofNat 112, Char.ofNat 46, Char.ofNat 101, Char.ofNat 120, Char.ofNat 97, Char.ofNat 109, Char.ofNat 112, Char.ofNat 108, Char.ofNat 101, Char.ofNat 47, Char.ofNat 103, Char.ofNat 48, Char.ofNat 51, Char.ofNat 50, Char.ofNat 50, Char.ofNat 57, Char.ofNat 47, Char.ofNat 108, Char.ofNat 97, Char.ofNat 119, Char.ofNat 115, Char.ofNat 46, Char.ofNat 70, Char.ofNat 110, Char.ofNat 69, Char.ofNat 120, Char.ofNat 97, Char.ofNat 99, Char.ofNat 116, Char.ofNat 84, Char.ofNat 105, Char.ofNat 108, Char.ofNat 101, Char.ofNat 83, Char.ofNat 117, Char.ofNat 109, Char.ofNat 115, Char.ofNat 32, Char.ofNat 108, Char.ofNat 111, Char.ofNat 111, Char.ofNat 112, Char.ofNat 46, Char.ofNat 101, Char.ofNat 120, Char.ofNat 97, Char.ofNat 109, Char.ofNat 112, Char.ofNat 108, Char.ofNat 101, Char.ofNat 47, Char.ofNat 103, Char.ofNat 48, Char.ofNat 51, Char.ofNat 50, Char.ofNat 50, Char.ofNat 57, Char.ofNat 47, Char.ofNat 108, Char.ofNat 97, Char.ofNat 119, Char.ofNat 115, Char.ofNat 46, Char.ofNat 70, Char.ofNat 110, Char.ofNat 68, Char.ofNat 111, Char.ofNat 117, Char.ofNat 98, Char.ofNat 108, Char.ofNat 101, Char.ofNat 100, Char.ofNat 32, Char.ofNat 108, Char.ofNat 111, Char.ofNat 111, Char.ofNat 112, Char.ofNat 46, Char.ofNat 101, Char.ofNat 120, Char.ofNat 97, Char.ofNat 109, Char.ofNat 112, Char.ofNat 108, Char.ofNat 101, Char.ofNat 47, Char.ofNat 103, Char.ofNat 48, Char.ofNat 51, Char.ofNat 50, Char.ofNat 50, Char.ofNat 57, Char.ofNat 47, Char.ofNat 108, Char.ofNat 97, Char.ofNat 119, Char.ofNat 115, Char.ofNat 46, Char.ofNat 70, Char.ofNat 110, Char.ofNat 69, Char.ofNat 120, Char.ofNat 97, Char.ofNat 99, Char.ofNat 116, Char.ofNat 68, Char.ofNat 111, Char.ofNat 117, Char.ofNat 98, Char.ofNat 108, Char.ofNat 101, Char.ofNat 77, Char.ofNat 97, Char.ofNat 116, Char.ofNat 114, Char.ofNat 105, Char.ofNat 120, Char.ofNat 32, Char.ofNat 108, Char.ofNat 111, Char.ofNat 111, Char.ofNat 112, Char.ofNat 46, Char.ofNat 101, Char.ofNat 120, Char.ofNat 97, Char.ofNat 109, Char.ofNat 112, Char.ofNat 108, Char.ofNat 101, Char.ofNat 47, Char.ofNat 103, Char.ofNat 48, Char.ofNat 51, Char.ofNat 50, Char.ofNat 50, Char.ofNat 57, Char.ofNat 47, Char.ofNat 108, Char.ofNat 97, Char.ofNat 119, Char.ofNat 115, Char.ofNat 46, Char.ofNat 70, Char.ofNat 110, Char.ofNat 69, Char.ofNat 120, Char.ofNat 97, Char.ofNat 99, Char.ofNat 116, Char.ofNat 83, Char.ofNat 112, Char.ofNat 114, Char.ofNat 101, Char.ofNat 97, Char.ofNat 100, Char.ofNat 79, Char.ofNat 102, Char.ofNat 32, Char.ofNat 108, Char.ofNat 111, Char.ofNat 111, Char.ofNat 112, Char.ofNat 46, Char.ofNat 101, Char.ofNat 120, Char.ofNat 97, Char.ofNat 109, Char.ofNat 112, Char.ofNat 108, Char.ofNat 101, Char.ofNat 47, Char.ofNat 103, Char.ofNat 48, Char.ofNat 51, Char.ofNat 50, Char.ofNat 50, Char.ofNat 57, Char.ofNat 47, Char.ofNat 108, Char.ofNat 97, Char.ofNat 119, Char.ofNat 115, Char.ofNat 46, Char.ofNat 70, Char.ofNat 110, Char.ofNat 69, Char.ofNat 120, Char.ofNat 97, Char.ofNat 99, Char.ofNat 116, Char.ofNat 83, Char.ofNat 99, Char.ofNat 114, Char.ofNat 101, Char.ofNat 101, Char.ofNat 110, Char.ofNat 76, Char.ofNat 101, Char.ofNat 118, Char.ofNat 101, Char.ofNat 108, Char.ofNat 32, Char.ofNat 108, Char.ofNat 111, Char.ofNat 111, Char.ofNat 112, Char.ofNat 46, Char.ofNat 101, Char.ofNat 120, Char.ofNat 97, Char.ofNat 109, Char.ofNat 112, Char.ofNat 108, Char.ofNat 101, Char.ofNat 47, Char.ofNat 103, Char.ofNat 48, Char.ofNat 51, Char.ofNat 50, Char.ofNat 50, Char.ofNat 57, Char.ofNat 47, Char.ofNat 108, Char.ofNat 97, Char.ofNat 119, Char.ofNat 115, Char.ofNat 46, Char.ofNat 70, Char.ofNat 110, Char.ofNat 83, Char.ofNat 104, Char.ofNat 105, Char.ofNat 102, Char.ofNat 116, Char.ofNat 101, Char.ofNat 100, Char.ofNat 32, Char.ofNat 108, Char.ofNat 111, Char.ofNat 111, Char.ofNat 112, Char.ofNat 46, Char.ofNat 101, Char.ofNat 120, Char.ofNat 97, Char.ofNat 109, Char.ofNat 112, Char.ofNat 108, Char.ofNat 101, Char.ofNat 47, Char.ofNat 103, Char.ofNat 48, Char.ofNat 51, Char.ofNat 50, Char.ofNat 50, Char.ofNat 57, Char.ofNat 47, Char.ofNat 108, Char.ofNat 97, Char.ofNat 119, Char.ofNat 115, Char.ofNat 46, Char.ofNat 70, Char.ofNat 110, Char.ofNat 69, Char.ofNat 120, Char.ofNat 97, Char.ofNat 99, Char.ofNat 116, Char.ofNat 76, Char.ofNat 101, Char.ofNat 118, Char.ofNat 101, Char.ofNat 108, Char.ofNat 115, Char.ofNat 70, Char.ofNat 111, Char.ofNat 114, Char.ofNat 32, Char.ofNat 108, Char.ofNat 111, Char.ofNat 111, Char.ofNat 112, Char.ofNat 46, Char.ofNat 101, Char.ofNat 120, Char.ofNat 97, Char.ofNat 109, Char.ofNat 112, Char.ofNat 108, Char.ofNat 101, Char.ofNat 47, Char.ofNat 103, Char.ofNat 48, Char.ofNat 51, Char.ofNat 50, Char.ofNat 50, Char.ofNat 57, Char.ofNat 47, Char.ofNat 108, Char.ofNat 97, Char.ofNat 119, Char.ofNat 115, Char.ofNat 46, Char.ofNat 70, Char.ofNat 110, Char.ofNat 76, Char.ofNat 101, Char.ofNat 118, Char.ofNat 101, Char.ofNat 108, Char.ofNat 115, Char.ofNat 32, Char.ofNat 108, Char.ofNat 111, Char.ofNat 111, Char.ofNat 112, Char.ofNat 46, Char.ofNat 101, Char.ofNat 120, Char.ofNat 97, Char.ofNat 109, Char.ofNat 112, Char.ofNat 108, Char.ofNat 101, Char.ofNat 47, Char.ofNat 103, Char.ofNat 48, Char.ofNat 51, Char.ofNat 50, Char.ofNat 50, Char.ofNat 57, Char.ofNat 47, Char.ofNat 108, Char.ofNat 97, Char.ofNat 119, Char.ofNat 115, Char.ofNat 46, Char.ofNat 70, Char.ofNat 110, Char.ofNat 78, Char.ofNat 101, Char.ofNat 115, Char.ofNat 116, Char.ofNat 101, Char.ofNat 100, Char.ofNat 32, Char.ofNat 108, Char.ofNat 111, Char.ofNat 111, Char.ofNat 112, Char.ofNat 46, Char.ofNat 101, Char.ofNat 120, Char.ofNat 97, Char.ofNat 109, Char.ofNat 112, Char.ofNat 108, Char.ofNat 101, Char.ofNat 47, Char.ofNat 103, Char.ofNat 48, Char.ofNat 51, Char.ofNat 50, Char.ofNat 50, Char.ofNat 57, Char.ofNat 47, Char.ofNat 108, Char.ofNat 97, Char.ofNat 119, Char.ofNat 115, Char.ofNat 46, Char.ofNat 70, Char.ofNat 110, Char.ofNat 69, Char.ofNat 120, Char.ofNat 97, Char.ofNat 99, Char.ofNat 116, Char.ofNat 83, Char.ofNat 99, Char.ofNat 114, Char.ofNat 101, Char.ofNat 101, Char.ofNat 110, Char.ofNat 80, Char.ofNat 105, Char.ofNat 99, Char.ofNat 116, Char.ofNat 117, Char.ofNat 114, Char.ofNat 101, Char.ofNat 32, Char.ofNat 108, Char.ofNat 111, Char.ofNat 111, Char.ofNat 112, Char.ofNat 46, Char.ofNat 101, Char.ofNat 120, Char.ofNat 97, Char.ofNat 109, Char.ofNat 112, Char.ofNat 108, Char.ofNat 101, Char.ofNat 47, Char.ofNat 103, Char.ofNat 48, Char.ofNat 51, Char.ofNat 50, Char.ofNat 50, Char.ofNat 57, Char.ofNat 47, Char.ofNat 108, Char.ofNat 97, Char.ofNat 119, Char.ofNat 115, Char.ofNat 46, Char.ofNat 70, Char.ofNat 110, Char.ofNat 82, Char.ofNat 101, Char.ofNat 118, Char.ofNat 101, Char.ofNat 114, Char.ofNat 115, Char.ofNat 101, Char.ofNat 100, Char.ofNat 32, Char.ofNat 108, Char.ofNat 111, Char.ofNat 111, Char.ofNat 112, Char.ofNat 46, Char.ofNat 101, Char.ofNat 120, Char.ofNat 97, Char.ofNat 109, Char.ofNat 112, Char.ofNat 108, Char.ofNat 101, Char.ofNat 47, Char.ofNat 103, Char.ofNat 48, Char.ofNat 51, Char.ofNat 50, Char.ofNat 50, Char.ofNat 57, Char.ofNat 47, Char.ofNat 108, Char.ofNat 97, Char.ofNat 119, Char.ofNat 115, Char.ofNat 46, Char.ofNat 70, Char.ofNat 110, Char.ofNat 69, Char.ofNat 120, Char.ofNat 97, Char.ofNat 99, Char.ofNat 116, Char.ofNat 83, Char.ofNat 99, Char.ofNat 114, Char.ofNat 101, Char.ofNat 101, Char.ofNat 110, Char.ofNat 83, Char.ofNat 104, Char.ofNat 105, Char.ofNat 102, Char.ofNat 116, Char.ofNat 101, Char.ofNat 100, Char.ofNat 32, Char.ofNat 108, Char.ofNat 111, Char.ofNat 111, Char.ofNat 112, Char.ofNat 46, Char.ofNat 101, Char.ofNat 120, Char.ofNat 97, Char.ofNat 109, Char.ofNat 112, Char.ofNat 108, Char.ofNat 101, Char.ofNat 47, Char.ofNat 103, Char.ofNat 48, Char.ofNat 51, Char.ofNat 50, Char.ofNat 50, Char.ofNat 57, Char.ofNat 47, Char.ofNat 108, Char.ofNat 97, Char.ofNat 119, Char.ofNat 115, Char.ofNat 46, Char.ofNat 70, Char.ofNat 110, Char.ofNat 83, Char.ofNat 116, Char.ofNat 97, Char.ofNat 99, Char.ofNat 107, Char.ofNat 101, Char.ofNat 100]
def words : List (List Char) := [[Char.ofNat 97, Char.ofNat 116], [Char.ofNat 108, Char.ofNat 111, Char.ofNat 111, Char.ofNat 112, Char.ofNat 46, Char.ofNat 101, Char.ofNat 120, Char.ofNat 97, Char.ofNat 109, Char.ofNat 112, Char.ofNat 108, Char.ofNat 101, Char.ofNat 47, Char.ofNat 103, Char.ofNat 48, Char.ofNat 51, Char.ofNat 50, Char.ofNat 50, Char.ofNat 57, Char.ofNat 47, Char.ofNat 108, Char.ofNat 97, Char.ofNat 119, Char.ofNat 115, Char.ofNat 46, Char.ofNat 70, Char.ofNat 110, Char.ofNat 83, Char.ofNat 112, Char.ofNat 105, Char.ofNat 114, Char.ofNat 97, Char.ofNat 108], [Char.ofNat 108, Char.ofNat 111, Char.ofNat 111, Char.ofNat 112, Char.ofNat 46, Char.ofNat 101, Char.ofNat 120, Char.ofNat 97, Char.ofNat 109, Char.ofNat 112, Char.ofNat 108, Char.ofNat 101, Char.ofNat 47, Char.ofNat 103, Char.ofNat 48, Char.ofNat 51, Char.ofNat 50, Char.ofNat 50, Char.ofNat 57, Char.ofNat 47, Char.ofNat 108, Char.ofNat 97, Char.ofNat 119, Char.ofNat 115, Char.ofNat 46, Char.ofNat 70, Char.ofNat 110, Char.ofNat 66, Char.ofNat 97, Char.ofNat 121, Char.ofNat 101, Char.ofNat 114], [Char.ofNat 108, Char.ofNat 111, Char.ofNat 111, Char.ofNat 112, Char.ofNat 46, Char.ofNat 101, Char.ofNat 120, Char.ofNat 97, Char.ofNat 109, Char.ofNat 112, Char.ofNat 108, Char.ofNat 101, Char.ofNat 47, Char.ofNat 103, Char.ofNat 48, Char.ofNat 51, Char.ofNat 50, Char.ofNat 50, Char.ofNat 57, Char.ofNat 47, Char.ofNat 108, Char.ofNat 97, Char.ofNat 119, Char.ofNat 115, Char.ofNat 46, Char.ofNat 70, Char.ofNat 110, Char.ofNat 69, Char.ofNat 120, Char.ofNat 97, Char.ofNat 99, Char.ofNat 116, Char.ofNat 83, Char.ofNat 112, Char.ofNat 105, Char.ofNat 114, Char.ofNat 97, Char.ofNat 108, Char.ofNat 77, Char.ofNat 97, Char.ofNat 116, Char.ofNat 114, Char.ofNat 105, Char.ofNat 120], [Char.ofNat 108, Char.ofNat 111, Char.ofNat 111, Char.ofNat 112, Char.ofNat 46, Char.ofNat 101, Char.ofNat 120, Char.ofNat 97, Char.ofNat 109, Char.ofNat 112, Char.ofNat 108, Char.ofNat 101, Char.ofNat 47, Char.ofNat 103, Char.ofNat 48, Char.ofNat 51, Char.ofNat 50, Char.ofNat 50, Char.ofNat 57, Char.ofNat 47, Char.ofNat 108, Char.ofNat 97, Char.ofNat 119, Char.ofNat 115, Char.ofNat 46, Char.ofNat 70, Char.ofNat 110, Char.ofNat 84, Char.ofNat 105, Char.ofNat 108, Char.ofNat 101, Char.ofNat 115], [Char.ofNat 108, Char.ofNat 111, Char.ofNat 111, Char.ofNat 112, Char.ofNat 46, Char.ofNat 101, Char.ofNat 120, Char.ofNat 97, Char.ofNat 109, Char.ofNat 112, Char.ofNat 108, Char.ofNat 101, Char.ofNat 47, Char.ofNat 103, Char.ofNat 48, Char.ofNat 51, Char.ofNat 50, Char.ofNat 50, Char.ofNat 57, Char.ofNat 47, Char.ofNat 108, Char.ofNat 97, Char.ofNat 119, Char.ofNat 115, Char.ofNat 46, Char.ofNat 70, Char.ofNat 110, Char.ofNat 83, Char.ofNat 112, Char.ofNat 114, Char.ofNat 101, Char.ofNat 97, Char.ofNat 100], [Char.ofNat 108, Char.ofNat 111, Char.ofNat 111, Char.ofNat 112, Char.ofNat 46, Char.ofNat 101, Char.ofNat 120, Char.ofNat 97, Char.ofNat 109, Char.ofNat 112, Char.ofNat 108, Char.ofNat 101, Char.ofNat 47, Char.ofNat 103, Char.ofNat 48, Char.ofNat 51, Char.ofNat 50, Char.ofNat 50, Char.ofNat 57, Char.ofNat 47, Char.ofNat 108, Char.ofNat 97, Char.ofNat 119, Char.ofNat 115, Char.ofNat 46, Char.ofNat 70, Char.ofNat 110, Char.ofNat 69, Char.ofNat 120, Char.ofNat 97, Char.ofNat 99, Char.ofNat 116, Char.ofNat 66, Char.ofNat 97, Char.ofNat 121, Char.ofNat 101, Char.ofNat 114, Char.ofNat 77, Char.ofNat 97, Char.ofNat 116, Char.ofNat 114, Char.ofNat 105, Char.ofNat 120], [Char.ofNat 108, Char.ofNat 111, Char.ofNat 111, Char.ofNat 112, Char.ofNat 46, Char.ofNat 101, Char.ofNat 120, Char.ofNat 97, Char.ofNat 109, Char.ofNat 112, Char.ofNat 108, Char.ofNat 101, Char.ofNat 47, Char.ofNat 103, Char.ofNat 48, Char.ofNat 51, Char.ofNat 50, Char.ofNat 50, Char.ofNat 57, Char.ofNat 47, Char.ofNat 108, Char.ofNat 97, Char.ofNat 119, Char.ofNat 115, Char.ofNat 46, Char.ofNat 70, Char.ofNat 110, Char.ofNat 69, Char.ofNat 120, Char.ofNat 97, Char.ofNat 99, Char.ofNat 116, Char.ofNat 66, Char.ofNat 108, Char.ofNat 117, Char.ofNat 114, Char.ofNat 80, Char.ofNat 105, Char.ofNat 99, Char.ofNat 116, Char.ofNat 117, Char.ofNat 114, Char.ofNat 101], [Char.ofNat 108, Char.ofNat 111, Char.ofNat 111, Char.ofNat 112, Char.ofNat 46, Char.ofNat 101, Char.ofNat 120, Char.ofNat 97, Char.ofNat 109, Char.ofNat 112, Char.ofNat 108, Char.ofNat 101, Char.ofNat 47, Char.ofNat 103, Char.ofNat 48, Char.ofNat 51, Char.ofNat 50, Char.ofNat 50, Char.ofNat 57, Char.ofNat 47, Char.ofNat 108, Char.ofNat 97, Char.ofNat 119, Char.ofNat 115, Char.ofNat 46, Char.ofNat 70, Char.ofNat 110, Char.ofNat 69, Char.ofNat 120, Char.ofNat 97, Char.ofNat 99, Char.ofNat 116, Char.ofNat 84, Char.ofNat 105, Char.ofNat 108, Char.ofNat 101, Char.ofNat 83, Char.ofNat 117, Char.ofNat 109, Char.ofNat 115], [Char.ofNat 108, Char.ofNat 111, Char.ofNat 111, Char.ofNat 112, Char.ofNat 46, Char.ofNat 101, Char.ofNat 120, Char.ofNat 97, Char.ofNat 109, Char.ofNat 112, Char.ofNat 108, Char.ofNat 101, Char.ofNat 47, Char.ofNat 103, Char.ofNat 48, Char.ofNat 51, Char.ofNat 50, Char.ofNat 50, Char.ofNat 57, Char.ofNat 47, Char.ofNat 108, Char.ofNat 97, Char.ofNat 119, Char.ofNat 115, Char.ofNat 46, Char.ofNat 70, Char.ofNat 110, Char.ofNat 68, Char.ofNat 111, Char.ofNat 117, Char.ofNat 98, Char.ofNat 108, Char.ofNat 101, Char.ofNat 100], [Char.ofNat 108, Char.ofNat 111, Char.ofNat 111, Char.ofNat 112, Char.ofNat 46, Char.ofNat 101, Char.ofNat 120, Char.ofNat 97, Char.ofNat 109, Char.ofNat 112, Char.ofNat 108, Char.ofNat 101, Char.ofNat 47, Char.ofNat 103, Char.ofNat 48, Char.ofNat 51, Char.ofNat 50, Char.ofNat 50, Char.ofNat 57, Char.ofNat 47, Char.ofNat 108, Char.ofNat 97, Char.ofNat 119, Char.ofNat 115, Char.ofNat 46, Char.ofNat 70, Char.ofNat 110, Char.ofNat 69, Char.ofNat 120, Char.ofNat 97, Char.ofNat 99, Char.ofNat 116, Char.ofNat 68, Char.ofNat 111, Char.ofNat 117, Char.ofNat 98, Char.ofNat 108, Char.ofNat 101, Char.ofNat 77, Char.ofNat 97, Char.ofNat 116, Char.ofNat 114, Char.ofNat 105, Char.ofNat 120], [Char.ofNat 108, Char.ofNat 111, Char.ofNat 111, Char.ofNat 112, Char.ofNat 46, Char.ofNat 101, Char.ofNat 120, Char.ofNat 97, Char.ofNat 109, Char.ofNat 112, Char.ofNat 108, Char.ofNat 101, Char.ofNat 47, Char.ofNat 103, Char.ofNat 48, Char.ofNat 51, Char.ofNat 50, Char.ofNat 50, Char.ofNat 57, Char.ofNat 47, Char.ofNat 108, Char.ofNat 97, Char.ofNat 119, Char.ofNat 115, Char.ofNat 46, Char.ofNat 70, Char.ofNat 110, Char.ofNat 69, Char.ofNat 120, Char.ofNat 97, Char.ofNat 99, Char.ofNat 116, Char.ofNat 83, Char.ofNat 112, Char.ofNat 114, Char.ofNat 101, Char.ofNat 97, Char.ofNat 100, Char.ofNat 79, Char.ofNat 102], [Char.ofNat 108, Char.ofNat 111, Char.ofNat 111, Char.ofNat 112, Char.ofNat 46, Char.ofNat 101, Char.ofNat 120, Char.ofNat 97, Char.ofNat 109, Char.ofNat 112, Char.ofNat 108, Char.ofNat 101, Char.ofNat 47, Char.ofNat 103, Char.ofNat 48, Char.ofNat 51, Char.ofNat 50, Char.ofNat 50, Char.ofNat 57, Char.ofNat 47, Char.ofNat 108, Char.ofNat 97, Char.ofNat 119, Char.ofNat 115, Char.ofNat 46, Char.ofNat 70, Char.ofNat 110, Char.ofNat 69, Char.ofNat 120, Char.ofNat 97, Char.ofNat 99, Char.ofNat 116, Char.ofNat 83, Char.ofNat 99, Char.ofNat 114, Char.ofNat 101, Char.ofNat 101, Char.ofNat 110, Char.ofNat 76, Char.ofNat 101, Char.ofNat 118, Char.ofNat 101, Char.ofNat 108], [Char.ofNat 108, Char.ofNat 111, Char.ofNat 111, Char.ofNat 112, Char.ofNat 46, Char.ofNat 101, Char.ofNat 120, Char.ofNat 97, Char.ofNat 109, Char.ofNat 112, Char.ofNat 108, Char.ofNat 101, Char.ofNat 47, Char.ofNat 103, Char.ofNat 48, Char.ofNat 51, Char.ofNat 50, Char.ofNat 50, Char.ofNat 57, Char.ofNat 47, Char.ofNat 108, Char.ofNat 97, Char.ofNat 119, Char.ofNat 115, Char.ofNat 46, Char.ofNat 70, Char.ofNat 110, Char.ofNat 83, Char.ofNat 104, Char.ofNat 105, Char.ofNat 102, Char.ofNat 116, Char.ofNat 101, Char.ofNat 100], [Char.ofNat 108, Char.ofNat 111, Char.ofNat 111, Char.ofNat 112, Char.ofNat 46, Char.ofNat 101, Char.ofNat 120, Char.ofNat 97, Char.ofNat 109, Char.ofNat 112, Char.ofNat 108, Char.ofNat 101, Char.ofNat 47, Char.ofNat 103, Char.ofNat 48, Char.ofNat 51, Char.ofNat 50, Char.ofNat 50, Char.ofNat 57, Char.ofNat 47, Char.ofNat 108, Char.ofNat 97, Char.ofNat 119, Char.ofNat 115, Char.ofNat 46, Char.ofNat 70, Char.ofNat 110, Char.ofNat 69, Char.ofNat 120, Char.ofNat 97, Char.ofNat 99, Char.ofNat 116, Char.ofNat 76, Char.ofNat 101, Char.ofNat 118, Char.ofNat 101, Char.ofNat 108, Char.ofNat 115, Char.ofNat 70, Char.ofNat 111, Char.ofNat 114], [Char.ofNat 108, Char.ofNat 111, Char.ofNat 111, Char.ofNat 112, Char.ofNat 46, Char.ofNat 101, Char.ofNat 120, Char.ofNat 97, Char.ofNat 109, Char.ofNat 112, Char.ofNat 108, Char.ofNat 101, Char.ofNat 47, Char.ofNat 103, Char.ofNat 48, Char.ofNat 51, Char.ofNat 50, Char.ofNat 50, Char.ofNat 57, Char.ofNat 47, Char.ofNat 108, Char.ofNat 97, Char.ofNat 119, Char.ofNat 115, Char.ofNat 46, Char.ofNat 70, Char.ofNat 110, Char.ofNat 76, Char.ofNat 101, Char.ofNat 118, Char.ofNat 101, Char.ofNat 108, Char.ofNat 115], [Char.ofNat 108, Char.ofNat 111, Char.ofNat 111, Char.ofNat 112, Char.ofNat 46, Char.ofNat 101, Char.ofNat 120, Char.ofNat 97, Char.ofNat 109, Char.ofNat 112, Char.ofNat 108, Char.ofNat 101, Char.ofNat 47, Char.ofNat 103, Char.ofNat 48, Char.ofNat 51, Char.ofNat 50, Char.ofNat 50, Char.ofNat 57, Char.ofNat 47, Char.ofNat 108, Char.ofNat 97, Char.ofNat 119, Char.ofNat 115, Char.ofNat 46, Char.ofNat 70, Char.ofNat 110, Char.ofNat 78, Char.ofNat 101, Char.ofNat 115, Char.ofNat 116, Char.ofNat 101, Char.ofNat 100], [Char.ofNat 108, Char.ofNat 111, Char.ofNat 111, Char.ofNat 112, Char.ofNat 46, Char.ofNat 101, Char.ofNat 120, Char.ofNat 97, Char.ofNat 109, Char.ofNat 112, Char.ofNat 108, Char.ofNat 101, Char.ofNat 47, Char.ofNat 103, Char.ofNat 48, Char.ofNat 51, Char.ofNat 50, Char.ofNat 50, Char.ofNat 57, Char.ofNat 47, Char.ofNat 108, Char.ofNat 97, Char.ofNat 119, Char.ofNat 115, Char.ofNat 46, Char.ofNat 70, Char.ofNat 110, Char.ofNat 69, Char.ofNat 120, Char.ofNat 97, Char.ofNat 99, Char.ofNat 116, Char.ofNat 83, Char.ofNat 99, Char.ofNat 114, Char.ofNat 101, Char.ofNat 101, Char.ofNat 110, Char.ofNat 80, Char.ofNat 105, Char.ofNat 99, Char.ofNat 116, Char.ofNat 117, Char.ofNat 114, Char.ofNat 101], [Char.ofNat 108, Char.ofNat 111, Char.ofNat 111, Char.ofNat 112, Char.ofNat 46, Char.ofNat 101, Char.ofNat 120, Char.ofNat 97, Char.ofNat 109, Char.ofNat 112, Char.ofNat 108, Char.ofNat 101, Char.ofNat 47, Char.ofNat 103, Char.ofNat 48, Char.ofNat 51, Char.ofNat 50, Char.ofNat 50, Char.ofNat 57, Char.ofNat 47, Char.ofNat 108, Char.ofNat 97, Char.ofNat 119, Char.ofNat 115, Char.ofNat 46, Char.ofNat 70, Char.ofNat 110, Char.ofNat 82, Char.ofNat 101, Char.ofNat 118, Char.ofNat 101, Char.ofNat 114, Char.ofNat 115, Char.ofNat 101, Char.ofNat 100], [Char.ofNat 108, Char.ofNat 111, Char.ofNat 111, Char.ofNat 112, Char.ofNat 46, Char.ofNat 101, Char.ofNat 120, Char.ofNat 97, Char.ofNat 109, Char.ofNat 112, Char.ofNat 108, Char.ofNat 101, Char.ofNat 47, Char.ofNat 103, Char.ofNat 48, Char.ofNat 51, Char.ofNat 50, Char.ofNat 50, Char.ofNat 57, Char.ofNat 47, Char.ofNat 108, Char.ofNat 97, Char.ofNat 119, Char.ofNat 115, Char.ofNat 46, Char.ofNat 70, Char.ofNat 110, Char.ofNat 69, Char.ofNat 120, Char.ofNat 97, Char.ofNat 99, Char.ofNat 116, Char.ofNat 83, Char.ofNat 99, Char.ofNat 114, Char.ofNat 101, Char.ofNat 101, Char.ofNat 110, Char.ofNat 83, Char.ofNat 104, Char.ofNat 105, Char.ofNat 102, Char.ofNat 116, Char.ofNat 101, Char.ofNat 100], [Char.ofNat 108, Char.ofNat 111, Char.ofNat 111, Char.ofNat 112, Char.ofNat 46, Char.ofNat 101, Char.ofNat 120, Char.ofNat 97, Char.ofNat 109, Char.ofNat 112, Char.ofNat 108, Char.ofNat 101, Char.ofNat 47, Char.ofNat 103, Char.ofNat 48, Char.ofNat 51, Char.ofNat 50, Char.ofNat 50, Char.ofNat 57, Char.ofNat 47, Char.ofNat 108, Char.ofNat 97, Char.ofNat 119, Char.ofNat 115, Char.ofNat 46, Char.ofNat 70, Char.ofNat 110, Char.ofNat 83, Char.ofNat 116, Char.ofNat 97, Char.ofNat 99, Char.ofNat 107, Char.ofNat 101, Char.ofNat 100]]
set_option maxRecDepth 100000 in
theorem order_ok : Try.prog.initOrder.toList = order := (congrArg String.toList (show Try.prog.initOrder = String.ofList order by kernel_rfl)).trans String.toList_ofList
theorem words_ok : behindMainWord (wordsSigns Try.prog.initOrder.toList) = [Char.ofNat 99, Char.ofNat 117, Char.ofNat 116] :: words := by
  rw [order_ok]
  kernel_rfl
theorem liftsFinal_ok : Try.prog.liftsFinal = false := by
  unfold Program.liftsFinal Program.headLifts
  rw [words_ok]
  kernel_rfl
theorem make_ok : Try.prog.make = some .cut := make_of Try.prog words words_ok
theorem mayEnter_ok : Try.prog.mayEnter = true := mayEnter_of Try.prog words words_ok (by kernel_rfl) (by kernel_rfl) (by kernel_rfl)
theorem size_ok : Try.prog.funcs.size = 149 := by kernel_rfl
theorem at_tab (g : Nat) : (Try.prog.funcs[g]?).elim none0 (phi Try.prog) = tab.getD g none0 := tab_all Try.prog (phi Try.prog) none0 tab tab_ok g
def fuel : Nat := 444
def tb (g : Nat) : List Nat × Bool × Option String × List Nat × Option String := tab.getD g none0
def T (g : Nat) : List Nat := (tb g).1
theorem leads_ok (g : Nat) : (Try.prog.funcs[g]?).elim [] Try.prog.leadsTo = T g := leads_of Try.prog tb at_tab g
theorem closure_ok (f : Nat) : Try.prog.closure f = clo T fuel [f] [] := closure_eq Try.prog T 149 leads_ok size_ok fuel (of_decide_eq_true (by kernel_rfl)) f
theorem unfollowed_ok (f : Nat) : Try.prog.unfollowed f = unfollowedT T tb fuel f := unfollowed_of Try.prog tb at_tab T fuel closure_ok f
theorem recurses_ok (f : Nat) : Try.prog.recurses f = recursesT T tb fuel f := recurses_of Try.prog tb at_tab T fuel leads_ok closure_ok f
theorem inPlace_ok (f : Nat) : Try.prog.inPlace f = inPlaceT T tb fuel f := inPlace_of Try.prog tb at_tab T fuel closure_ok f
theorem varsNamed_ok (f : Nat) : Try.prog.varsNamed f = varsT Try.prog T tb fuel f := vars_of Try.prog tb at_tab T fuel closure_ok f
end Go.Proofs.Ytdlehfnlibddcaa.K
