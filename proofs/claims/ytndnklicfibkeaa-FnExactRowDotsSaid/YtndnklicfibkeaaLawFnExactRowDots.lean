import Derived.Test.YtndnklicfibkeaaR
import Derived.Test.YtndnklicfibkeaaK
import Derived.Test.YtndnklicfibkeaaFlawsFnExactRowDots
import Derived.Test.YtndnklicfibkeaaQFnExactRowDots
namespace Go.Proofs.Ytndnklicfibkeaa.fnExactRowDots
open Go.ChangeShapes Go.WideShapes Go.ChangeAt Go.RowKit
open Go.ChangeMaps (open_string shut_string)
set_option linter.unusedVariables false
set_option maxRecDepth 100000 in
theorem lifted (os : Os) (started : os.Started) (H : Type) (enc : TypeId × Value → H) :
    ReturnsInHanded {} Try.checked os 7 .any (Rows.fnExactRowDotsSpec.pre6 enc Try.prog Try.f7 Rows.fnExactRowDotsRow.domain false) (Rows.fnExactRowDotsSpec.post enc Try.prog Try.f7 false true false false) := by
  refine returnsInHanded_of_change_sized (C := Try.checked) R.own started (by kernel_rfl) Try.func7
    (ChangeSpec.witness6 (enc := enc) (C := Try.checked) false ⟨#[], #[.slice none 0 0], []⟩ 8 (by kernel_rfl) (by kernel_rfl) (by kernel_rfl) (by kernel_rfl)) ?_
  intro W base args ds gs before hval0 hW hcnd hsz0 _
  have hsz : (DataW.weightsEach Try.prog (Try.f7.params.toList ++ Rows.fnExactRowDotsSpec.plain.varTypes Try.prog) (ds ++ gs)).all (· ≤ reachBytes) = true := hsz0
  have hval : ∀ (j : Nat) t v, Try.f7.params[j]? = some t → args[j]? = some v → Value.okWide Try.prog W .any base t v := hval0
  have hW' := hW
  obtain ⟨p, q, hA0, hV, rfl, hfz, hnd⟩ := hW
  have hA : DataW.TrodAll enc Try.prog W 0 (fun _ => true) true Try.f7.params.toList args.toList ds p := hA0
  rw [Try.params7] at hA hval hsz
  obtain ⟨v0, vs0, d0, ds0, p0, q0, hargs, rfl, rfl, h0, r0⟩ := trodAll_cons hA
  obtain ⟨rfl, rfl, rfl⟩ := trodAll_nil r0
  obtain rfl : args = #[v0] := by cases args; simp_all
  obtain ⟨rfl, rfl⟩ := trodVars_none hV
  have k0 := h0
  have lt0 : ∀ x ∈ p0, x.block < W.heap.size := by obtain ⟨m, hm⟩ := k0; exact DataW.trod_lt m _ _ _ hm
  obtain ⟨A0, l0, c0, rfl, hr0, hc0, hm0, hw0⟩ := R.slice_reads Try.underlying25 Try.underlying3 (by kernel_rfl) (hval 0 25 v0 rfl rfl) h0
  have y0 : l0.length * 8 ≤ 140737488351232 := Go.Proofs.YtndnklicfibkeaaW.PrintWords.sized_ints hsz (j := 0) (t := 25) rfl rfl Try.underlying25 Try.underlying3 (by kernel_rfl) (by kernel_rfl) k0
  clear hA0 hval0 hsz0 hsz
  obtain ⟨k, hk⟩ := Q.FnExactRowDots l0 hm0 y0 hw0
  refine (P.laws_FnExactRowDots.calls (r := true) (w := W) (hT := ⟨rfl⟩) (hr0 := hr0) (hc0 := hc0) (h := hk)).mono fun e W' ⟨he, bel⟩ => ?_
  subst he
  exact ⟨_, rfl, _, _, _, [], _, [], hW', trodAll_mk1 (shut_bool Try.underlying4 _), (trodAll_cons_mk (Below.trod R.laidOut (by kernel_rfl) (of_decide_eq_true (by kernel_rfl)) k0 bel lt0) trodAll_mk0), rfl, bel.frame _, fun h => by cases h⟩
set_option maxRecDepth 100000 in
theorem facts : joinedFacts Try.prog 7 Try.f7 Rows.fnExactRowDotsSpec Rows.fnExactRowDotsRow = true := by
  unfold joinedFacts
  repeat' with_reducible apply K.and_true'
  all_goals first | with_reducible exact K.mayEnter_ok | (rw [K.make_ok]; as_aux_lemma => kernel_rfl) | (rw [K.liftsFinal_ok]; as_aux_lemma => kernel_rfl) | (rw [K.inPlace_ok]; as_aux_lemma => kernel_rfl) | (rw [K.unfollowed_ok]; as_aux_lemma => kernel_rfl) | (rw [K.recurses_ok]; as_aux_lemma => kernel_rfl) | (rw [K.varsNamed_ok]; as_aux_lemma => kernel_rfl) | (as_aux_lemma => kernel_rfl)
theorem over : Rows.fnExactRowDotsRow.holds Try.pinned (OpenSpec.ofChange Rows.fnExactRowDotsSpec) :=
  OpenClaim.holds_of_wide 7 Try.f7 rfl rfl rfl rfl rfl rfl rfl ⟨rfl, rfl, rfl, rfl, rfl⟩ rfl rfl rfl rfl rfl (by kernel_rfl) Try.func7 facts
    (of_decide_eq_true (by kernel_rfl)) (by unfold Func.isWrapper; first | (rw [if_pos (by decide +kernel)]; kernel_rfl) | (rw [if_neg (by decide +kernel)]; exact ⟨rfl, rfl⟩))
    (fun os started H enc _ => lifted os started H enc)
theorem proved : Rows.FnExactRowDotsSaid := over
end Go.Proofs.Ytndnklicfibkeaa.fnExactRowDots
namespace Go.Proofs.Ytndnklicfibkeaa
theorem fnExactRowDots_holds : Rows.FnExactRowDotsSaid := fnExactRowDots.proved
#print axioms fnExactRowDots_holds
end Go.Proofs.Ytndnklicfibkeaa
