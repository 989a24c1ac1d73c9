import Derived.Test.YtbgbbfdmgpcgmaaR
import Derived.Test.YtbgbbfdmgpcgmaaK
import Derived.Test.YtbgbbfdmgpcgmaaFlawsFnExactSteinKernel
import Derived.Test.YtbgbbfdmgpcgmaaQFnExactSteinKernel
namespace Go.Proofs.Ytbgbbfdmgpcgmaa.fnExactSteinKernel
open Go.ChangeShapes Go.WideShapes Go.ChangeAt Go.RowKit
open Go.ChangeMaps (open_string shut_string)
set_option linter.unusedVariables false
set_option maxRecDepth 100000 in
theorem lifted (os : Os) (started : os.Started) (H : Type) (enc : TypeId × Value → H) :
    ReturnsInHanded {} Try.checked os 4 .any (Rows.fnExactSteinKernelSpec.pre6 enc Try.prog Try.f4 Rows.fnExactSteinKernelRow.domain false) (Rows.fnExactSteinKernelSpec.post enc Try.prog Try.f4 false true false false) := by
  refine returnsInHanded_of_change_sized (C := Try.checked) R.own started (by kernel_rfl) Try.func4
    (ChangeSpec.witness6 (enc := enc) (C := Try.checked) false ⟨#[], #[], []⟩ 8 (by kernel_rfl) (by kernel_rfl) (by kernel_rfl) (by kernel_rfl)) ?_
  intro W base args ds gs before hval0 hW hcnd hsz0 _
  have hsz : (DataW.weightsEach Try.prog (Try.f4.params.toList ++ Rows.fnExactSteinKernelSpec.plain.varTypes Try.prog) (ds ++ gs)).all (· ≤ reachBytes) = true := hsz0
  have hval : ∀ (j : Nat) t v, Try.f4.params[j]? = some t → args[j]? = some v → Value.okWide Try.prog W .any base t v := hval0
  have hW' := hW
  obtain ⟨p, q, hA0, hV, rfl, hfz, hnd⟩ := hW
  have hA : DataW.TrodAll enc Try.prog W 0 (fun _ => true) true Try.f4.params.toList args.toList ds p := hA0
  rw [Try.params4] at hA hval hsz
  obtain ⟨rfl, rfl, rfl⟩ := trodAll_none hA
  obtain ⟨rfl, rfl⟩ := trodVars_none hV
  clear hA0 hval0 hsz0 hsz
  obtain ⟨k, hk⟩ := Q.FnExactSteinKernel  
  refine (P.laws_FnExactSteinKernel.calls (r := true) (w := W) (hT := ⟨rfl⟩)  (h := hk)).mono fun e W' ⟨he, bel⟩ => ?_
  subst he
  exact ⟨_, rfl, _, _, _, [], _, [], hW', trodAll_mk1 (shut_bool Try.underlying4 _), trodAll_mk0, rfl, bel.frame _, fun h => by cases h⟩
set_option maxRecDepth 100000 in
theorem facts : joinedFacts Try.prog 4 Try.f4 Rows.fnExactSteinKernelSpec Rows.fnExactSteinKernelRow = true := by
  unfold joinedFacts
  repeat' with_reducible apply K.and_true'
  all_goals first | with_reducible exact K.mayEnter_ok | (rw [K.make_ok]; as_aux_lemma => kernel_rfl) | (rw [K.liftsFinal_ok]; as_aux_lemma => kernel_rfl) | (rw [K.inPlace_ok]; as_aux_lemma => kernel_rfl) | (rw [K.unfollowed_ok]; as_aux_lemma => kernel_rfl) | (rw [K.recurses_ok]; as_aux_lemma => kernel_rfl) | (rw [K.varsNamed_ok]; as_aux_lemma => kernel_rfl) | (as_aux_lemma => kernel_rfl)
theorem over : Rows.fnExactSteinKernelRow.holds Try.pinned (OpenSpec.ofChange Rows.fnExactSteinKernelSpec) :=
  OpenClaim.holds_of_wide 4 Try.f4 rfl rfl rfl rfl rfl rfl rfl ⟨rfl, rfl, rfl, rfl, rfl⟩ rfl rfl rfl rfl rfl (by kernel_rfl) Try.func4 facts
    (of_decide_eq_true (by kernel_rfl)) (by unfold Func.isWrapper; first | (rw [if_pos (by decide +kernel)]; kernel_rfl) | (rw [if_neg (by decide +kernel)]; exact ⟨rfl, rfl⟩))
    (fun os started H enc _ => lifted os started H enc)
theorem proved : Rows.FnExactSteinKernelSaid := over
end Go.Proofs.Ytbgbbfdmgpcgmaa.fnExactSteinKernel
namespace Go.Proofs.Ytbgbbfdmgpcgmaa
theorem fnExactSteinKernel_holds : Rows.FnExactSteinKernelSaid := fnExactSteinKernel.proved
#print axioms fnExactSteinKernel_holds
end Go.Proofs.Ytbgbbfdmgpcgmaa
