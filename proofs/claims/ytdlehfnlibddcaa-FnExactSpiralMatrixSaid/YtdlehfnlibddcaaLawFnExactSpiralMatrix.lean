import Derived.Test.YtdlehfnlibddcaaR
import Derived.Test.YtdlehfnlibddcaaK
import Derived.Test.YtdlehfnlibddcaaFlawsFnExactSpiralMatrix
import Derived.Test.YtdlehfnlibddcaaQFnExactSpiralMatrix
namespace Go.Proofs.Ytdlehfnlibddcaa.fnExactSpiralMatrix
open Go.ChangeShapes Go.WideShapes Go.ChangeAt Go.RowKit
open Go.ChangeMaps (open_string shut_string)
set_option linter.unusedVariables false
set_option maxRecDepth 100000 in
theorem lifted (os : Os) (started : os.Started) (H : Type) (enc : TypeId × Value → H) :
    ReturnsInHanded {} Try.checked os 5 .any (Rows.fnExactSpiralMatrixSpec.pre6 enc Try.prog Try.f5 Rows.fnExactSpiralMatrixRow.domain false) (Rows.fnExactSpiralMatrixSpec.post enc Try.prog Try.f5 false true false false) := by
  refine returnsInHanded_of_change_sized (C := Try.checked) R.own started (by kernel_rfl) Try.func5
    (ChangeSpec.witness6 (enc := enc) (C := Try.checked) false ⟨#[], #[.int .i64 0], []⟩ 8 (by kernel_rfl) (by kernel_rfl) (by kernel_rfl) (by kernel_rfl)) ?_
  intro W base args ds gs before hval0 hW hcnd hsz0 _
  have hsz : (DataW.weightsEach Try.prog (Try.f5.params.toList ++ Rows.fnExactSpiralMatrixSpec.plain.varTypes Try.prog) (ds ++ gs)).all (· ≤ reachBytes) = true := hsz0
  have hval : ∀ (j : Nat) t v, Try.f5.params[j]? = some t → args[j]? = some v → Value.okWide Try.prog W .any base t v := hval0
  have hW' := hW
  obtain ⟨p, q, hA0, hV, rfl, hfz, hnd⟩ := hW
  have hA : DataW.TrodAll enc Try.prog W 0 (fun _ => true) true Try.f5.params.toList args.toList ds p := hA0
  rw [Try.params5] at hA hval hsz
  obtain ⟨v0, vs0, d0, ds0, p0, q0, hargs, rfl, rfl, h0, r0⟩ := trodAll_cons hA
  obtain ⟨rfl, rfl, rfl⟩ := trodAll_nil r0
  obtain rfl : args = #[v0] := by cases args; simp_all
  obtain ⟨rfl, rfl⟩ := trodVars_none hV
  have k0 := h0
  obtain ⟨a0, rfl, rfl, rfl, w0⟩ := open_int Try.underlying3 (hval 0 3 v0 rfl rfl) h0
  clear hA0 hval0 hsz0 hsz
  obtain ⟨k, hk⟩ := Q.FnExactSpiralMatrix a0 w0
  refine (P.laws_FnExactSpiralMatrix.calls (r := true) (w := W) (hT := ⟨rfl⟩)  (h := hk)).mono fun e W' ⟨he, bel⟩ => ?_
  subst he
  exact ⟨_, rfl, _, _, _, [], _, [], hW', trodAll_mk1 (shut_bool Try.underlying4 _), (trodAll_cons_mk (shut_int Try.underlying3 w0) trodAll_mk0), rfl, bel.frame _, fun h => by cases h⟩
set_option maxRecDepth 100000 in
theorem facts : joinedFacts Try.prog 5 Try.f5 Rows.fnExactSpiralMatrixSpec Rows.fnExactSpiralMatrixRow = true := by
  unfold joinedFacts
  repeat' with_reducible apply K.and_true'
  all_goals first | with_reducible exact K.mayEnter_ok | (rw [K.make_ok]; as_aux_lemma => kernel_rfl) | (rw [K.liftsFinal_ok]; as_aux_lemma => kernel_rfl) | (rw [K.inPlace_ok]; as_aux_lemma => kernel_rfl) | (rw [K.unfollowed_ok]; as_aux_lemma => kernel_rfl) | (rw [K.recurses_ok]; as_aux_lemma => kernel_rfl) | (rw [K.varsNamed_ok]; as_aux_lemma => kernel_rfl) | (as_aux_lemma => kernel_rfl)
theorem over : Rows.fnExactSpiralMatrixRow.holds Try.pinned (OpenSpec.ofChange Rows.fnExactSpiralMatrixSpec) :=
  OpenClaim.holds_of_wide 5 Try.f5 rfl rfl rfl rfl rfl rfl rfl ⟨rfl, rfl, rfl, rfl, rfl⟩ rfl rfl rfl rfl rfl (by kernel_rfl) Try.func5 facts
    (of_decide_eq_true (by kernel_rfl)) (by unfold Func.isWrapper; first | (rw [if_pos (by decide +kernel)]; kernel_rfl) | (rw [if_neg (by decide +kernel)]; exact ⟨rfl, rfl⟩))
    (fun os started H enc _ => lifted os started H enc)
theorem proved : Rows.FnExactSpiralMatrixSaid := over
end Go.Proofs.Ytdlehfnlibddcaa.fnExactSpiralMatrix
namespace Go.Proofs.Ytdlehfnlibddcaa
theorem fnExactSpiralMatrix_holds : Rows.FnExactSpiralMatrixSaid := fnExactSpiralMatrix.proved
#print axioms fnExactSpiralMatrix_holds
end Go.Proofs.Ytdlehfnlibddcaa
