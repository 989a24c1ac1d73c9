import Derived.Test.YtndnklicfibkeaaR
import Derived.Test.YtndnklicfibkeaaK
import Derived.Test.YtndnklicfibkeaaFlawsFnExactAddPictures
import Derived.Test.YtndnklicfibkeaaQFnExactAddPictures
namespace Go.Proofs.Ytndnklicfibkeaa.fnExactAddPictures
open Go.ChangeShapes Go.WideShapes Go.ChangeAt Go.RowKit
open Go.ChangeMaps (open_string shut_string)
set_option linter.unusedVariables false
set_option maxRecDepth 100000 in
theorem lifted (os : Os) (started : os.Started) (H : Type) (enc : TypeId × Value → H) :
    ReturnsInHanded {} Try.checked os 5 .any (Rows.fnExactAddPicturesSpec.pre6 enc Try.prog Try.f5 Rows.fnExactAddPicturesRow.domain false) (Rows.fnExactAddPicturesSpec.post enc Try.prog Try.f5 false true false false) := by
  refine returnsInHanded_of_change_sized (C := Try.checked) R.own started (by kernel_rfl) Try.func5
    (ChangeSpec.witness6 (enc := enc) (C := Try.checked) false ⟨#[], #[.agg #[.int .i64 0, .int .i64 0, .slice none 0 0], .agg #[.int .i64 0, .int .i64 0, .slice none 0 0]], []⟩ 8 (by kernel_rfl) (by kernel_rfl) (by kernel_rfl) (by kernel_rfl)) ?_
  intro W base args ds gs before hval0 hW hcnd hsz0 _
  have hsz : (DataW.weightsEach Try.prog (Try.f5.params.toList ++ Rows.fnExactAddPicturesSpec.plain.varTypes Try.prog) (ds ++ gs)).all (· ≤ reachBytes) = true := hsz0
  have hval : ∀ (j : Nat) t v, Try.f5.params[j]? = some t → args[j]? = some v → Value.okWide Try.prog W .any base t v := hval0
  have hW' := hW
  obtain ⟨p, q, hA0, hV, rfl, hfz, hnd⟩ := hW
  have hA : DataW.TrodAll enc Try.prog W 0 (fun _ => true) true Try.f5.params.toList args.toList ds p := hA0
  rw [Try.params5] at hA hval hsz
  obtain ⟨v0, vs0, d0, ds0, p0, q0, hargs, rfl, rfl, h0, r0⟩ := trodAll_cons hA
  obtain ⟨v1, vs1, d1, ds1, p1, q1, rfl, rfl, rfl, h1, r1⟩ := trodAll_cons r0
  obtain ⟨rfl, rfl, rfl⟩ := trodAll_nil r1
  obtain rfl : args = #[v0, v1] := by cases args; simp_all
  obtain ⟨rfl, rfl⟩ := trodVars_none hV
  have k0 := h0
  have lt0 : ∀ x ∈ p0, x.block < W.heap.size := by obtain ⟨m, hm⟩ := k0; exact DataW.trod_lt m _ _ _ hm
  obtain ⟨a0_0, a0_1, A0_2, l0_2, c0_2, rfl, wa0, wb0, hr0, hc0, hm0, hw0⟩ := R.pic_reads Try.underlying39 (by kernel_rfl) (by kernel_rfl) Try.underlying3 Try.underlying3 Try.underlying25 Try.underlying3 (by kernel_rfl) (hval 0 39 v0 rfl rfl) h0
  have k1 := h1
  have lt1 : ∀ x ∈ p1, x.block < W.heap.size := by obtain ⟨m, hm⟩ := k1; exact DataW.trod_lt m _ _ _ hm
  obtain ⟨a1_0, a1_1, A1_2, l1_2, c1_2, rfl, wa1, wb1, hr1, hc1, hm1, hw1⟩ := R.pic_reads Try.underlying39 (by kernel_rfl) (by kernel_rfl) Try.underlying3 Try.underlying3 Try.underlying25 Try.underlying3 (by kernel_rfl) (hval 1 39 v1 rfl rfl) h1
  clear hA0 hval0 hsz0 hsz
  obtain ⟨k, hk⟩ := Q.FnExactAddPictures a0_0 a0_1 l0_2 a1_0 a1_1 l1_2 wa0 wb0 hm0 hw0 wa1 wb1 hm1 hw1
  refine (P.laws_FnExactAddPictures.calls (r := true) (w := W) (hT := ⟨rfl⟩) (hr0_2 := hr0) (hc0_2 := hc0) (hr1_2 := hr1) (hc1_2 := hc1) (h := hk)).mono fun e W' ⟨he, bel⟩ => ?_
  subst he
  exact ⟨_, rfl, _, _, _, [], _, [], hW', trodAll_mk1 (shut_bool Try.underlying4 _), (trodAll_cons_mk (Below.trod R.laidOut (by kernel_rfl) (of_decide_eq_true (by kernel_rfl)) k0 bel lt0) (trodAll_cons_mk (Below.trod R.laidOut (by kernel_rfl) (of_decide_eq_true (by kernel_rfl)) k1 bel lt1) trodAll_mk0)), rfl, bel.frame _, fun h => by cases h⟩
set_option maxRecDepth 100000 in
theorem facts : joinedFacts Try.prog 5 Try.f5 Rows.fnExactAddPicturesSpec Rows.fnExactAddPicturesRow = true := by
  unfold joinedFacts
  repeat' with_reducible apply K.and_true'
  all_goals first | with_reducible exact K.mayEnter_ok | (rw [K.make_ok]; as_aux_lemma => kernel_rfl) | (rw [K.liftsFinal_ok]; as_aux_lemma => kernel_rfl) | (rw [K.inPlace_ok]; as_aux_lemma => kernel_rfl) | (rw [K.unfollowed_ok]; as_aux_lemma => kernel_rfl) | (rw [K.recurses_ok]; as_aux_lemma => kernel_rfl) | (rw [K.varsNamed_ok]; as_aux_lemma => kernel_rfl) | (as_aux_lemma => kernel_rfl)
theorem over : Rows.fnExactAddPicturesRow.holds Try.pinned (OpenSpec.ofChange Rows.fnExactAddPicturesSpec) :=
  OpenClaim.holds_of_wide 5 Try.f5 rfl rfl rfl rfl rfl rfl rfl ⟨rfl, rfl, rfl, rfl, rfl⟩ rfl rfl rfl rfl rfl (by kernel_rfl) Try.func5 facts
    (of_decide_eq_true (by kernel_rfl)) (by unfold Func.isWrapper; first | (rw [if_pos (by decide +kernel)]; kernel_rfl) | (rw [if_neg (by decide +kernel)]; exact ⟨rfl, rfl⟩))
    (fun os started H enc _ => lifted os started H enc)
theorem proved : Rows.FnExactAddPicturesSaid := over
end Go.Proofs.Ytndnklicfibkeaa.fnExactAddPictures
namespace Go.Proofs.Ytndnklicfibkeaa
theorem fnExactAddPictures_holds : Rows.FnExactAddPicturesSaid := fnExactAddPictures.proved
#print axioms fnExactAddPictures_holds
end Go.Proofs.Ytndnklicfibkeaa
