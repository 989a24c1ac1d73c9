import Derived.Test.YtdlehfnlibddcaaR
import Derived.Test.YtdlehfnlibddcaaK
import Derived.Test.YtdlehfnlibddcaaFlawsFnExactBlurPicture
import Derived.Test.YtdlehfnlibddcaaQFnExactBlurPicture
namespace Go.Proofs.Ytdlehfnlibddcaa.fnExactBlurPicture
open Go.ChangeShapes Go.WideShapes Go.ChangeAt Go.RowKit
open Go.ChangeMaps (open_string shut_string)
set_option linter.unusedVariables false
set_option maxRecDepth 100000 in
theorem lifted (os : Os) (started : os.Started) (H : Type) (enc : TypeId × Value → H) :
    ReturnsInHanded {} Try.checked os 9 .any (Rows.fnExactBlurPictureSpec.pre6 enc Try.prog Try.f9 Rows.fnExactBlurPictureRow.domain false) (Rows.fnExactBlurPictureSpec.post enc Try.prog Try.f9 false true false false) := by
  refine returnsInHanded_of_change_sized (C := Try.checked) R.own started (by kernel_rfl) Try.func9
    (ChangeSpec.witness6 (enc := enc) (C := Try.checked) false ⟨#[], #[.agg #[.int .i64 0, .int .i64 0, .slice none 0 0], .int .i64 0, .int .i64 0], []⟩ 8 (by kernel_rfl) (by kernel_rfl) (by kernel_rfl) (by kernel_rfl)) ?_
  intro W base args ds gs before hval0 hW hcnd hsz0 _
  have hsz : (DataW.weightsEach Try.prog (Try.f9.params.toList ++ Rows.fnExactBlurPictureSpec.plain.varTypes Try.prog) (ds ++ gs)).all (· ≤ reachBytes) = true := hsz0
  have hval : ∀ (j : Nat) t v, Try.f9.params[j]? = some t → args[j]? = some v → Value.okWide Try.prog W .any base t v := hval0
  have hW' := hW
  obtain ⟨p, q, hA0, hV, rfl, hfz, hnd⟩ := hW
  have hA : DataW.TrodAll enc Try.prog W 0 (fun _ => true) true Try.f9.params.toList args.toList ds p := hA0
  rw [Try.params9] at hA hval hsz
  obtain ⟨v0, vs0, d0, ds0, p0, q0, hargs, rfl, rfl, h0, r0⟩ := trodAll_cons hA
  obtain ⟨v1, vs1, d1, ds1, p1, q1, rfl, rfl, rfl, h1, r1⟩ := trodAll_cons r0
  obtain ⟨v2, vs2, d2, ds2, p2, q2, rfl, rfl, rfl, h2, r2⟩ := trodAll_cons r1
  obtain ⟨rfl, rfl, rfl⟩ := trodAll_nil r2
  obtain rfl : args = #[v0, v1, v2] := by cases args; simp_all
  obtain ⟨rfl, rfl⟩ := trodVars_none hV
  have k0 := h0
  have lt0 : ∀ x ∈ p0, x.block < W.heap.size := by obtain ⟨m, hm⟩ := k0; exact DataW.trod_lt m _ _ _ hm
  obtain ⟨a0_0, a0_1, A0_2, l0_2, c0_2, rfl, wa0, wb0, hr0, hc0, hm0, hw0⟩ := R.pic_reads Try.underlying48 (by kernel_rfl) (by kernel_rfl) Try.underlying3 Try.underlying3 Try.underlying24 Try.underlying3 (by kernel_rfl) (hval 0 48 v0 rfl rfl) h0
  have k1 := h1
  obtain ⟨a1, rfl, rfl, rfl, w1⟩ := open_int Try.underlying3 (hval 1 3 v1 rfl rfl) h1
  have k2 := h2
  obtain ⟨a2, rfl, rfl, rfl, w2⟩ := open_int Try.underlying3 (hval 2 3 v2 rfl rfl) h2
  clear hA0 hval0 hsz0 hsz
  obtain ⟨k, hk⟩ := Q.FnExactBlurPicture a0_0 a0_1 l0_2 a1 a2 wa0 wb0 hm0 hw0 w1 w2
  refine (P.laws_FnExactBlurPicture.calls (r := true) (w := W) (hT := ⟨rfl⟩) (hr0_2 := hr0) (hc0_2 := hc0) (h := hk)).mono fun e W' ⟨he, bel⟩ => ?_
  subst he
  exact ⟨_, rfl, _, _, _, [], _, [], hW', trodAll_mk1 (shut_bool Try.underlying4 _), (trodAll_cons_mk (Below.trod R.laidOut (by kernel_rfl) (of_decide_eq_true (by kernel_rfl)) k0 bel lt0) (trodAll_cons_mk (shut_int Try.underlying3 w1) (trodAll_cons_mk (shut_int Try.underlying3 w2) trodAll_mk0))), rfl, bel.frame _, fun h => by cases h⟩
set_option maxRecDepth 100000 in
theorem facts : joinedFacts Try.prog 9 Try.f9 Rows.fnExactBlurPictureSpec Rows.fnExactBlurPictureRow = true := by
  unfold joinedFacts
  repeat' with_reducible apply K.and_true'
  all_goals first | with_reducible exact K.mayEnter_ok | (rw [K.make_ok]; as_aux_lemma => kernel_rfl) | (rw [K.liftsFinal_ok]; as_aux_lemma => kernel_rfl) | (rw [K.inPlace_ok]; as_aux_lemma => kernel_rfl) | (rw [K.unfollowed_ok]; as_aux_lemma => kernel_rfl) | (rw [K.recurses_ok]; as_aux_lemma => kernel_rfl) | (rw [K.varsNamed_ok]; as_aux_lemma => kernel_rfl) | (as_aux_lemma => kernel_rfl)
theorem over : Rows.fnExactBlurPictureRow.holds Try.pinned (OpenSpec.ofChange Rows.fnExactBlurPictureSpec) :=
  OpenClaim.holds_of_wide 9 Try.f9 rfl rfl rfl rfl rfl rfl rfl ⟨rfl, rfl, rfl, rfl, rfl⟩ rfl rfl rfl rfl rfl (by kernel_rfl) Try.func9 facts
    (of_decide_eq_true (by kernel_rfl)) (by unfold Func.isWrapper; first | (rw [if_pos (by decide +kernel)]; kernel_rfl) | (rw [if_neg (by decide +kernel)]; exact ⟨rfl, rfl⟩))
    (fun os started H enc _ => lifted os started H enc)
theorem proved : Rows.FnExactBlurPictureSaid := over
end Go.Proofs.Ytdlehfnlibddcaa.fnExactBlurPicture
namespace Go.Proofs.Ytdlehfnlibddcaa
theorem fnExactBlurPicture_holds : Rows.FnExactBlurPictureSaid := fnExactBlurPicture.proved
#print axioms fnExactBlurPicture_holds
end Go.Proofs.Ytdlehfnlibddcaa
