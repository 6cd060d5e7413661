/- The statement FnExactColumnsFor: for every input the law returns true. Condition: none. -/
import Derived.Test.YtccfejnckmokkaaDColumnsFor7
import Derived.Test.YtccfejnckmokkaaRows
set_option linter.all false
set_option linter.unusedSimpArgs false
set_option linter.unusedVariables false
namespace Go.Proofs.Ytccfejnckmokkaa.Va
open Go Go.RowKit Go.ChangeShapes Go.WideShapes Go.ChangeAt Go.Proofs Go.Proofs.Ytccfejnckmokkaa

theorem own : ownKnob Try.prog.godebug = none := by kernel_rfl
theorem laidOut : laidOutB Try.prog = true := by kernel_rfl

set_option maxRecDepth 100000 in
theorem lifted (os : Os) (started : os.Started) (H : Type) (enc : TypeId × Value → H) :
    ReturnsInHanded {} Try.checked os 3 .any (Rows.fnExactColumnsForSpec.pre6 enc Try.prog Try.f3 Rows.fnExactColumnsForRow.domain false) (Rows.fnExactColumnsForSpec.post enc Try.prog Try.f3 false true false false) := by
  refine returnsInHanded_of_change (C := Try.checked) own started (by kernel_rfl) Try.func3
    (ChangeSpec.witness6 (enc := enc) (C := Try.checked) false ⟨#[], #[.int .i64 0, .int .i64 0], []⟩ 8 (by kernel_rfl) (by kernel_rfl) (by kernel_rfl) (by kernel_rfl)) ?_
  intro W base args ds gs before hval0 hW hcnd _
  have hval : ∀ (j : Nat) t v, Try.f3.params[j]? = some t → args[j]? = some v → Value.okWide Try.prog W .any base t v := hval0
  have hW' := hW
  obtain ⟨p, q, hA0, hV, rfl, hfz, hnd⟩ := hW
  have hA : DataW.TrodAll enc Try.prog W 0 (fun _ => true) true Try.f3.params.toList args.toList ds p := hA0
  rw [Try.params3] at hA hval
  obtain ⟨v0, v1, d0, d1, p0, p1, rfl, rfl, rfl, h0, h1⟩ := trodAll_two hA
  obtain ⟨n0, hrd0, hi0⟩ := arg_int Try.underlying2 (hval 0 2 v0 rfl rfl) h0
  obtain ⟨n1, hrd1, hi1⟩ := arg_int Try.underlying2 (hval 1 2 v1 rfl rfl) h1
  have hr : ∀ t, t ∈ (Try.f3.params).toList → (Try.prog).readableRec t = true ∧ t < (Try.prog).types.size := by rw [Try.params3]; exact (List.forall_mem_cons.2 ⟨⟨by kernel_rfl, of_decide_eq_true (by kernel_rfl)⟩, (List.forall_mem_cons.2 ⟨⟨by kernel_rfl, of_decide_eq_true (by kernel_rfl)⟩, (fun _ h => by cases h)⟩)⟩)
  refine law_calls (args := [di n0, di n1]) (us := [v0, v1]) (d_laws_FnExactColumnsFor n0 hi0 n1 hi1) (.cons (b1 := []) (b2 := []) (.d hrd0) (.cons (b1 := []) (b2 := []) (.d hrd1) .nil)) (fun W' hk => ?_)
  exact law_post laidOut hr rfl (by kernel_rfl : Try.f3.resultTypes = #[4]) Try.underlying4 hW' hk rfl

set_option maxHeartbeats 4000000 in
set_option maxRecDepth 100000 in
theorem closed : joinedFacts Try.prog 3 Try.f3 Rows.fnExactColumnsForSpec Rows.fnExactColumnsForRow = true := by
  unfold joinedFacts
  simp only [Bool.and_eq_true]
  repeat' (with_reducible refine And.intro ?_ ?_)
  all_goals (as_aux_lemma => kernel_rfl)

theorem fnExactColumnsFor_holds : Rows.FnExactColumnsForSaid :=
  OpenClaim.holds_of_wide 3 Try.f3 rfl rfl rfl rfl rfl rfl rfl ⟨rfl, rfl, rfl, rfl, rfl⟩ rfl rfl rfl rfl rfl (by kernel_rfl) Try.func3 closed
    (of_decide_eq_true (by kernel_rfl)) (by unfold Func.isWrapper; first | (rw [if_pos (by decide +kernel)]; kernel_rfl) | (rw [if_neg (by decide +kernel)]; exact ⟨rfl, rfl⟩))
    (fun os started H enc _ => lifted os started H enc)
end Go.Proofs.Ytccfejnckmokkaa.Va
