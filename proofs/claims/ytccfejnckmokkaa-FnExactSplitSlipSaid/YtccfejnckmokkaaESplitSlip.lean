/- The statement FnExactSplitSlip: for every input the law returns true. Condition: none. -/
import Derived.Test.YtccfejnckmokkaaDSplitSlip
import Derived.Test.YtccfejnckmokkaaRows
set_option linter.all false
set_option linter.unusedSimpArgs false
set_option linter.unusedVariables false
namespace Go.Proofs.Ytccfejnckmokkaa.Va
open Go Go.RowKit Go.ChangeShapes Go.WideShapes Go.ChangeAt Go.Proofs Go.Proofs.Ytccfejnckmokkaa

theorem own : ownKnob Try.prog.godebug = none := by kernel_rfl
theorem laidOut : laidOutB Try.prog = true := by kernel_rfl

set_option maxRecDepth 100000 in
theorem lifted (os : Os) (started : os.Started) (H : Type) (enc : TypeId × Value → H) :
    ReturnsInHanded {} Try.checked os 4 .any (Rows.fnExactSplitSlipSpec.pre6 enc Try.prog Try.f4 Rows.fnExactSplitSlipRow.domain false) (Rows.fnExactSplitSlipSpec.post enc Try.prog Try.f4 false true false false) := by
  refine returnsInHanded_of_change (C := Try.checked) own started (by kernel_rfl) Try.func4
    (ChangeSpec.witness6 (enc := enc) (C := Try.checked) false ⟨#[], #[.agg #[.slice none 0 0], .slice none 0 0, .int .i64 0], []⟩ 8 (by kernel_rfl) (by kernel_rfl) (by kernel_rfl) (by kernel_rfl)) ?_
  intro W base args ds gs before hval0 hW hcnd _
  have hval : ∀ (j : Nat) t v, Try.f4.params[j]? = some t → args[j]? = some v → Value.okWide Try.prog W .any base t v := hval0
  have hW' := hW
  obtain ⟨p, q, hA0, hV, rfl, hfz, hnd⟩ := hW
  have hA : DataW.TrodAll enc Try.prog W 0 (fun _ => true) true Try.f4.params.toList args.toList ds p := hA0
  rw [Try.params4] at hA hval
  obtain ⟨v0, v1, v2, d0, d1, d2, p0, p1, p2, rfl, rfl, rfl, h0, h1, h2⟩ := trodAll_three hA
  obtain ⟨x0, l0, hx0, hrd0, hl0, hi0⟩ := arg_space Try.underlying30 rfl (by kernel_rfl) (by kernel_rfl) (by kernel_rfl) Try.underlying28 Try.underlying2 (by kernel_rfl) (hval 0 30 v0 rfl rfl) h0
  obtain ⟨x1, l1, hx1, hrd1, hl1, hi1⟩ := arg_list Try.underlying28 Try.underlying2 (by kernel_rfl) (hval 1 28 v1 rfl rfl) h1
  obtain ⟨n2, hrd2, hi2⟩ := arg_int Try.underlying2 (hval 2 2 v2 rfl rfl) h2
  have hr : ∀ t, t ∈ (Try.f4.params).toList → (Try.prog).readableRec t = true ∧ t < (Try.prog).types.size := by rw [Try.params4]; exact (List.forall_mem_cons.2 ⟨⟨by kernel_rfl, of_decide_eq_true (by kernel_rfl)⟩, (List.forall_mem_cons.2 ⟨⟨by kernel_rfl, of_decide_eq_true (by kernel_rfl)⟩, (List.forall_mem_cons.2 ⟨⟨by kernel_rfl, of_decide_eq_true (by kernel_rfl)⟩, (fun _ h => by cases h)⟩)⟩)⟩)
  refine law_calls (args := [.agg [x0], x1, di n2]) (us := [v0, v1, v2]) (d_laws_FnExactSplitSlip x0 l0 hx0 hl0 hi0 x1 l1 hx1 hl1 hi1 n2 hi2) (.cons (b1 := []) (b2 := []) (.d hrd0) (.cons (b1 := []) (b2 := []) (.d hrd1) (.cons (b1 := []) (b2 := []) (.d hrd2) .nil))) (fun W' hk => ?_)
  exact law_post laidOut hr rfl (by kernel_rfl : Try.f4.resultTypes = #[4]) Try.underlying4 hW' hk rfl

set_option maxHeartbeats 4000000 in
set_option maxRecDepth 100000 in
theorem closed : joinedFacts Try.prog 4 Try.f4 Rows.fnExactSplitSlipSpec Rows.fnExactSplitSlipRow = true := by
  unfold joinedFacts
  simp only [Bool.and_eq_true]
  repeat' (with_reducible refine And.intro ?_ ?_)
  all_goals (as_aux_lemma => kernel_rfl)

theorem fnExactSplitSlip_holds : Rows.FnExactSplitSlipSaid :=
  OpenClaim.holds_of_wide 4 Try.f4 rfl rfl rfl rfl rfl rfl rfl ⟨rfl, rfl, rfl, rfl, rfl⟩ rfl rfl rfl rfl rfl (by kernel_rfl) Try.func4 closed
    (of_decide_eq_true (by kernel_rfl)) (by unfold Func.isWrapper; first | (rw [if_pos (by decide +kernel)]; kernel_rfl) | (rw [if_neg (by decide +kernel)]; exact ⟨rfl, rfl⟩))
    (fun os started H enc _ => lifted os started H enc)
end Go.Proofs.Ytccfejnckmokkaa.Va
