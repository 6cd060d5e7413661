/- Contracts of the functions that FnExactColumnsFor reaches (part 2). Condition: none. -/
import Derived.Test.YtccfejnckmokkaaDColumnsFor1
set_option linter.all false
set_option linter.unusedSimpArgs false
set_option linter.unusedVariables false
namespace Go.Proofs.Ytccfejnckmokkaa.Va
open Go
set_option maxHeartbeats 4000000
set_option maxRecDepth 100000
theorem w_colno (q m e : Int) (he : e ≠ 0) (hi : Den PA f_impl_ColumnsFor [.d (di q), .d (di m)] [.any, .any] (.tup [.d nil, .d (di e)])) (hp : Den PA f_spec_ColumnsFor [.d (di q), .d (di m)] [.any, .any] (.tup [.d nil, .d (di e)])) :
    Den PA f_laws_FnExactColumnsFor [.d (di q), .d (di m)] [.any, .any] (.d (db true)) := by
  refine den_go [] l_laws_FnExactColumnsFor ?_
  repeat' (first | simp -implicitDefEqProofs (maxSteps := 1000000) (disch := (first | omega | (simp only [go_sem] <;> omega) | fail)) only [go_sem, ints, bools, mat, c_laws_FnExactColumnsFor] | ((first | apply goIf_b | apply goG_b | apply goTG_b | apply goOG_b) <;> intro h <;> ((try simp only [hnq] at h); (try simp only [h]); (try simp only [hnr] at h)) <;> (try (exfalso; omega))))
  repeat' (first | simp -implicitDefEqProofs (maxSteps := 1000000) (disch := (first | omega | (simp only [go_sem] <;> omega) | fail)) only [go_sem, ints, bools, mat] | ((first | apply goIf_b | apply goG_b | apply goTG_b | apply goOG_b) <;> intro h <;> ((try simp only [hnq] at h); (try simp only [h]); (try simp only [hnr] at h)) <;> (try (exfalso; omega))) | ((first | refine goC_call [.r, .r] (hp) ?_ | refine goOC_call [.r, .r] (hp) ?_); simp -implicitDefEqProofs (maxSteps := 1000000) (disch := (first | omega | (simp only [go_sem] <;> omega) | fail)) only [go_sem, ints, bools, mat]; fail_if_success (with_reducible show chk _ _)) | ((first | refine goC_call [.r, .r] (hi) ?_ | refine goOC_call [.r, .r] (hi) ?_); simp -implicitDefEqProofs (maxSteps := 1000000) (disch := (first | omega | (simp only [go_sem] <;> omega) | fail)) only [go_sem, ints, bools, mat]; fail_if_success (with_reducible show chk _ _)) | ((first | refine goC_call [.r, .r] (d_nil_eqInt64SS) ?_ | refine goOC_call [.r, .r] (d_nil_eqInt64SS) ?_); simp -implicitDefEqProofs (maxSteps := 1000000) (disch := (first | omega | (simp only [go_sem] <;> omega) | fail)) only [go_sem, ints, bools, mat]; fail_if_success (with_reducible show chk _ _)) | ((first | refine goC_call [.r, .r] (d_nil_markInt64SS 1) ?_ | refine goOC_call [.r, .r] (d_nil_markInt64SS 1) ?_); simp -implicitDefEqProofs (maxSteps := 1000000) (disch := (first | omega | (simp only [go_sem] <;> omega) | fail)) only [go_sem, ints, bools, mat]; fail_if_success (with_reducible show chk _ _)) | ((first | refine goC_call [.r, .r] (d_nil_heldInt64SS 1) ?_ | refine goOC_call [.r, .r] (d_nil_heldInt64SS 1) ?_); simp -implicitDefEqProofs (maxSteps := 1000000) (disch := (first | omega | (simp only [go_sem] <;> omega) | fail)) only [go_sem, ints, bools, mat]; fail_if_success (with_reducible show chk _ _)))
end Go.Proofs.Ytccfejnckmokkaa.Va
