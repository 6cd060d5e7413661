/- Contracts of the functions that FnExactColumnsFor reaches (part 6). Condition: none. -/
import Derived.Test.YtccfejnckmokkaaDColumnsFor5
set_option linter.all false
set_option linter.unusedSimpArgs false
set_option linter.unusedVariables false
namespace Go.Proofs.Ytccfejnckmokkaa.Va
open Go
set_option maxHeartbeats 4000000
set_option maxRecDepth 100000
theorem w_col31 : Den PA f_laws_FnExactColumnsFor [.d (di 3), .d (di 1)] [.any, .any] (.d (db true)) := by
  have e : colN 3 1 = [[1]] := by decide
  have hp : Den PA f_spec_ColumnsFor [.d (di 3), .d (di 1)] [.any, .any] (.tup [.own 1 ([[1]].map ints), .d (di 0)]) := by
    have := d_spec_ColumnsFor_ok 3 1 (by decide) (by decide) (by decide)
    rw [e] at this
    exact this
  have hi := d_impl_ColumnsFor_31
  refine den_go [] l_laws_FnExactColumnsFor ?_
  repeat' (first | simp -implicitDefEqProofs (maxSteps := 1000000) (disch := (first | omega | (simp only [go_sem] <;> omega) | fail)) only [go_sem, ints, bools, mat, c_laws_FnExactColumnsFor] | ((first | apply goIf_b | apply goG_b | apply goTG_b | apply goOG_b) <;> intro h <;> ((try simp only [hnq] at h); (try simp only [h]); (try simp only [hnr] at h)) <;> (try (exfalso; omega))))
  repeat' (first | simp -implicitDefEqProofs (maxSteps := 1000000) (disch := (first | omega | (simp only [go_sem] <;> omega) | fail)) only [go_sem, ints, bools, mat] | ((first | apply goIf_b | apply goG_b | apply goTG_b | apply goOG_b) <;> intro h <;> ((try simp only [hnq] at h); (try simp only [h]); (try simp only [hnr] at h)) <;> (try (exfalso; omega))) | ((first | refine goC_call [.r, .r] (hp) ?_ | refine goOC_call [.r, .r] (hp) ?_); simp -implicitDefEqProofs (maxSteps := 1000000) (disch := (first | omega | (simp only [go_sem] <;> omega) | fail)) only [go_sem, ints, bools, mat]; fail_if_success (with_reducible show chk _ _)) | ((first | refine goC_call [.r, .r] (hi) ?_ | refine goOC_call [.r, .r] (hi) ?_); simp -implicitDefEqProofs (maxSteps := 1000000) (disch := (first | omega | (simp only [go_sem] <;> omega) | fail)) only [go_sem, ints, bools, mat]; fail_if_success (with_reducible show chk _ _)) | ((first | refine goC_call [.o, .r] (d_laws_eqInt64SS_1 [1] (by decide)) ?_ | refine goOC_call [.o, .r] (d_laws_eqInt64SS_1 [1] (by decide)) ?_); simp -implicitDefEqProofs (maxSteps := 1000000) (disch := (first | omega | (simp only [go_sem] <;> omega) | fail)) only [go_sem, ints, bools, mat]; fail_if_success (with_reducible show chk _ _)) | ((first | refine goC_call [.o, .r] (d_laws_markInt64SS_1 [1] (by decide) 1 (by omega) (by omega)) ?_ | refine goOC_call [.o, .r] (d_laws_markInt64SS_1 [1] (by decide) 1 (by omega) (by omega)) ?_); simp -implicitDefEqProofs (maxSteps := 1000000) (disch := (first | omega | (simp only [go_sem] <;> omega) | fail)) only [go_sem, ints, bools, mat]; fail_if_success (with_reducible show chk _ _)) | ((first | refine goC_call [.o, .r] (d_laws_heldInt64SS_1 [1] (by decide) 1 (by omega) (by omega)) ?_ | refine goOC_call [.o, .r] (d_laws_heldInt64SS_1 [1] (by decide) 1 (by omega) (by omega)) ?_); simp -implicitDefEqProofs (maxSteps := 1000000) (disch := (first | omega | (simp only [go_sem] <;> omega) | fail)) only [go_sem, ints, bools, mat]; fail_if_success (with_reducible show chk _ _)))
end Go.Proofs.Ytccfejnckmokkaa.Va
