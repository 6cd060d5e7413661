/- Contracts of the functions that FnExactColumnsFor reaches (part 7). Condition: none. -/
import Derived.Test.YtccfejnckmokkaaDColumnsFor6
set_option linter.all false
set_option linter.unusedSimpArgs false
set_option linter.unusedVariables false
namespace Go.Proofs.Ytccfejnckmokkaa.Va
open Go
set_option maxHeartbeats 4000000
set_option maxRecDepth 100000
theorem w_col32 : Den PA f_laws_FnExactColumnsFor [.d (di 3), .d (di 2)] [.any, .any] (.d (db true)) := by
  have e : colN 3 2 = [[0, 1], [1, 0], [1, 1], [1, 2]] := by decide
  have hp : Den PA f_spec_ColumnsFor [.d (di 3), .d (di 2)] [.any, .any] (.tup [.own 1 ([[0, 1], [1, 0], [1, 1], [1, 2]].map ints), .d (di 0)]) := by
    have := d_spec_ColumnsFor_ok 3 2 (by decide) (by decide) (by decide)
    rw [e] at this
    exact this
  have hi := d_impl_ColumnsFor_32
  refine den_go [] l_laws_FnExactColumnsFor ?_
  repeat' (first | simp -implicitDefEqProofs (maxSteps := 1000000) (disch := (first | omega | (simp only [go_sem] <;> omega) | fail)) only [go_sem, ints, bools, mat, c_laws_FnExactColumnsFor] | ((first | apply goIf_b | apply goG_b | apply goTG_b | apply goOG_b) <;> intro h <;> ((try simp only [hnq] at h); (try simp only [h]); (try simp only [hnr] at h)) <;> (try (exfalso; omega))))
  repeat' (first | simp -implicitDefEqProofs (maxSteps := 1000000) (disch := (first | omega | (simp only [go_sem] <;> omega) | fail)) only [go_sem, ints, bools, mat] | ((first | apply goIf_b | apply goG_b | apply goTG_b | apply goOG_b) <;> intro h <;> ((try simp only [hnq] at h); (try simp only [h]); (try simp only [hnr] at h)) <;> (try (exfalso; omega))) | ((first | refine goC_call [.r, .r] (hp) ?_ | refine goOC_call [.r, .r] (hp) ?_); simp -implicitDefEqProofs (maxSteps := 1000000) (disch := (first | omega | (simp only [go_sem] <;> omega) | fail)) only [go_sem, ints, bools, mat]; fail_if_success (with_reducible show chk _ _)) | ((first | refine goC_call [.r, .r] (hi) ?_ | refine goOC_call [.r, .r] (hi) ?_); simp -implicitDefEqProofs (maxSteps := 1000000) (disch := (first | omega | (simp only [go_sem] <;> omega) | fail)) only [go_sem, ints, bools, mat]; fail_if_success (with_reducible show chk _ _)) | ((first | refine goC_call [.o, .r] (d_laws_eqInt64SS_4 [0, 1] [1, 0] [1, 1] [1, 2] (by decide) (by decide) (by decide) (by decide)) ?_ | refine goOC_call [.o, .r] (d_laws_eqInt64SS_4 [0, 1] [1, 0] [1, 1] [1, 2] (by decide) (by decide) (by decide) (by decide)) ?_); simp -implicitDefEqProofs (maxSteps := 1000000) (disch := (first | omega | (simp only [go_sem] <;> omega) | fail)) only [go_sem, ints, bools, mat]; fail_if_success (with_reducible show chk _ _)) | ((first | refine goC_call [.o, .r] (d_laws_markInt64SS_4 [0, 1] [1, 0] [1, 1] [1, 2] (by decide) (by decide) (by decide) (by decide) 1 (by omega) (by omega)) ?_ | refine goOC_call [.o, .r] (d_laws_markInt64SS_4 [0, 1] [1, 0] [1, 1] [1, 2] (by decide) (by decide) (by decide) (by decide) 1 (by omega) (by omega)) ?_); simp -implicitDefEqProofs (maxSteps := 1000000) (disch := (first | omega | (simp only [go_sem] <;> omega) | fail)) only [go_sem, ints, bools, mat]; fail_if_success (with_reducible show chk _ _)) | ((first | refine goC_call [.o, .r] (d_laws_heldInt64SS_4 [0, 1] [1, 0] [1, 1] [1, 2] (by decide) (by decide) (by decide) (by decide) 1 (by omega) (by omega)) ?_ | refine goOC_call [.o, .r] (d_laws_heldInt64SS_4 [0, 1] [1, 0] [1, 1] [1, 2] (by decide) (by decide) (by decide) (by decide) 1 (by omega) (by omega)) ?_); simp -implicitDefEqProofs (maxSteps := 1000000) (disch := (first | omega | (simp only [go_sem] <;> omega) | fail)) only [go_sem, ints, bools, mat]; fail_if_success (with_reducible show chk _ _)))
theorem d_laws_FnExactColumnsFor (n0 : Int) (hi0 : in64 n0) (n1 : Int) (hi1 : in64 n1) :
    Den PA f_laws_FnExactColumnsFor [.d (di n0), .d (di n1)] [.any, .any] (.d (db true)) := by
  by_cases h : 2 ≤ n0 ∧ n0 ≤ 3 ∧ 1 ≤ n1 ∧ n1 ≤ 3
  · have h0 : n0 = 2 ∨ n0 = 3 := by omega
    have h1 : n1 = 1 ∨ n1 = 2 ∨ n1 = 3 := by omega
    rcases h0 with rfl | rfl <;> rcases h1 with rfl | rfl | rfl
    · exact w_col21
    · exact w_col22
    · exact w_col23
    · exact w_col31
    · exact w_col32
    · exact w_colno 3 3 3 (by omega) (d_impl_ColumnsFor_no 3 3 3 (by omega) d_hammingCode_33) d_spec_ColumnsFor_33
  · exact w_colno n0 n1 2 (by omega) (d_impl_ColumnsFor_no n0 n1 2 (by omega) (d_hammingCode_no n0 n1 h)) (d_spec_ColumnsFor_no n0 n1 h)
end Go.Proofs.Ytccfejnckmokkaa.Va
