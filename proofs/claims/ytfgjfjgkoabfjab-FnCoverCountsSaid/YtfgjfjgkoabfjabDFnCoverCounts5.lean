/- Contracts of the functions that FnCoverCounts reaches (part 5). Condition: none. -/
import Derived.Test.YtfgjfjgkoabfjabDFnCoverCounts4
set_option linter.all false
set_option linter.unusedSimpArgs false
set_option linter.unusedVariables false
namespace Go.Proofs.Ytfgjfjgkoabfjab.Va
open Go
set_option maxHeartbeats 4000000
set_option maxRecDepth 100000
theorem w_cover00 {x0 X1 X2 X3 : D} {r1 w r2 m t e3 : Int} {c1 c2 : List Int} (hbig : Den PA f_laws_big [.d x0] [.any] (.d (db false)))
    (D1 : Den PA f_spec_DrawCoverCounts [.d x0] [.any] (.tup [.d (.agg [X1]), .own 1 (c1.map di), .d (di r1)])) (D2 : Den PA f_spec_DrawTimesCovered [.d x0] [.any] (.tup [.d (.agg [X2]), .own 1 (c2.map di), .d (di w), .d (di r2)]))
    (D3 : Den PA f_spec_DrawGreedyCode [.d x0] [.any] (.tup [.d (.agg [X3]), .d (di m)])) (hc1 : c1.length < 1048577) (hc2 : c2.length < 1048577) (ht : e3 = 0 → 0 ≤ t ∧ t ≤ c2.length)
    (t1 : Den PA f_impl_TimesCovered [.d (.agg [X2]), .d (ints c2), .d (di w), .d (di r2)] [.any, .any, .any, .any] (.tup [.d (di t), .d (di e3)])) (t2 : Den PA f_spec_TimesCovered [.d (.agg [X2]), .d (ints c2), .d (di w), .d (di r2)] [.any, .any, .any, .any] (.tup [.d (di t), .d (di e3)]))
    {e1 : Int} (h1 : e1 ≠ 0) (F1 : CvN X1 c1 r1 e1)
    {e4 : Int} (h4 : e4 ≠ 0) (F3 : GcN X3 m e4) :
    Den PA f_laws_FnCoverCounts [.d x0] [.any] (.d (db true)) := by
  have hL0 := d_laws_likeInts_nil
  refine den_go [] l_laws_FnCoverCounts ?_
  repeat' (first | simp -implicitDefEqProofs (maxSteps := 1000000) (disch := (first | omega | (simp only [go_sem] <;> omega) | fail)) only [go_sem, ints, bools, mat, c_laws_FnCoverCounts] | ((first | apply goIf_b | apply goG_b | apply goTG_b | apply goOG_b) <;> intro h <;> ((try simp only [hnq] at h); (try simp only [h]); (try simp only [hnr] at h)) <;> (try (exfalso; omega))))
  repeat' (first | simp -implicitDefEqProofs (maxSteps := 1000000) (disch := (first | omega | (simp only [go_sem] <;> omega) | fail)) only [go_sem, ints, bools, mat] | ((first | apply goIf_b | apply goG_b | apply goTG_b | apply goOG_b) <;> intro h <;> ((try simp only [hnq] at h); (try simp only [h]); (try simp only [hnr] at h)) <;> (try (exfalso; omega))) | ((first | refine goC_call [.r] (hbig) ?_ | refine goOC_call [.r] (hbig) ?_); simp -implicitDefEqProofs (maxSteps := 1000000) (disch := (first | omega | (simp only [go_sem] <;> omega) | fail)) only [go_sem, ints, bools, mat]; fail_if_success (with_reducible show chk _ _)) | ((first | refine goC_call [.r] (D1) ?_ | refine goOC_call [.r] (D1) ?_); simp -implicitDefEqProofs (maxSteps := 1000000) (disch := (first | omega | (simp only [go_sem] <;> omega) | fail)) only [go_sem, ints, bools, mat]; fail_if_success (with_reducible show chk _ _)) | ((first | refine goC_call [.r] (D2) ?_ | refine goOC_call [.r] (D2) ?_); simp -implicitDefEqProofs (maxSteps := 1000000) (disch := (first | omega | (simp only [go_sem] <;> omega) | fail)) only [go_sem, ints, bools, mat]; fail_if_success (with_reducible show chk _ _)) | ((first | refine goC_call [.r] (D3) ?_ | refine goOC_call [.r] (D3) ?_); simp -implicitDefEqProofs (maxSteps := 1000000) (disch := (first | omega | (simp only [go_sem] <;> omega) | fail)) only [go_sem, ints, bools, mat]; fail_if_success (with_reducible show chk _ _)) | ((first | refine goC_call [.r, .r, .r, .r] (t1) ?_ | refine goOC_call [.r, .r, .r, .r] (t1) ?_); simp -implicitDefEqProofs (maxSteps := 1000000) (disch := (first | omega | (simp only [go_sem] <;> omega) | fail)) only [go_sem, ints, bools, mat]; fail_if_success (with_reducible show chk _ _)) | ((first | refine goC_call [.r, .r, .r, .r] (t2) ?_ | refine goOC_call [.r, .r, .r, .r] (t2) ?_); simp -implicitDefEqProofs (maxSteps := 1000000) (disch := (first | omega | (simp only [go_sem] <;> omega) | fail)) only [go_sem, ints, bools, mat]; fail_if_success (with_reducible show chk _ _)) | ((first | refine goC_call [.r, .r, .r] (F1.c1) ?_ | refine goOC_call [.r, .r, .r] (F1.c1) ?_); simp -implicitDefEqProofs (maxSteps := 1000000) (disch := (first | omega | (simp only [go_sem] <;> omega) | fail)) only [go_sem, ints, bools, mat]; fail_if_success (with_reducible show chk _ _)) | ((first | refine goC_call [.r, .r, .r] (F1.c2) ?_ | refine goOC_call [.r, .r, .r] (F1.c2) ?_); simp -implicitDefEqProofs (maxSteps := 1000000) (disch := (first | omega | (simp only [go_sem] <;> omega) | fail)) only [go_sem, ints, bools, mat]; fail_if_success (with_reducible show chk _ _)) | ((first | refine goC_call [.r, .r, .r] (F1.x1) ?_ | refine goOC_call [.r, .r, .r] (F1.x1) ?_); simp -implicitDefEqProofs (maxSteps := 1000000) (disch := (first | omega | (simp only [go_sem] <;> omega) | fail)) only [go_sem, ints, bools, mat]; fail_if_success (with_reducible show chk _ _)) | ((first | refine goC_call [.r, .r, .r] (F1.x2) ?_ | refine goOC_call [.r, .r, .r] (F1.x2) ?_); simp -implicitDefEqProofs (maxSteps := 1000000) (disch := (first | omega | (simp only [go_sem] <;> omega) | fail)) only [go_sem, ints, bools, mat]; fail_if_success (with_reducible show chk _ _)) | ((first | refine goC_call [.r, .r] (hL0) ?_ | refine goOC_call [.r, .r] (hL0) ?_); simp -implicitDefEqProofs (maxSteps := 1000000) (disch := (first | omega | (simp only [go_sem] <;> omega) | fail)) only [go_sem, ints, bools, mat]; fail_if_success (with_reducible show chk _ _)) | ((first | refine goC_call [.r, .r] (F3.g1) ?_ | refine goOC_call [.r, .r] (F3.g1) ?_); simp -implicitDefEqProofs (maxSteps := 1000000) (disch := (first | omega | (simp only [go_sem] <;> omega) | fail)) only [go_sem, ints, bools, mat]; fail_if_success (with_reducible show chk _ _)) | ((first | refine goC_call [.r, .r] (F3.g2) ?_ | refine goOC_call [.r, .r] (F3.g2) ?_); simp -implicitDefEqProofs (maxSteps := 1000000) (disch := (first | omega | (simp only [go_sem] <;> omega) | fail)) only [go_sem, ints, bools, mat]; fail_if_success (with_reducible show chk _ _)))
theorem d_laws_FnCoverCounts (x0 : D) (l0 : List Int) (hx0 : IsBts x0 l0) (hl0 : l0.length ≤ maxLen) (hi0 : ∀ n, n ∈ l0 → 0 ≤ n ∧ n < 256) :
    Den PA f_laws_FnCoverCounts [.d x0] [.any] (.d (db true)) := by
  have hbig := d_laws_big hx0
  by_cases hb : 4096 < (l0.length : Int)
  · rw [decide_eq_true hb] at hbig
    refine den_go [] l_laws_FnCoverCounts ?_
    repeat' (first | simp -implicitDefEqProofs (maxSteps := 1000000) (disch := (first | omega | (simp only [go_sem] <;> omega) | fail)) only [go_sem, ints, bools, mat, c_laws_FnCoverCounts] | ((first | apply goIf_b | apply goG_b | apply goTG_b | apply goOG_b) <;> intro h <;> ((try simp only [hnq] at h); (try simp only [h]); (try simp only [hnr] at h)) <;> (try (exfalso; omega))))
    first | refine goC_call [.r] (hbig) ?_ | refine goOC_call [.r] (hbig) ?_
    repeat' (first | simp -implicitDefEqProofs (maxSteps := 1000000) (disch := (first | omega | (simp only [go_sem] <;> omega) | fail)) only [go_sem, ints, bools, mat] | ((first | apply goIf_b | apply goG_b | apply goTG_b | apply goOG_b) <;> intro h <;> ((try simp only [hnq] at h); (try simp only [h]); (try simp only [hnr] at h)) <;> (try (exfalso; omega))))
  · rw [decide_eq_false hb] at hbig
    have H : SrcH x0 l0 := ⟨hx0, by omega⟩
    obtain ⟨X1, o1, c1, r1, hX1, hc1, hr1, D1⟩ := ex_coverCounts H
    obtain ⟨X2, o2, c2, w, r2, hX2, hc2, hw, hr2, D2⟩ := ex_timesCovered H
    obtain ⟨X3, o3, m, hX3, hm, D3⟩ := ex_greedyCode H
    obtain ⟨t, e3, ht, t1, t2⟩ := tc_facts w r2 hX2 hc2
    rcases cv_facts r1 hX1 hc1 with ⟨T, n, b, ex, e2, F1⟩ | ⟨e1, h1, F1⟩
    · rcases gc_facts m hX3 with ⟨G, b3, F3⟩ | ⟨e4, h4, F3⟩
      · exact w_cover11 hbig D1 D2 D3 hc1 hc2 ht t1 t2 F1 F3
      · exact w_cover10 hbig D1 D2 D3 hc1 hc2 ht t1 t2 F1 h4 F3
    · rcases gc_facts m hX3 with ⟨G, b3, F3⟩ | ⟨e4, h4, F3⟩
      · exact w_cover01 hbig D1 D2 D3 hc1 hc2 ht t1 t2 h1 F1 F3
      · exact w_cover00 hbig D1 D2 D3 hc1 hc2 ht t1 t2 h1 F1 h4 F3
end Go.Proofs.Ytfgjfjgkoabfjab.Va
