/- Contracts of the functions that FnExactDualCode reaches (part 1). Condition: none. -/
import Derived.Test.YtlbcdojembakiabDDualCode0
set_option linter.all false
set_option linter.unusedSimpArgs false
set_option linter.unusedVariables false
namespace Go.Proofs.Ytlbcdojembakiab.Va
open Go
set_option maxHeartbeats 4000000
set_option maxRecDepth 100000
theorem d_slices_IndexFunc_bytes (ds : List Int) (p : Int → Bool) (g : List D → Value → Prop) (hg : ∀ x, g [dy x] (.bool (p x))) (hl : ds.length < 1048577) :
    Den PA f_slices_IndexFunc___byte_byte_ [.d (.lst 1 (ds.map dy)), .pfn g] [.any, .any] (.d (di (match ds.findIdx? p with | some j => j | none => -1))) := by
  refine den_go [] l_slices_IndexFunc___byte_byte_ ?_
  repeat' (first | simp -implicitDefEqProofs (maxSteps := 1000000) (disch := (first | omega | (simp only [go_sem] <;> omega) | fail)) only [go_sem, ints, bools, mat, reduceIte, Nat.reduceEqDiff, Nat.reduceAdd, Nat.reduceBEq, Nat.reduceMul, Nat.reduceLeDiff, Nat.reduceLT, Nat.reduceMod, Nat.reduceDiv, Nat.reduceSub, reduceCtorEq, c_slices_IndexFunc___byte_byte_] | ((first | refine goIf_b (fun h => ?_) (fun h => ?_) | refine goG_b (fun h => ?_) (fun h => ?_) | refine goTG_b (fun h => ?_) (fun h => ?_) | refine goOG_b (fun h => ?_) (fun h => ?_)) <;> ((try simp only [Bool.not_eq_true', Bool.not_eq_false'] at h); (try simp only [h]); (try simp only [decide_eq_true_eq, decide_eq_false_iff_not, bne_iff_ne, bne_eq_false_iff_eq, beq_iff_eq, beq_eq_false_iff_ne, ne_eq, Int.not_lt, Int.not_le, Bool.and_eq_true, Bool.and_eq_false_iff, Bool.or_eq_true, Bool.or_eq_false_iff] at h))))
  refine go_loop (fun (j : Nat) => ⟨[(0, .d (.lst 1 (ds.map dy))), (1, .pfn g), (7, .d (di ds.length)), (8, .d (di j))], []⟩) (fun j => j ≤ ds.length ∧ ∀ i, i < j → p (ds.getD i 0) = false) (fun j => ds.length - j) 0 ?_ ?_ ?_
  · (simp -implicitDefEqProofs (maxSteps := 1000000) (disch := (first | omega | (simp only [go_sem] <;> omega) | fail)) only [go_sem, ints, bools, mat, reduceIte, Nat.reduceEqDiff, Nat.reduceAdd, Nat.reduceBEq, Nat.reduceMul, Nat.reduceLeDiff, Nat.reduceLT, Nat.reduceMod, Nat.reduceDiv, Nat.reduceSub, reduceCtorEq] <;> rfl)
  · simp
  · rintro j ⟨hj, hi⟩ J hJ
    repeat' (first | simp -implicitDefEqProofs (maxSteps := 1000000) (disch := (first | omega | (simp only [go_sem] <;> omega) | fail)) only [go_sem, ints, bools, mat, reduceIte, Nat.reduceEqDiff, Nat.reduceAdd, Nat.reduceBEq, Nat.reduceMul, Nat.reduceLeDiff, Nat.reduceLT, Nat.reduceMod, Nat.reduceDiv, Nat.reduceSub, reduceCtorEq] | ((first | refine goIf_b (fun h => ?_) (fun h => ?_) | refine goG_b (fun h => ?_) (fun h => ?_) | refine goTG_b (fun h => ?_) (fun h => ?_) | refine goOG_b (fun h => ?_) (fun h => ?_)) <;> ((try simp only [Bool.not_eq_true', Bool.not_eq_false'] at h); (try simp only [h]); (try simp only [decide_eq_true_eq, decide_eq_false_iff_not, bne_iff_ne, bne_eq_false_iff_eq, beq_iff_eq, beq_eq_false_iff_ne, ne_eq, Int.not_lt, Int.not_le, Bool.and_eq_true, Bool.and_eq_false_iff, Bool.or_eq_true, Bool.or_eq_false_iff] at h))))
    · refine goV_pfn [dy (ds.getD j 0)] (.bool (p (ds.getD j 0))) (by simp -implicitDefEqProofs (maxSteps := 1000000) (disch := (first | omega | (simp only [go_sem] <;> omega) | fail)) only [go_sem, ints, bools, mat, reduceIte, Nat.reduceEqDiff, Nat.reduceAdd, Nat.reduceBEq, Nat.reduceMul, Nat.reduceLeDiff, Nat.reduceLT, Nat.reduceMod, Nat.reduceDiv, Nat.reduceSub, reduceCtorEq]) rfl (hg _) ?_
      repeat' (first | simp -implicitDefEqProofs (maxSteps := 1000000) (disch := (first | omega | (simp only [go_sem] <;> omega) | fail)) only [go_sem, ints, bools, mat, reduceIte, Nat.reduceEqDiff, Nat.reduceAdd, Nat.reduceBEq, Nat.reduceMul, Nat.reduceLeDiff, Nat.reduceLT, Nat.reduceMod, Nat.reduceDiv, Nat.reduceSub, reduceCtorEq] | ((first | refine goIf_b (fun h => ?_) (fun h => ?_) | refine goG_b (fun h => ?_) (fun h => ?_) | refine goTG_b (fun h => ?_) (fun h => ?_) | refine goOG_b (fun h => ?_) (fun h => ?_)) <;> ((try simp only [Bool.not_eq_true', Bool.not_eq_false'] at h); (try simp only [h]); (try simp only [decide_eq_true_eq, decide_eq_false_iff_not, bne_iff_ne, bne_eq_false_iff_eq, beq_iff_eq, beq_eq_false_iff_ne, ne_eq, Int.not_lt, Int.not_le, Bool.and_eq_true, Bool.and_eq_false_iff, Bool.or_eq_true, Bool.or_eq_false_iff] at h))))
      · have e : ds.findIdx? p = some j := by
          rw [List.findIdx?_eq_some_iff_getElem]
          refine ⟨by omega, by simpa [show j < ds.length by omega] using h, fun i hi' => ?_⟩
          have := hi i hi'
          simpa [show i < ds.length by omega] using this
        rw [e]
      · refine hJ (j + 1) ⟨by omega, all_ext hi h⟩ (by omega) _ (by (simp -implicitDefEqProofs (maxSteps := 1000000) (disch := (first | omega | (simp only [go_sem] <;> omega) | fail)) only [go_sem, ints, bools, mat, reduceIte, Nat.reduceEqDiff, Nat.reduceAdd, Nat.reduceBEq, Nat.reduceMul, Nat.reduceLeDiff, Nat.reduceLT, Nat.reduceMod, Nat.reduceDiv, Nat.reduceSub, reduceCtorEq] <;> rfl))
    · have e : ds.findIdx? p = none := by
        rw [List.findIdx?_eq_none_iff]
        intro x hx
        obtain ⟨i, hi', rfl⟩ := List.mem_iff_getElem.1 hx
        have := hi i (by omega)
        simpa [hi'] using this
      rw [e]
theorem d_impl_firstDigit (a : List Int) : Den PA f_impl_firstDigit [.d (dig a)] [.any] (.d (di (fdI (pad8 a)))) := by
  have h8 := pad8_len a
  refine den_go [] l_impl_firstDigit ?_
  repeat' (first | simp -implicitDefEqProofs (maxSteps := 1000000) (disch := (first | omega | (simp only [go_sem] <;> omega) | fail)) only [go_sem, ints, bools, mat, reduceIte, Nat.reduceEqDiff, Nat.reduceAdd, Nat.reduceBEq, Nat.reduceMul, Nat.reduceLeDiff, Nat.reduceLT, Nat.reduceMod, Nat.reduceDiv, Nat.reduceSub, reduceCtorEq, c_impl_firstDigit] | ((first | refine goIf_b (fun h => ?_) (fun h => ?_) | refine goG_b (fun h => ?_) (fun h => ?_) | refine goTG_b (fun h => ?_) (fun h => ?_) | refine goOG_b (fun h => ?_) (fun h => ?_)) <;> ((try simp only [Bool.not_eq_true', Bool.not_eq_false'] at h); (try simp only [h]); (try simp only [decide_eq_true_eq, decide_eq_false_iff_not, bne_iff_ne, bne_eq_false_iff_eq, beq_iff_eq, beq_eq_false_iff_ne, ne_eq, Int.not_lt, Int.not_le, Bool.and_eq_true, Bool.and_eq_false_iff, Bool.or_eq_true, Bool.or_eq_false_iff] at h))))
  first | refine goC_call [.r, .g (fnY fun x => x != 0)] (d_slices_IndexFunc_bytes (pad8 a) (fun x => x != 0) _ (fnY_mk _) (by omega)) ?_ | refine goOC_call [.r, .g (fnY fun x => x != 0)] (d_slices_IndexFunc_bytes (pad8 a) (fun x => x != 0) _ (fnY_mk _) (by omega)) ?_
  repeat' (first | simp -implicitDefEqProofs (maxSteps := 1000000) (disch := (first | omega | (simp only [go_sem] <;> omega) | fail)) only [go_sem, ints, bools, mat, reduceIte, Nat.reduceEqDiff, Nat.reduceAdd, Nat.reduceBEq, Nat.reduceMul, Nat.reduceLeDiff, Nat.reduceLT, Nat.reduceMod, Nat.reduceDiv, Nat.reduceSub, reduceCtorEq] | ((first | refine goIf_b (fun h => ?_) (fun h => ?_) | refine goG_b (fun h => ?_) (fun h => ?_) | refine goTG_b (fun h => ?_) (fun h => ?_) | refine goOG_b (fun h => ?_) (fun h => ?_)) <;> ((try simp only [Bool.not_eq_true', Bool.not_eq_false'] at h); (try simp only [h]); (try simp only [decide_eq_true_eq, decide_eq_false_iff_not, bne_iff_ne, bne_eq_false_iff_eq, beq_iff_eq, beq_eq_false_iff_ne, ne_eq, Int.not_lt, Int.not_le, Bool.and_eq_true, Bool.and_eq_false_iff, Bool.or_eq_true, Bool.or_eq_false_iff] at h))))
  refine chk_intro (fnOK_mk (d_impl_firstDigit_1 0).1 [] rfl fun ds r hg => ?_) ?_
  · obtain ⟨x, rfl, rfl⟩ := hg
    exact ⟨_, d_impl_firstDigit_1 x⟩
  repeat' (first | simp -implicitDefEqProofs (maxSteps := 1000000) (disch := (first | omega | (simp only [go_sem] <;> omega) | fail)) only [go_sem, ints, bools, mat, reduceIte, Nat.reduceEqDiff, Nat.reduceAdd, Nat.reduceBEq, Nat.reduceMul, Nat.reduceLeDiff, Nat.reduceLT, Nat.reduceMod, Nat.reduceDiv, Nat.reduceSub, reduceCtorEq] | ((first | refine goIf_b (fun h => ?_) (fun h => ?_) | refine goG_b (fun h => ?_) (fun h => ?_) | refine goTG_b (fun h => ?_) (fun h => ?_) | refine goOG_b (fun h => ?_) (fun h => ?_)) <;> ((try simp only [Bool.not_eq_true', Bool.not_eq_false'] at h); (try simp only [h]); (try simp only [decide_eq_true_eq, decide_eq_false_iff_not, bne_iff_ne, bne_eq_false_iff_eq, beq_iff_eq, beq_eq_false_iff_ne, ne_eq, Int.not_lt, Int.not_le, Bool.and_eq_true, Bool.and_eq_false_iff, Bool.or_eq_true, Bool.or_eq_false_iff] at h))))
  rfl
abbrev lnM (l c : List Int) : Int := if ggM l c = 0 then (if linB l c = true then 0 else 5) else ggM l c
theorem lnM_ok {l c : List Int} (h : lnM l c = 0) : isSpaceM l = true ∧ isCodeM l c = true ∧ linB l c = true := by
  by_cases h1 : ggM l c = 0
  · by_cases h2 : linB l c = true
    · exact ⟨(ggM_ok h1).1, (ggM_ok h1).2, h2⟩
    · rw [lnM, if_pos h1, if_neg h2] at h; exact absurd h (by decide)
  · rw [lnM, if_neg h1] at h; exact absurd h h1
theorem d_impl_linearCode0 (l c : List Int) (hl : l.length < 1048577) (hc : c.length < 1048577) : Den PA f_impl_linearCode [.d (.agg [ints l]), .d (ints c), .d nil] [.any, .any, .any] (.d (di (lnM l c))) := by
  refine den_go [] l_impl_linearCode ?_
  repeat' (first | simp -implicitDefEqProofs (maxSteps := 1000000) (disch := (first | omega | (simp only [go_sem] <;> omega) | fail)) only [go_sem, ints, bools, mat, reduceIte, Nat.reduceEqDiff, Nat.reduceAdd, Nat.reduceBEq, Nat.reduceMul, Nat.reduceLeDiff, Nat.reduceLT, Nat.reduceMod, Nat.reduceDiv, Nat.reduceSub, reduceCtorEq, c_impl_linearCode] | ((first | refine goIf_b (fun h => ?_) (fun h => ?_) | refine goG_b (fun h => ?_) (fun h => ?_) | refine goTG_b (fun h => ?_) (fun h => ?_) | refine goOG_b (fun h => ?_) (fun h => ?_)) <;> ((try simp only [Bool.not_eq_true', Bool.not_eq_false'] at h); (try simp only [h]); (try simp only [decide_eq_true_eq, decide_eq_false_iff_not, bne_iff_ne, bne_eq_false_iff_eq, beq_iff_eq, beq_eq_false_iff_ne, ne_eq, Int.not_lt, Int.not_le, Bool.and_eq_true, Bool.and_eq_false_iff, Bool.or_eq_true, Bool.or_eq_false_iff] at h))))
  first | refine goC_call [.r, .r, .r] (d_impl_codeCode0 l hl c hc) ?_ | refine goOC_call [.r, .r, .r] (d_impl_codeCode0 l hl c hc) ?_
  by_cases h : ggM l c = 0
  · obtain ⟨hs, hcc⟩ := ggM_ok h
    rw [lnM, if_pos h, h]
    repeat' (first | simp -implicitDefEqProofs (maxSteps := 1000000) (disch := (first | omega | (simp only [go_sem] <;> omega) | fail)) only [go_sem, ints, bools, mat, reduceIte, Nat.reduceEqDiff, Nat.reduceAdd, Nat.reduceBEq, Nat.reduceMul, Nat.reduceLeDiff, Nat.reduceLT, Nat.reduceMod, Nat.reduceDiv, Nat.reduceSub, reduceCtorEq] | ((first | refine goIf_b (fun h => ?_) (fun h => ?_) | refine goG_b (fun h => ?_) (fun h => ?_) | refine goTG_b (fun h => ?_) (fun h => ?_) | refine goOG_b (fun h => ?_) (fun h => ?_)) <;> ((try simp only [Bool.not_eq_true', Bool.not_eq_false'] at h); (try simp only [h]); (try simp only [decide_eq_true_eq, decide_eq_false_iff_not, bne_iff_ne, bne_eq_false_iff_eq, beq_iff_eq, beq_eq_false_iff_ne, ne_eq, Int.not_lt, Int.not_le, Bool.and_eq_true, Bool.and_eq_false_iff, Bool.or_eq_true, Bool.or_eq_false_iff] at h))))
    first | refine goC_call [.r, .r] (d_impl_isLinear l c hs hcc hc) ?_ | refine goOC_call [.r, .r] (d_impl_isLinear l c hs hcc hc) ?_
    cases hq : linB l c with
    | true =>
      repeat' (first | simp -implicitDefEqProofs (maxSteps := 1000000) (disch := (first | omega | (simp only [go_sem] <;> omega) | fail)) only [go_sem, ints, bools, mat, reduceIte, Nat.reduceEqDiff, Nat.reduceAdd, Nat.reduceBEq, Nat.reduceMul, Nat.reduceLeDiff, Nat.reduceLT, Nat.reduceMod, Nat.reduceDiv, Nat.reduceSub, reduceCtorEq] | ((first | refine goIf_b (fun h => ?_) (fun h => ?_) | refine goG_b (fun h => ?_) (fun h => ?_) | refine goTG_b (fun h => ?_) (fun h => ?_) | refine goOG_b (fun h => ?_) (fun h => ?_)) <;> ((try simp only [Bool.not_eq_true', Bool.not_eq_false'] at h); (try simp only [h]); (try simp only [decide_eq_true_eq, decide_eq_false_iff_not, bne_iff_ne, bne_eq_false_iff_eq, beq_iff_eq, beq_eq_false_iff_ne, ne_eq, Int.not_lt, Int.not_le, Bool.and_eq_true, Bool.and_eq_false_iff, Bool.or_eq_true, Bool.or_eq_false_iff] at h))))
    | false =>
      repeat' (first | simp -implicitDefEqProofs (maxSteps := 1000000) (disch := (first | omega | (simp only [go_sem] <;> omega) | fail)) only [go_sem, ints, bools, mat, reduceIte, Nat.reduceEqDiff, Nat.reduceAdd, Nat.reduceBEq, Nat.reduceMul, Nat.reduceLeDiff, Nat.reduceLT, Nat.reduceMod, Nat.reduceDiv, Nat.reduceSub, reduceCtorEq] | ((first | refine goIf_b (fun h => ?_) (fun h => ?_) | refine goG_b (fun h => ?_) (fun h => ?_) | refine goTG_b (fun h => ?_) (fun h => ?_) | refine goOG_b (fun h => ?_) (fun h => ?_)) <;> ((try simp only [Bool.not_eq_true', Bool.not_eq_false'] at h); (try simp only [h]); (try simp only [decide_eq_true_eq, decide_eq_false_iff_not, bne_iff_ne, bne_eq_false_iff_eq, beq_iff_eq, beq_eq_false_iff_ne, ne_eq, Int.not_lt, Int.not_le, Bool.and_eq_true, Bool.and_eq_false_iff, Bool.or_eq_true, Bool.or_eq_false_iff] at h))))
  · rw [lnM, if_neg h]
    generalize ggM l c = b at h
    repeat' (first | simp -implicitDefEqProofs (maxSteps := 1000000) (disch := (first | omega | (simp only [go_sem] <;> omega) | fail)) only [go_sem, ints, bools, mat, reduceIte, Nat.reduceEqDiff, Nat.reduceAdd, Nat.reduceBEq, Nat.reduceMul, Nat.reduceLeDiff, Nat.reduceLT, Nat.reduceMod, Nat.reduceDiv, Nat.reduceSub, reduceCtorEq] | ((first | refine goIf_b (fun h => ?_) (fun h => ?_) | refine goG_b (fun h => ?_) (fun h => ?_) | refine goTG_b (fun h => ?_) (fun h => ?_) | refine goOG_b (fun h => ?_) (fun h => ?_)) <;> ((try simp only [Bool.not_eq_true', Bool.not_eq_false'] at h); (try simp only [h]); (try simp only [decide_eq_true_eq, decide_eq_false_iff_not, bne_iff_ne, bne_eq_false_iff_eq, beq_iff_eq, beq_eq_false_iff_ne, ne_eq, Int.not_lt, Int.not_le, Bool.and_eq_true, Bool.and_eq_false_iff, Bool.or_eq_true, Bool.or_eq_false_iff] at h))))
    all_goals (exfalso; omega)
theorem d_spec_l05Given (l c : List Int) (hl : l.length < 1048577) (hc : c.length < 1048577) : Den PA f_spec_l05Given [.d (.agg [ints l]), .d (ints c)] [.any, .any] (.d (di (lnM l c))) := by
  refine den_go [] l_spec_l05Given ?_
  repeat' (first | simp -implicitDefEqProofs (maxSteps := 1000000) (disch := (first | omega | (simp only [go_sem] <;> omega) | fail)) only [go_sem, ints, bools, mat, reduceIte, Nat.reduceEqDiff, Nat.reduceAdd, Nat.reduceBEq, Nat.reduceMul, Nat.reduceLeDiff, Nat.reduceLT, Nat.reduceMod, Nat.reduceDiv, Nat.reduceSub, reduceCtorEq, c_spec_l05Given] | ((first | refine goIf_b (fun h => ?_) (fun h => ?_) | refine goG_b (fun h => ?_) (fun h => ?_) | refine goTG_b (fun h => ?_) (fun h => ?_) | refine goOG_b (fun h => ?_) (fun h => ?_)) <;> ((try simp only [Bool.not_eq_true', Bool.not_eq_false'] at h); (try simp only [h]); (try simp only [decide_eq_true_eq, decide_eq_false_iff_not, bne_iff_ne, bne_eq_false_iff_eq, beq_iff_eq, beq_eq_false_iff_ne, ne_eq, Int.not_lt, Int.not_le, Bool.and_eq_true, Bool.and_eq_false_iff, Bool.or_eq_true, Bool.or_eq_false_iff] at h))))
  first | refine goC_call [.r, .r] (d_spec_l01Given l hl c hc) ?_ | refine goOC_call [.r, .r] (d_spec_l01Given l hl c hc) ?_
  by_cases h : ggM l c = 0
  · obtain ⟨hs, hcc⟩ := ggM_ok h
    rw [lnM, if_pos h, h]
    repeat' (first | simp -implicitDefEqProofs (maxSteps := 1000000) (disch := (first | omega | (simp only [go_sem] <;> omega) | fail)) only [go_sem, ints, bools, mat, reduceIte, Nat.reduceEqDiff, Nat.reduceAdd, Nat.reduceBEq, Nat.reduceMul, Nat.reduceLeDiff, Nat.reduceLT, Nat.reduceMod, Nat.reduceDiv, Nat.reduceSub, reduceCtorEq] | ((first | refine goIf_b (fun h => ?_) (fun h => ?_) | refine goG_b (fun h => ?_) (fun h => ?_) | refine goTG_b (fun h => ?_) (fun h => ?_) | refine goOG_b (fun h => ?_) (fun h => ?_)) <;> ((try simp only [Bool.not_eq_true', Bool.not_eq_false'] at h); (try simp only [h]); (try simp only [decide_eq_true_eq, decide_eq_false_iff_not, bne_iff_ne, bne_eq_false_iff_eq, beq_iff_eq, beq_eq_false_iff_ne, ne_eq, Int.not_lt, Int.not_le, Bool.and_eq_true, Bool.and_eq_false_iff, Bool.or_eq_true, Bool.or_eq_false_iff] at h))))
    first | refine goC_call [.r, .r] (d_spec_l05Linear l c hs hcc hc) ?_ | refine goOC_call [.r, .r] (d_spec_l05Linear l c hs hcc hc) ?_
    cases hq : linB l c with
    | true =>
      repeat' (first | simp -implicitDefEqProofs (maxSteps := 1000000) (disch := (first | omega | (simp only [go_sem] <;> omega) | fail)) only [go_sem, ints, bools, mat, reduceIte, Nat.reduceEqDiff, Nat.reduceAdd, Nat.reduceBEq, Nat.reduceMul, Nat.reduceLeDiff, Nat.reduceLT, Nat.reduceMod, Nat.reduceDiv, Nat.reduceSub, reduceCtorEq] | ((first | refine goIf_b (fun h => ?_) (fun h => ?_) | refine goG_b (fun h => ?_) (fun h => ?_) | refine goTG_b (fun h => ?_) (fun h => ?_) | refine goOG_b (fun h => ?_) (fun h => ?_)) <;> ((try simp only [Bool.not_eq_true', Bool.not_eq_false'] at h); (try simp only [h]); (try simp only [decide_eq_true_eq, decide_eq_false_iff_not, bne_iff_ne, bne_eq_false_iff_eq, beq_iff_eq, beq_eq_false_iff_ne, ne_eq, Int.not_lt, Int.not_le, Bool.and_eq_true, Bool.and_eq_false_iff, Bool.or_eq_true, Bool.or_eq_false_iff] at h))))
    | false =>
      repeat' (first | simp -implicitDefEqProofs (maxSteps := 1000000) (disch := (first | omega | (simp only [go_sem] <;> omega) | fail)) only [go_sem, ints, bools, mat, reduceIte, Nat.reduceEqDiff, Nat.reduceAdd, Nat.reduceBEq, Nat.reduceMul, Nat.reduceLeDiff, Nat.reduceLT, Nat.reduceMod, Nat.reduceDiv, Nat.reduceSub, reduceCtorEq] | ((first | refine goIf_b (fun h => ?_) (fun h => ?_) | refine goG_b (fun h => ?_) (fun h => ?_) | refine goTG_b (fun h => ?_) (fun h => ?_) | refine goOG_b (fun h => ?_) (fun h => ?_)) <;> ((try simp only [Bool.not_eq_true', Bool.not_eq_false'] at h); (try simp only [h]); (try simp only [decide_eq_true_eq, decide_eq_false_iff_not, bne_iff_ne, bne_eq_false_iff_eq, beq_iff_eq, beq_eq_false_iff_ne, ne_eq, Int.not_lt, Int.not_le, Bool.and_eq_true, Bool.and_eq_false_iff, Bool.or_eq_true, Bool.or_eq_false_iff] at h))))
  · rw [lnM, if_neg h]
    generalize ggM l c = b at h
    repeat' (first | simp -implicitDefEqProofs (maxSteps := 1000000) (disch := (first | omega | (simp only [go_sem] <;> omega) | fail)) only [go_sem, ints, bools, mat, reduceIte, Nat.reduceEqDiff, Nat.reduceAdd, Nat.reduceBEq, Nat.reduceMul, Nat.reduceLeDiff, Nat.reduceLT, Nat.reduceMod, Nat.reduceDiv, Nat.reduceSub, reduceCtorEq] | ((first | refine goIf_b (fun h => ?_) (fun h => ?_) | refine goG_b (fun h => ?_) (fun h => ?_) | refine goTG_b (fun h => ?_) (fun h => ?_) | refine goOG_b (fun h => ?_) (fun h => ?_)) <;> ((try simp only [Bool.not_eq_true', Bool.not_eq_false'] at h); (try simp only [h]); (try simp only [decide_eq_true_eq, decide_eq_false_iff_not, bne_iff_ne, bne_eq_false_iff_eq, beq_iff_eq, beq_eq_false_iff_ne, ne_eq, Int.not_lt, Int.not_le, Bool.and_eq_true, Bool.and_eq_false_iff, Bool.or_eq_true, Bool.or_eq_false_iff] at h))))
    all_goals (exfalso; omega)
/-- The first places of the first j words, as a row of n marks. -/
def firN (l c : List Int) (n j : Nat) : List Bool := (List.range n).map fun i => pvB l c j i
@[go_sem] theorem firN_len (l c : List Int) (n j : Nat) : (firN l c n j).length = n := by simp [firN]
theorem firN_get (l c : List Int) {n i : Nat} (j : Nat) (h : i < n) : (firN l c n j).getD i false = pvB l c j i := by simp [firN, h]
theorem firN_same {l c : List Int} {n j : Nat} (h : ∀ i, (digM l (c.getD j 0)).getD i 0 = 0) : firN l c n (j + 1) = firN l c n j := by
  unfold firN; congr 1; funext i
  rw [pvB_step]
  have : fdB (digM l (c.getD j 0)) i = false := by
    cases e : fdB (digM l (c.getD j 0)) i with
    | false => rfl
    | true => exact ((fdB_ok.1 e).1 (h i)).elim
  rw [this, Bool.or_false]
theorem fdB_uni {d : List Int} {i f : Nat} (h1 : fdB d i = true) (h2 : fdB d f = true) : i = f := by
  obtain ⟨a1, a2⟩ := fdB_ok.1 h1
  obtain ⟨b1, b2⟩ := fdB_ok.1 h2
  rcases Nat.lt_trichotomy i f with h | h | h
  · exact (a1 (b2 i h)).elim
  · exact h
  · exact (b1 (a2 f h)).elim
theorem firN_set {l c : List Int} {n j f : Nat} (hf : f < n) (h : fdB (digM l (c.getD j 0)) f = true) : firN l c n (j + 1) = (firN l c n j).set f true := by
  apply List.ext_getElem
  · simp [firN]
  · intro i h1 h2
    rw [List.getElem_set]
    simp only [firN, List.getElem_map, List.getElem_range]
    rw [pvB_step]
    split
    · subst_vars; rw [h, Bool.or_true]
    · rename_i hne
      have : fdB (digM l (c.getD j 0)) i = false := by
        cases e : fdB (digM l (c.getD j 0)) i with
        | false => rfl
        | true => exact (hne (fdB_uni h e)).elim
      rw [this, Bool.or_false]
theorem fdB_pad {d : List Int} (h : d.length ≤ 8) (i : Nat) : fdB (pad8 d) i = fdB d i := by
  unfold fdB
  rw [pad8_get h]
  congr 1
  congr 1
  funext j
  rw [pad8_get h]
/-- What the program reckons of a word for the first place i, after k places. -/
def finI (l c : List Int) (i : Nat) (w : Int) (k : Nat) : Bool := fdB (digM l w) i && ((digM l w).getD i 0 == 1) && (List.range k).all fun j => !pvB l c c.length j || decide (j = i) || (digM l w).getD j 0 == 0
theorem finI_fin {l c : List Int} (h8 : l.length ≤ 8) {i : Nat} (w : Int) (hi : i < l.length) : finI l c i w 8 = finB l c i l.length w := by
  have hiff : finI l c i w 8 = true ↔ finB l c i l.length w = true := by
    rw [finB_ok]
    simp only [finI, Bool.and_eq_true, List.all_eq_true, List.mem_range, beq_iff_eq, Bool.or_eq_true, Bool.not_eq_true', decide_eq_true_eq]
    constructor
    · rintro ⟨⟨h1, h2⟩, h3⟩
      refine ⟨h2, fun j hj h => ?_⟩
      rcases h with h | ⟨h, h'⟩
      · exact (fdB_ok.1 h1).2 j h
      · rcases h3 j (by omega) with (a | a) | a
        · rw [h] at a; cases a
        · exact (h' a).elim
        · exact a
    · rintro ⟨h1, h2⟩
      refine ⟨⟨fdB_ok.2 ⟨by rw [h1]; decide, fun j hj => h2 j (by omega) (.inl hj)⟩, h1⟩, fun j hj => ?_⟩
      by_cases hp : pvB l c c.length j = true
      · by_cases e : j = i
        · exact .inl (.inr e)
        · exact .inr (h2 j (pvB_lt hp) (.inr ⟨hp, e⟩))
      · exact .inl (.inl (by simpa using hp))
  cases h1 : finI l c i w 8 with
  | true => exact (hiff.1 h1).symm
  | false =>
    cases h2 : finB l c i l.length w with
    | false => rfl
    | true => rw [hiff.2 h2] at h1; cases h1
theorem finI_step (l c : List Int) (i : Nat) (w : Int) (k : Nat) : finI l c i w (k + 1) = (finI l c i w k && (!pvB l c c.length k || decide (k = i) || (digM l w).getD k 0 == 0)) := by
  rw [finI, finI, List.range_succ, List.all_append]; simp [Bool.and_assoc]
theorem bsN_pad {l c : List Int} : ∀ m, l.length ≤ m → bsN l c m = bsM l c
  | 0, h => by rw [bsM, show l.length = 0 by omega]
  | m + 1, h => by
    by_cases e : l.length = m + 1
    · rw [bsM, e]
    · rw [bsN, bsN_pad m (by omega), if_neg, List.append_nil]
      intro hp; have := pvB_lt hp; omega
theorem fdI_eq {d : List Int} (h : d.length ≤ 8) (m : Nat) : (fdI (pad8 d) = (m : Int)) ↔ fdB d m = true := by
  rw [← fdB_pad h]
  rcases fdI_spec (pad8 d) with ⟨h1, h2⟩ | ⟨f, hf, h1, h2⟩
  · rw [h1]
    constructor
    · intro h; omega
    · intro h; exact ((fdB_ok.1 h).1 (h2 m)).elim
  · rw [h1]
    constructor
    · intro h; have : f = m := by omega
      rw [← this]; exact h2
    · intro h; rw [fdB_uni h2 h]
@[go_sem] theorem getB2 {l : List Bool} {j : Nat} (h : j < l.length) : (l.map db)[j]? = some (db (l.getD j false)) := by simp [h]
theorem bsN_len {l c : List Int} (hs : isSpaceM l = true) (hcc : isCodeM l c = true) (hl : linB l c = true) : ∀ m, (bsN l c m).length ≤ m
  | 0 => Nat.le_refl _
  | m + 1 => by
    have ih := bsN_len hs hcc hl m
    rw [bsN, List.length_append]
    split
    · rename_i hp
      have : (c.filter (finB l c m l.length)).length ≤ 1 := by
        cases hf : c.filter (finB l c m l.length) with
        | nil => simp
        | cons x r =>
          have hx : x ∈ c.filter (finB l c m l.length) := by rw [hf]; exact List.mem_cons_self
          obtain ⟨hx1, hx2⟩ := List.mem_filter.1 hx
          obtain ⟨k, hk, rfl⟩ := List.mem_iff_getElem.1 hx1
          have e : c[k] = c.getD k 0 := by simp [hk]
          rw [e] at hx2
          have := fin_one hs hcc hl (pvB_lt hp) hk hx2
          rw [hf] at this; rw [this]; simp
      omega
    · simp; omega
theorem d_impl_basis (l c : List Int) (hs : isSpaceM l = true) (hcc : isCodeM l c = true) (hl : linB l c = true) (hc : c.length < 1048577) : Den PA f_impl_basis [.d (.agg [ints l]), .d (ints c)] [.any, .any] (.own 1 ((bsM l c).map di)) := by
  have hn := isSpaceM_n hs
  have hz := isSpaceM_szs hs
  have hcs := code_small hs hcc
  have hd8 : ∀ w, (digM l w).length ≤ 8 := fun w => by rw [digM_len]; omega
  refine den_go [] l_impl_basis ?_
  repeat' (first | simp -implicitDefEqProofs (maxSteps := 1000000) (disch := (first | omega | (simp only [go_sem] <;> omega) | fail)) only [go_sem, ints, bools, mat, reduceIte, Nat.reduceEqDiff, Nat.reduceAdd, Nat.reduceBEq, Nat.reduceMul, Nat.reduceLeDiff, Nat.reduceLT, Nat.reduceMod, Nat.reduceDiv, Nat.reduceSub, reduceCtorEq, c_impl_basis] | ((first | refine goIf_b (fun h => ?_) (fun h => ?_) | refine goG_b (fun h => ?_) (fun h => ?_) | refine goTG_b (fun h => ?_) (fun h => ?_) | refine goOG_b (fun h => ?_) (fun h => ?_)) <;> ((try simp only [Bool.not_eq_true', Bool.not_eq_false'] at h); (try simp only [h]); (try simp only [decide_eq_true_eq, decide_eq_false_iff_not, bne_iff_ne, bne_eq_false_iff_eq, beq_iff_eq, beq_eq_false_iff_ne, ne_eq, Int.not_lt, Int.not_le, Bool.and_eq_true, Bool.and_eq_false_iff, Bool.or_eq_true, Bool.or_eq_false_iff] at h))))
  first | refine goC_call [.r, .r] (d_impl_digitsOfAll l hs c hc hcs) ?_ | refine goOC_call [.r, .r] (d_impl_digitsOfAll l hs c hc hcs) ?_
  repeat' (first | simp -implicitDefEqProofs (maxSteps := 1000000) (disch := (first | omega | (simp only [go_sem] <;> omega) | fail)) only [go_sem, ints, bools, mat, reduceIte, Nat.reduceEqDiff, Nat.reduceAdd, Nat.reduceBEq, Nat.reduceMul, Nat.reduceLeDiff, Nat.reduceLT, Nat.reduceMod, Nat.reduceDiv, Nat.reduceSub, reduceCtorEq] | ((first | refine goIf_b (fun h => ?_) (fun h => ?_) | refine goG_b (fun h => ?_) (fun h => ?_) | refine goTG_b (fun h => ?_) (fun h => ?_) | refine goOG_b (fun h => ?_) (fun h => ?_)) <;> ((try simp only [Bool.not_eq_true', Bool.not_eq_false'] at h); (try simp only [h]); (try simp only [decide_eq_true_eq, decide_eq_false_iff_not, bne_iff_ne, bne_eq_false_iff_eq, beq_iff_eq, beq_eq_false_iff_ne, ne_eq, Int.not_lt, Int.not_le, Bool.and_eq_true, Bool.and_eq_false_iff, Bool.or_eq_true, Bool.or_eq_false_iff] at h))))
  refine go_loop (fun (j : Nat) => ⟨[(1, .d (ints c)), (2, .ref 0 0), (5, .ref 1 0), (21, .sl 2 0 c.length 8), (22, .d (di c.length)), (23, .d (di j))], [some (.var [ints l]), some (.var ((firN l c 8 j).map db)), some (.dat 8 (digs (digsM l c)))]⟩) (fun j => j ≤ c.length) (fun j => c.length - j) 0 ?_ ?_ ?_
  · simp -implicitDefEqProofs (maxSteps := 1000000) (disch := (first | omega | (simp only [go_sem] <;> omega) | fail)) only [go_sem, ints, bools, mat, reduceIte, Nat.reduceEqDiff, Nat.reduceAdd, Nat.reduceBEq, Nat.reduceMul, Nat.reduceLeDiff, Nat.reduceLT, Nat.reduceMod, Nat.reduceDiv, Nat.reduceSub, reduceCtorEq]; rfl
  · simp
  · rintro j hj J hJ
    have hg := fun h => digsM_get l c (i := j) h
    repeat' (first | simp -implicitDefEqProofs (maxSteps := 1000000) (disch := (first | omega | (simp only [go_sem] <;> omega) | fail)) only [go_sem, ints, bools, mat, reduceIte, Nat.reduceEqDiff, Nat.reduceAdd, Nat.reduceBEq, Nat.reduceMul, Nat.reduceLeDiff, Nat.reduceLT, Nat.reduceMod, Nat.reduceDiv, Nat.reduceSub, reduceCtorEq] | ((first | refine goIf_b (fun h => ?_) (fun h => ?_) | refine goG_b (fun h => ?_) (fun h => ?_) | refine goTG_b (fun h => ?_) (fun h => ?_) | refine goOG_b (fun h => ?_) (fun h => ?_)) <;> ((try simp only [Bool.not_eq_true', Bool.not_eq_false'] at h); (try simp only [h]); (try simp only [decide_eq_true_eq, decide_eq_false_iff_not, bne_iff_ne, bne_eq_false_iff_eq, beq_iff_eq, beq_eq_false_iff_ne, ne_eq, Int.not_lt, Int.not_le, Bool.and_eq_true, Bool.and_eq_false_iff, Bool.or_eq_true, Bool.or_eq_false_iff] at h))))
    · rw [hg (by omega)]
      have hfs := fdI_spec (pad8 (digM l (c.getD j 0)))
      first | refine goC_call [.r] (d_impl_firstDigit (digM l (c.getD j 0))) ?_ | refine goOC_call [.r] (d_impl_firstDigit (digM l (c.getD j 0))) ?_
      rcases hfs with ⟨h1, h2⟩ | ⟨f, hf, h1, h2⟩
      · rw [h1]
        repeat' (first | simp -implicitDefEqProofs (maxSteps := 1000000) (disch := (first | omega | (simp only [go_sem] <;> omega) | fail)) only [go_sem, ints, bools, mat, reduceIte, Nat.reduceEqDiff, Nat.reduceAdd, Nat.reduceBEq, Nat.reduceMul, Nat.reduceLeDiff, Nat.reduceLT, Nat.reduceMod, Nat.reduceDiv, Nat.reduceSub, reduceCtorEq] | ((first | refine goIf_b (fun h => ?_) (fun h => ?_) | refine goG_b (fun h => ?_) (fun h => ?_) | refine goTG_b (fun h => ?_) (fun h => ?_) | refine goOG_b (fun h => ?_) (fun h => ?_)) <;> ((try simp only [Bool.not_eq_true', Bool.not_eq_false'] at h); (try simp only [h]); (try simp only [decide_eq_true_eq, decide_eq_false_iff_not, bne_iff_ne, bne_eq_false_iff_eq, beq_iff_eq, beq_eq_false_iff_ne, ne_eq, Int.not_lt, Int.not_le, Bool.and_eq_true, Bool.and_eq_false_iff, Bool.or_eq_true, Bool.or_eq_false_iff] at h)) <;> (try (exfalso; omega))))
        refine hJ (j + 1) (by omega) (by omega) _ ?_
        simp -implicitDefEqProofs (maxSteps := 1000000) (disch := (first | omega | (simp only [go_sem] <;> omega) | fail)) only [go_sem, ints, bools, mat, reduceIte, Nat.reduceEqDiff, Nat.reduceAdd, Nat.reduceBEq, Nat.reduceMul, Nat.reduceLeDiff, Nat.reduceLT, Nat.reduceMod, Nat.reduceDiv, Nat.reduceSub, reduceCtorEq]
        rw [firN_same fun i => by rw [← pad8_get (hd8 _)]; exact h2 i]
        rfl
      · rw [h1]
        rw [pad8_len] at hf
        rw [fdB_pad (hd8 _)] at h2
        have hset := firN_set (l := l) (c := c) hf h2
        repeat' (first | simp -implicitDefEqProofs (maxSteps := 1000000) (disch := (first | omega | (simp only [go_sem] <;> omega) | fail)) only [go_sem, ints, bools, mat, reduceIte, Nat.reduceEqDiff, Nat.reduceAdd, Nat.reduceBEq, Nat.reduceMul, Nat.reduceLeDiff, Nat.reduceLT, Nat.reduceMod, Nat.reduceDiv, Nat.reduceSub, reduceCtorEq] | ((first | refine goIf_b (fun h => ?_) (fun h => ?_) | refine goG_b (fun h => ?_) (fun h => ?_) | refine goTG_b (fun h => ?_) (fun h => ?_) | refine goOG_b (fun h => ?_) (fun h => ?_)) <;> ((try simp only [Bool.not_eq_true', Bool.not_eq_false'] at h); (try simp only [h]); (try simp only [decide_eq_true_eq, decide_eq_false_iff_not, bne_iff_ne, bne_eq_false_iff_eq, beq_iff_eq, beq_eq_false_iff_ne, ne_eq, Int.not_lt, Int.not_le, Bool.and_eq_true, Bool.and_eq_false_iff, Bool.or_eq_true, Bool.or_eq_false_iff] at h)) <;> (try (exfalso; omega))))
        refine hJ (j + 1) (by omega) (by omega) _ ?_
        simp -implicitDefEqProofs (maxSteps := 1000000) (disch := (first | omega | (simp only [go_sem] <;> omega) | fail)) only [go_sem, ints, bools, mat, reduceIte, Nat.reduceEqDiff, Nat.reduceAdd, Nat.reduceBEq, Nat.reduceMul, Nat.reduceLeDiff, Nat.reduceLT, Nat.reduceMod, Nat.reduceDiv, Nat.reduceSub, reduceCtorEq]
        rw [hset]; rfl
    · have : j = c.length := by omega
      subst this
      have hF := fun i h => firN_get l c (n := 8) (i := i) c.length h
      generalize hFe : firN l c 8 c.length = F at hF
      have hFl : F.length = 8 := by rw [← hFe]; exact firN_len _ _ _ _
      refine go_loop (fun (m : Nat) => ⟨[(1, .d (ints c)), (2, .ref 0 0), (5, .ref 1 0), (9, .sl 2 0 (bsN l c m).length 1), (35, .d (.agg (F.map db))), (36, .d (di m))], [some (.var [ints l]), some (.var (F.map db)), some (.dat 1 ((bsN l c m).map di))]⟩) (fun m => m ≤ 8) (fun m => 8 - m) 0 ?_ ?_ ?_
      · (simp -implicitDefEqProofs (maxSteps := 1000000) (disch := (first | omega | (simp only [go_sem] <;> omega) | fail)) only [go_sem, ints, bools, mat, reduceIte, Nat.reduceEqDiff, Nat.reduceAdd, Nat.reduceBEq, Nat.reduceMul, Nat.reduceLeDiff, Nat.reduceLT, Nat.reduceMod, Nat.reduceDiv, Nat.reduceSub, reduceCtorEq] <;> rfl)
      · simp
      · rintro m hm M hM
        have hbl := bsN_len hs hcc hl m
        repeat' (first | simp -implicitDefEqProofs (maxSteps := 1000000) (disch := (first | omega | (simp only [go_sem] <;> omega) | fail)) only [go_sem, ints, bools, mat, reduceIte, Nat.reduceEqDiff, Nat.reduceAdd, Nat.reduceBEq, Nat.reduceMul, Nat.reduceLeDiff, Nat.reduceLT, Nat.reduceMod, Nat.reduceDiv, Nat.reduceSub, reduceCtorEq] | ((first | refine goIf_b (fun h => ?_) (fun h => ?_) | refine goG_b (fun h => ?_) (fun h => ?_) | refine goTG_b (fun h => ?_) (fun h => ?_) | refine goOG_b (fun h => ?_) (fun h => ?_)) <;> ((try simp only [Bool.not_eq_true', Bool.not_eq_false'] at h); (try simp only [h]); (try simp only [decide_eq_true_eq, decide_eq_false_iff_not, bne_iff_ne, bne_eq_false_iff_eq, beq_iff_eq, beq_eq_false_iff_ne, ne_eq, Int.not_lt, Int.not_le, Bool.and_eq_true, Bool.and_eq_false_iff, Bool.or_eq_true, Bool.or_eq_false_iff] at h))))
        · have hpv : pvB l c c.length m = true := by rw [← hF m (by omega)]; assumption
          have hml := pvB_lt hpv
          have hbs : ∀ k, bsN l c m ++ (c.take k).filter (finB l c m l.length) = bsN l c m ++ (c.take k).filter (finB l c m l.length) := fun _ => rfl
          have hfl : ∀ k, ((c.take k).filter (finB l c m l.length)).length ≤ k := fun k => Nat.le_trans (List.length_filter_le _ _) (by simp; omega)
          refine go_loop (fun (k : Nat) => ⟨[(1, .d (ints c)), (2, .ref 0 0), (5, .ref 1 0), (9, .sl 2 0 (bsN l c m ++ (c.take k).filter (finB l c m l.length)).length 1), (10, .d (di m)), (35, .d (.agg (F.map db))), (36, .d (di m)), (42, .d (ints c)), (43, .d (di c.length)), (44, .d (di k))], [some (.var [ints l]), some (.var (F.map db)), some (.dat 1 ((bsN l c m ++ (c.take k).filter (finB l c m l.length)).map di))]⟩) (fun k => k ≤ c.length) (fun k => c.length - k) 0 ?_ ?_ ?_
          · simp -implicitDefEqProofs (maxSteps := 1000000) (disch := (first | omega | (simp only [go_sem] <;> omega) | fail)) only [go_sem, ints, bools, mat, reduceIte, Nat.reduceEqDiff, Nat.reduceAdd, Nat.reduceBEq, Nat.reduceMul, Nat.reduceLeDiff, Nat.reduceLT, Nat.reduceMod, Nat.reduceDiv, Nat.reduceSub, reduceCtorEq]; simp
          · simp
          · rintro k hk K hK
            have hfk := hfl k
            have hcw := hcs k
            have hfe := fdI_eq (hd8 (c.getD k 0)) m
            repeat' (first | simp -implicitDefEqProofs (maxSteps := 1000000) (disch := (first | omega | (simp only [go_sem] <;> omega) | fail)) only [go_sem, ints, bools, mat, reduceIte, Nat.reduceEqDiff, Nat.reduceAdd, Nat.reduceBEq, Nat.reduceMul, Nat.reduceLeDiff, Nat.reduceLT, Nat.reduceMod, Nat.reduceDiv, Nat.reduceSub, reduceCtorEq] | ((first | refine goIf_b (fun h => ?_) (fun h => ?_) | refine goG_b (fun h => ?_) (fun h => ?_) | refine goTG_b (fun h => ?_) (fun h => ?_) | refine goOG_b (fun h => ?_) (fun h => ?_)) <;> ((try simp only [Bool.not_eq_true', Bool.not_eq_false'] at h); (try simp only [h]); (try simp only [decide_eq_true_eq, decide_eq_false_iff_not, bne_iff_ne, bne_eq_false_iff_eq, beq_iff_eq, beq_eq_false_iff_ne, ne_eq, Int.not_lt, Int.not_le, Bool.and_eq_true, Bool.and_eq_false_iff, Bool.or_eq_true, Bool.or_eq_false_iff] at h))))
            · first | refine goC_call [.r, .r] (d_impl_digitsOf l hs (c.getD k 0) (hcw (by omega)).1 (hcw (by omega)).2) ?_ | refine goOC_call [.r, .r] (d_impl_digitsOf l hs (c.getD k 0) (hcw (by omega)).1 (hcw (by omega)).2) ?_
              repeat' (first | simp -implicitDefEqProofs (maxSteps := 1000000) (disch := (first | omega | (simp only [go_sem] <;> omega) | fail)) only [go_sem, ints, bools, mat, reduceIte, Nat.reduceEqDiff, Nat.reduceAdd, Nat.reduceBEq, Nat.reduceMul, Nat.reduceLeDiff, Nat.reduceLT, Nat.reduceMod, Nat.reduceDiv, Nat.reduceSub, reduceCtorEq] | ((first | refine goIf_b (fun h => ?_) (fun h => ?_) | refine goG_b (fun h => ?_) (fun h => ?_) | refine goTG_b (fun h => ?_) (fun h => ?_) | refine goOG_b (fun h => ?_) (fun h => ?_)) <;> ((try simp only [Bool.not_eq_true', Bool.not_eq_false'] at h); (try simp only [h]); (try simp only [decide_eq_true_eq, decide_eq_false_iff_not, bne_iff_ne, bne_eq_false_iff_eq, beq_iff_eq, beq_eq_false_iff_ne, ne_eq, Int.not_lt, Int.not_le, Bool.and_eq_true, Bool.and_eq_false_iff, Bool.or_eq_true, Bool.or_eq_false_iff] at h))))
              first | refine goC_call [.r] (d_impl_firstDigit (digM l (c.getD k 0))) ?_ | refine goOC_call [.r] (d_impl_firstDigit (digM l (c.getD k 0))) ?_
              have hpg := fun h => pad8_get (hd8 (c.getD k 0)) h
              have hfs := finI_step l c m (c.getD k 0)
              have hff := finI_fin (c := c) (by omega) (c.getD k 0) hml
              have e0 : finI l c m (c.getD k 0) 0 = (fdB (digM l (c.getD k 0)) m && ((digM l (c.getD k 0)).getD m 0 == 1)) := by simp [finI]
              have hp8 := pad8_len (digM l (c.getD k 0))
              repeat' (first | simp -implicitDefEqProofs (maxSteps := 1000000) (disch := (first | omega | (simp only [go_sem] <;> omega) | fail)) only [go_sem, ints, bools, mat, reduceIte, Nat.reduceEqDiff, Nat.reduceAdd, Nat.reduceBEq, Nat.reduceMul, Nat.reduceLeDiff, Nat.reduceLT, Nat.reduceMod, Nat.reduceDiv, Nat.reduceSub, reduceCtorEq] | ((first | refine goIf_b (fun h => ?_) (fun h => ?_) | refine goG_b (fun h => ?_) (fun h => ?_) | refine goTG_b (fun h => ?_) (fun h => ?_) | refine goOG_b (fun h => ?_) (fun h => ?_)) <;> ((try simp only [Bool.not_eq_true', Bool.not_eq_false'] at h); (try simp only [h]); (try simp only [decide_eq_true_eq, decide_eq_false_iff_not, bne_iff_ne, bne_eq_false_iff_eq, beq_iff_eq, beq_eq_false_iff_ne, ne_eq, Int.not_lt, Int.not_le, Bool.and_eq_true, Bool.and_eq_false_iff, Bool.or_eq_true, Bool.or_eq_false_iff] at h))))
              all_goals refine go_loop (fun (n : Nat) => ⟨[(1, .d (ints c)), (2, .ref 0 0), (5, .ref 1 0), (9, .sl 2 0 (bsN l c m ++ (c.take k).filter (finB l c m l.length)).length 1), (10, .d (di m)), (13, .d (di (c.getD k 0))), (14, .ref 3 0), (15, .d (db (finI l c m (c.getD k 0) n))), (35, .d (.agg (F.map db))), (36, .d (di m)), (42, .d (ints c)), (43, .d (di c.length)), (44, .d (di k)), (61, .d (.agg (F.map db))), (62, .d (di n))], [some (.var [ints l]), some (.var (F.map db)), some (.dat 1 ((bsN l c m ++ (c.take k).filter (finB l c m l.length)).map di)), some (.var ((pad8 (digM l (c.getD k 0))).map dy))]⟩) (fun n => n ≤ 8) (fun n => 8 - n) 0 ?_ (Nat.zero_le _) ?_
              · simp -implicitDefEqProofs (maxSteps := 1000000) (disch := (first | omega | (simp only [go_sem] <;> omega) | fail)) only [go_sem, ints, bools, mat, reduceIte, Nat.reduceEqDiff, Nat.reduceAdd, Nat.reduceBEq, Nat.reduceMul, Nat.reduceLeDiff, Nat.reduceLT, Nat.reduceMod, Nat.reduceDiv, Nat.reduceSub, reduceCtorEq]
                rw [e0, hfe.1 (by assumption), hpg]; rfl
              rotate_left
              · simp -implicitDefEqProofs (maxSteps := 1000000) (disch := (first | omega | (simp only [go_sem] <;> omega) | fail)) only [go_sem, ints, bools, mat, reduceIte, Nat.reduceEqDiff, Nat.reduceAdd, Nat.reduceBEq, Nat.reduceMul, Nat.reduceLeDiff, Nat.reduceLT, Nat.reduceMod, Nat.reduceDiv, Nat.reduceSub, reduceCtorEq]
                rw [e0, show fdB (digM l (c.getD k 0)) m = false from by
                  cases hq : fdB (digM l (c.getD k 0)) m with
                  | false => rfl
                  | true => exact (absurd (hfe.2 hq) (by assumption))]; rfl
              all_goals
                rintro n hn8 N hN
                have hs1 := hfs n
                have hg2 := hpg n
                by_cases hn9 : n < 8
                · have hFn := hF n hn9
                  cases hfin : finI l c m (c.getD k 0) n with
                  | false =>
                    rw [hfin, Bool.false_and] at hs1
                    repeat' (first | simp -implicitDefEqProofs (maxSteps := 1000000) (disch := (first | omega | (simp only [go_sem] <;> omega) | fail)) only [go_sem, ints, bools, mat, reduceIte, Nat.reduceEqDiff, Nat.reduceAdd, Nat.reduceBEq, Nat.reduceMul, Nat.reduceLeDiff, Nat.reduceLT, Nat.reduceMod, Nat.reduceDiv, Nat.reduceSub, reduceCtorEq, hfin] | ((first | refine goIf_b (fun h => ?_) (fun h => ?_) | refine goG_b (fun h => ?_) (fun h => ?_) | refine goTG_b (fun h => ?_) (fun h => ?_) | refine goOG_b (fun h => ?_) (fun h => ?_)) <;> ((try simp only [Bool.not_eq_true', Bool.not_eq_false'] at h); (try simp only [h]); (try simp only [decide_eq_true_eq, decide_eq_false_iff_not, bne_iff_ne, bne_eq_false_iff_eq, beq_iff_eq, beq_eq_false_iff_ne, ne_eq, Int.not_lt, Int.not_le, Bool.and_eq_true, Bool.and_eq_false_iff, Bool.or_eq_true, Bool.or_eq_false_iff] at h)) <;> (try (exfalso; omega))))
                    refine hN (n + 1) (by omega) (by omega) _ ?_
                    simp -implicitDefEqProofs (maxSteps := 1000000) (disch := (first | omega | (simp only [go_sem] <;> omega) | fail)) only [go_sem, ints, bools, mat, reduceIte, Nat.reduceEqDiff, Nat.reduceAdd, Nat.reduceBEq, Nat.reduceMul, Nat.reduceLeDiff, Nat.reduceLT, Nat.reduceMod, Nat.reduceDiv, Nat.reduceSub, reduceCtorEq]
                    rw [hs1]; rfl
                  | true =>
                    rw [hfin, Bool.true_and] at hs1
                    cases hb : F.getD n false with
                    | false =>
                      rw [← hFn, hb] at hs1
                      repeat' (first | simp -implicitDefEqProofs (maxSteps := 1000000) (disch := (first | omega | (simp only [go_sem] <;> omega) | fail)) only [go_sem, ints, bools, mat, reduceIte, Nat.reduceEqDiff, Nat.reduceAdd, Nat.reduceBEq, Nat.reduceMul, Nat.reduceLeDiff, Nat.reduceLT, Nat.reduceMod, Nat.reduceDiv, Nat.reduceSub, reduceCtorEq, hfin, hb] | ((first | refine goIf_b (fun h => ?_) (fun h => ?_) | refine goG_b (fun h => ?_) (fun h => ?_) | refine goTG_b (fun h => ?_) (fun h => ?_) | refine goOG_b (fun h => ?_) (fun h => ?_)) <;> ((try simp only [Bool.not_eq_true', Bool.not_eq_false'] at h); (try simp only [h]); (try simp only [decide_eq_true_eq, decide_eq_false_iff_not, bne_iff_ne, bne_eq_false_iff_eq, beq_iff_eq, beq_eq_false_iff_ne, ne_eq, Int.not_lt, Int.not_le, Bool.and_eq_true, Bool.and_eq_false_iff, Bool.or_eq_true, Bool.or_eq_false_iff] at h)) <;> (try (exfalso; omega))))
                      refine hN (n + 1) (by omega) (by omega) _ ?_
                      simp -implicitDefEqProofs (maxSteps := 1000000) (disch := (first | omega | (simp only [go_sem] <;> omega) | fail)) only [go_sem, ints, bools, mat, reduceIte, Nat.reduceEqDiff, Nat.reduceAdd, Nat.reduceBEq, Nat.reduceMul, Nat.reduceLeDiff, Nat.reduceLT, Nat.reduceMod, Nat.reduceDiv, Nat.reduceSub, reduceCtorEq]
                      rw [hs1]; rfl
                    | true =>
                      rw [← hFn, hb] at hs1
                      repeat' (first | simp -implicitDefEqProofs (maxSteps := 1000000) (disch := (first | omega | (simp only [go_sem] <;> omega) | fail)) only [go_sem, ints, bools, mat, reduceIte, Nat.reduceEqDiff, Nat.reduceAdd, Nat.reduceBEq, Nat.reduceMul, Nat.reduceLeDiff, Nat.reduceLT, Nat.reduceMod, Nat.reduceDiv, Nat.reduceSub, reduceCtorEq, hfin, hb] | ((first | refine goIf_b (fun h => ?_) (fun h => ?_) | refine goG_b (fun h => ?_) (fun h => ?_) | refine goTG_b (fun h => ?_) (fun h => ?_) | refine goOG_b (fun h => ?_) (fun h => ?_)) <;> ((try simp only [Bool.not_eq_true', Bool.not_eq_false'] at h); (try simp only [h]); (try simp only [decide_eq_true_eq, decide_eq_false_iff_not, bne_iff_ne, bne_eq_false_iff_eq, beq_iff_eq, beq_eq_false_iff_ne, ne_eq, Int.not_lt, Int.not_le, Bool.and_eq_true, Bool.and_eq_false_iff, Bool.or_eq_true, Bool.or_eq_false_iff] at h)) <;> (try (exfalso; omega))))
                      all_goals
                        refine hN (n + 1) (by omega) (by omega) _ ?_
                        simp -implicitDefEqProofs (maxSteps := 1000000) (disch := (first | omega | (simp only [go_sem] <;> omega) | fail)) only [go_sem, ints, bools, mat, reduceIte, Nat.reduceEqDiff, Nat.reduceAdd, Nat.reduceBEq, Nat.reduceMul, Nat.reduceLeDiff, Nat.reduceLT, Nat.reduceMod, Nat.reduceDiv, Nat.reduceSub, reduceCtorEq]
                        rw [hs1]
                        first | (rw [show decide (n = m) = true from decide_eq_true (by omega)]; rfl) | (rw [show decide (n = m) = false from decide_eq_false (by omega), hpg]; rfl)
                · have hn0 : n = 8 := by omega
                  subst hn0
                  rw [hff]
                  cases hfin : finB l c m l.length (c.getD k 0) with
                  | false =>
                    repeat' (first | simp -implicitDefEqProofs (maxSteps := 1000000) (disch := (first | omega | (simp only [go_sem] <;> omega) | fail)) only [go_sem, ints, bools, mat, reduceIte, Nat.reduceEqDiff, Nat.reduceAdd, Nat.reduceBEq, Nat.reduceMul, Nat.reduceLeDiff, Nat.reduceLT, Nat.reduceMod, Nat.reduceDiv, Nat.reduceSub, reduceCtorEq, hfin] | ((first | refine goIf_b (fun h => ?_) (fun h => ?_) | refine goG_b (fun h => ?_) (fun h => ?_) | refine goTG_b (fun h => ?_) (fun h => ?_) | refine goOG_b (fun h => ?_) (fun h => ?_)) <;> ((try simp only [Bool.not_eq_true', Bool.not_eq_false'] at h); (try simp only [h]); (try simp only [decide_eq_true_eq, decide_eq_false_iff_not, bne_iff_ne, bne_eq_false_iff_eq, beq_iff_eq, beq_eq_false_iff_ne, ne_eq, Int.not_lt, Int.not_le, Bool.and_eq_true, Bool.and_eq_false_iff, Bool.or_eq_true, Bool.or_eq_false_iff] at h)) <;> (try (exfalso; omega))))
                    refine hK (k + 1) (by omega) (by omega) _ ?_
                    simp -implicitDefEqProofs (maxSteps := 1000000) (disch := (first | omega | (simp only [go_sem] <;> omega) | fail)) only [go_sem, ints, bools, mat, reduceIte, Nat.reduceEqDiff, Nat.reduceAdd, Nat.reduceBEq, Nat.reduceMul, Nat.reduceLeDiff, Nat.reduceLT, Nat.reduceMod, Nat.reduceDiv, Nat.reduceSub, reduceCtorEq]
                    rw [take_one c (by omega), List.filter_append]; simp [hfin, -List.getD_eq_getElem?_getD]; try omega
                  | true =>
                    repeat' (first | simp -implicitDefEqProofs (maxSteps := 1000000) (disch := (first | omega | (simp only [go_sem] <;> omega) | fail)) only [go_sem, ints, bools, mat, reduceIte, Nat.reduceEqDiff, Nat.reduceAdd, Nat.reduceBEq, Nat.reduceMul, Nat.reduceLeDiff, Nat.reduceLT, Nat.reduceMod, Nat.reduceDiv, Nat.reduceSub, reduceCtorEq, hfin] | ((first | refine goIf_b (fun h => ?_) (fun h => ?_) | refine goG_b (fun h => ?_) (fun h => ?_) | refine goTG_b (fun h => ?_) (fun h => ?_) | refine goOG_b (fun h => ?_) (fun h => ?_)) <;> ((try simp only [Bool.not_eq_true', Bool.not_eq_false'] at h); (try simp only [h]); (try simp only [decide_eq_true_eq, decide_eq_false_iff_not, bne_iff_ne, bne_eq_false_iff_eq, beq_iff_eq, beq_eq_false_iff_ne, ne_eq, Int.not_lt, Int.not_le, Bool.and_eq_true, Bool.and_eq_false_iff, Bool.or_eq_true, Bool.or_eq_false_iff] at h)) <;> (try (exfalso; omega))))
                    refine hK (k + 1) (by omega) (by omega) _ ?_
                    simp -implicitDefEqProofs (maxSteps := 1000000) (disch := (first | omega | (simp only [go_sem] <;> omega) | fail)) only [go_sem, ints, bools, mat, reduceIte, Nat.reduceEqDiff, Nat.reduceAdd, Nat.reduceBEq, Nat.reduceMul, Nat.reduceLeDiff, Nat.reduceLT, Nat.reduceMod, Nat.reduceDiv, Nat.reduceSub, reduceCtorEq]
                    rw [take_one c (by omega), List.filter_append]; simp [hfin, -List.getD_eq_getElem?_getD]; try omega
            · have : k = c.length := by omega
              subst this
              refine hM (m + 1) (by omega) (by omega) _ ?_
              simp -implicitDefEqProofs (maxSteps := 1000000) (disch := (first | omega | (simp only [go_sem] <;> omega) | fail)) only [go_sem, ints, bools, mat, reduceIte, Nat.reduceEqDiff, Nat.reduceAdd, Nat.reduceBEq, Nat.reduceMul, Nat.reduceLeDiff, Nat.reduceLT, Nat.reduceMod, Nat.reduceDiv, Nat.reduceSub, reduceCtorEq]
              rw [bsN, if_pos hpv]; simp
        · have hpv : ¬ pvB l c c.length m = true := by rw [← hF m (by omega)]; simp_all
          refine hM (m + 1) (by omega) (by omega) _ ?_
          simp -implicitDefEqProofs (maxSteps := 1000000) (disch := (first | omega | (simp only [go_sem] <;> omega) | fail)) only [go_sem, ints, bools, mat, reduceIte, Nat.reduceEqDiff, Nat.reduceAdd, Nat.reduceBEq, Nat.reduceMul, Nat.reduceLeDiff, Nat.reduceLT, Nat.reduceMod, Nat.reduceDiv, Nat.reduceSub, reduceCtorEq]
          rw [bsN, if_neg hpv, List.append_nil]; rfl
        · have : m = 8 := by omega
          subst this
          rw [bsN_pad 8 (by omega)]
/-- u, and v so many times. -/
def addW (l : List Int) (u v : Int) : Nat → Int
  | 0 => u
  | m + 1 => sumW l (addW l u v m) v
theorem addW_dig {l : List Int} (hz : szs l) (u v : Int) {i : Nat} (h : i < l.length) : ∀ m : Nat, (digM l (addW l u v m)).getD i 0 = ((digM l u).getD i 0 + m * (digM l v).getD i 0) % l.getD i 0
  | 0 => by
    have := dig_lt hz u h
    rw [addW, Int.natCast_zero, Int.zero_mul, Int.add_zero, Int.emod_eq_of_lt this.1 this.2]
  | m + 1 => by
    rw [addW, sumW_dig hz _ v h, addW_dig hz u v h m, Int.emod_add_emod, Int.natCast_add, Int.natCast_one, Int.add_mul, Int.one_mul, Int.add_assoc]
theorem addW_in {l c : List Int} (hs : isSpaceM l = true) (hcc : isCodeM l c = true) (hl : linB l c = true) {u v : Int} (hu : u ∈ c) (hv : v ∈ c) : ∀ m, addW l u v m ∈ c
  | 0 => hu
  | m + 1 => lin_clo hs hcc hl (addW_in hs hcc hl hu hv m) hv
theorem pq {l c : List Int} (hs : isSpaceM l = true) (hl : linB l c = true) {i : Nat} (h : i < l.length) : l.getD i 0 = l.getD 0 0 ∧ 2 ≤ l.getD 0 0 ∧ l.getD 0 0 ≤ 3 := by
  have h1 := (plainM_ok l).1 (lin_plain hl) i h
  have h2 := isSpaceM_szs hs i h
  omega
theorem piv_one {l c : List Int} (hs : isSpaceM l = true) (hcc : isCodeM l c = true) (hl : linB l c = true) {t : Nat} (h : pvB l c c.length t = true) : ∃ b, b ∈ c ∧ (digM l b).getD t 0 = 1 ∧ ∀ j, j < t → (digM l b).getD j 0 = 0 := by
  have ht := pvB_lt h
  rw [pvB, List.any_eq_true] at h
  obtain ⟨k, hk, h⟩ := h
  have hk := List.mem_range.1 hk
  obtain ⟨h1, h2⟩ := fdB_ok.1 h
  have hu := mem_getD hk
  generalize c.getD k 0 = u at h1 h2 hu
  have hz := isSpaceM_szs hs
  have hd := dig_lt hz u ht
  have hq := pq hs hl ht
  by_cases e : (digM l u).getD t 0 = 1
  · exact ⟨u, hu, e, h2⟩
  · refine ⟨addW l u u 1, addW_in hs hcc hl hu hu 1, ?_, fun j hj => ?_⟩
    · have e2 : (digM l u).getD t 0 = 2 := by omega
      rw [addW_dig hz u u ht, e2, hq.1, show l.getD 0 0 = 3 by omega]; rfl
    · rw [addW_dig hz u u (by omega), h2 j hj, Int.mul_zero, Int.add_zero, Int.zero_emod]
/-- Taking away b so often that the digit at t becomes 0. -/
theorem kill {l c : List Int} (hs : isSpaceM l = true) (hcc : isCodeM l c = true) (hl : linB l c = true) {t : Nat} (ht : t < l.length) {u b : Int} (hu : u ∈ c) (hb : b ∈ c) (h1 : (digM l b).getD t 0 = 1) (h2 : ∀ j, j < t → (digM l b).getD j 0 = 0) :
    ∃ m : Nat, addW l u b m ∈ c ∧ (digM l (addW l u b m)).getD t 0 = 0 ∧ ∀ j, j < t → (digM l (addW l u b m)).getD j 0 = (digM l u).getD j 0 := by
  have hz := isSpaceM_szs hs
  have hd := dig_lt hz u ht
  have hq := pq hs hl ht
  refine ⟨(l.getD t 0 - (digM l u).getD t 0).toNat, addW_in hs hcc hl hu hb _, ?_, fun j hj => ?_⟩
  · rw [addW_dig hz u b ht, h1, Int.mul_one, Int.toNat_of_nonneg (by omega), show (digM l u).getD t 0 + (l.getD t 0 - (digM l u).getD t 0) = l.getD t 0 by omega, Int.emod_self]
  · rw [addW_dig hz u b (by omega), h2 j hj, Int.mul_zero, Int.add_zero]
    have := dig_lt hz u (show j < l.length by omega)
    exact Int.emod_eq_of_lt this.1 this.2
theorem fin_ex {l c : List Int} (hs : isSpaceM l = true) (hcc : isCodeM l c = true) (hl : linB l c = true) {i : Nat} (h : pvB l c c.length i = true) : ∀ k, i + 1 + k ≤ l.length →
    ∃ w, w ∈ c ∧ (digM l w).getD i 0 = 1 ∧ (∀ j, j < i → (digM l w).getD j 0 = 0) ∧ ∀ j, i < j → j < i + 1 + k → pvB l c c.length j = true → (digM l w).getD j 0 = 0
  | 0, _ => by
    obtain ⟨b, h1, h2, h3⟩ := piv_one hs hcc hl h
    exact ⟨b, h1, h2, h3, fun j a b => by omega⟩
  | k + 1, hk => by
    obtain ⟨w, h1, h2, h3, h4⟩ := fin_ex hs hcc hl h k (by omega)
    by_cases hp : pvB l c c.length (i + 1 + k) = true
    · obtain ⟨b, b1, b2, b3⟩ := piv_one hs hcc hl hp
      obtain ⟨m, m1, m2, m3⟩ := kill hs hcc hl (by omega) h1 b1 b2 b3
      refine ⟨_, m1, by rw [m3 i (by omega)]; exact h2, fun j hj => by rw [m3 j (by omega)]; exact h3 j hj, fun j hj1 hj2 hjp => ?_⟩
      by_cases e : j = i + 1 + k
      · rw [e]; exact m2
      · rw [m3 j (by omega)]; exact h4 j hj1 (by omega) hjp
    · refine ⟨w, h1, h2, h3, fun j hj1 hj2 hjp => ?_⟩
      by_cases e : j = i + 1 + k
      · rw [e] at hjp; exact (hp hjp).elim
      · exact h4 j hj1 (by omega) hjp
theorem fin_ex2 {l c : List Int} (hs : isSpaceM l = true) (hcc : isCodeM l c = true) (hl : linB l c = true) {i : Nat} (h : pvB l c c.length i = true) : ∃ w, w ∈ c ∧ finB l c i l.length w = true := by
  have hi := pvB_lt h
  obtain ⟨w, h1, h2, h3, h4⟩ := fin_ex hs hcc hl h (l.length - (i + 1)) (by omega)
  refine ⟨w, h1, finB_ok.2 ⟨h2, fun j hj hh => ?_⟩⟩
  rcases hh with hh | ⟨hh, he⟩
  · exact h3 j hh
  · by_cases hji : j < i
    · exact h3 j hji
    · exact h4 j (by omega) (by omega) hh
theorem bsN_mem {l c : List Int} {x : Int} : ∀ m, x ∈ bsN l c m ↔ ∃ i, i < m ∧ pvB l c c.length i = true ∧ x ∈ c ∧ finB l c i l.length x = true
  | 0 => by simp [bsN]
  | m + 1 => by
    rw [bsN, List.mem_append, bsN_mem m]
    constructor
    · rintro (⟨i, a, b⟩ | h)
      · exact ⟨i, by omega, b⟩
      · split at h
        · rename_i hp; obtain ⟨a, b⟩ := List.mem_filter.1 h; exact ⟨m, by omega, hp, a, b⟩
        · cases h
    · rintro ⟨i, a, b, c1, d⟩
      by_cases e : i = m
      · subst e; right; rw [if_pos b]; exact List.mem_filter.2 ⟨c1, d⟩
      · exact .inl ⟨i, by omega, b, c1, d⟩
theorem mul_mod_l (x y q : Int) : ((x % q) * y) % q = (x * y) % q := by
  rw [Int.mul_emod, Int.emod_emod, ← Int.mul_emod]
theorem sN_lin {l : List Int} (hz : szs l) (q : Int) (hq : ∀ i, i < l.length → l.getD i 0 = q) (u b : Int) (m : Nat) (d : List Int) : ∀ n, n ≤ l.length → sN (digM l (addW l u b m)) d n % q = (sN (digM l u) d n + m * sN (digM l b) d n) % q
  | 0, _ => by simp [sN]
  | n + 1, h => by
    rw [sN, sN, sN, addW_dig hz u b (by omega), hq n (by omega), Int.add_emod, sN_lin hz q hq u b m d n (by omega), mul_mod_l, ← Int.add_emod]
    congr 1
    rw [Int.add_mul, Int.mul_add, Int.mul_assoc]; omega
theorem sN_zero {a b : List Int} : ∀ n, (∀ i, i < n → a.getD i 0 = 0) → sN a b n = 0
  | 0, _ => rfl
  | n + 1, h => by rw [sN, sN_zero n fun i hi => h i (by omega), h n (by omega), Int.zero_mul, Int.add_zero]
theorem orth_all {l c : List Int} (hs : isSpaceM l = true) (hcc : isCodeM l c = true) (hl : linB l c = true) (d : List Int) (hb : ∀ t, pvB l c c.length t = true → ∃ b, b ∈ c ∧ (digM l b).getD t 0 = 1 ∧ (∀ j, j < t → (digM l b).getD j 0 = 0) ∧ sN (digM l b) d l.length % l.getD 0 0 = 0) :
    ∀ k t, t + k = l.length → ∀ u, u ∈ c → (∀ j, j < t → (digM l u).getD j 0 = 0) → sN (digM l u) d l.length % l.getD 0 0 = 0
  | 0, t, h, u, hu, hj => by rw [sN_zero _ fun i hi => hj i (by omega), Int.zero_emod]
  | k + 1, t, h, u, hu, hj => by
    by_cases e : (digM l u).getD t 0 = 0
    · exact orth_all hs hcc hl d hb k (t + 1) (by omega) u hu (fun j hj' => by
        by_cases hjt : j = t
        · rw [hjt]; exact e
        · exact hj j (by omega))
    · obtain ⟨b, b1, b2, b3, b4⟩ := hb t (pvB_in hu (fdB_ok.2 ⟨e, hj⟩))
      obtain ⟨m, m1, m2, m3⟩ := kill hs hcc hl (by omega) hu b1 b2 b3
      have ih := orth_all hs hcc hl d hb k (t + 1) (by omega) _ m1 (fun j hj' => by
        by_cases hjt : j = t
        · rw [hjt]; exact m2
        · rw [m3 j (by omega)]; exact hj j (by omega))
      rw [sN_lin (isSpaceM_szs hs) (l.getD 0 0) (fun i hi => (pq hs hl hi).1) u b m d l.length (Nat.le_refl _)] at ih
      rw [← Int.dvd_iff_emod_eq_zero] at ih b4 ⊢
      exact (Int.dvd_add_left (Int.dvd_mul_of_dvd_right b4)).1 ih
/-- The words whose products with all words of a code are 0. -/
def orB (l : List Int) (c : List Int) (w : Int) : Bool := c.all fun u => sN (digM l u) (digM l w) l.length % l.getD 0 0 == 0
abbrev duM (l c : List Int) : List Int := (allW l).filter (orB l c)
theorem orB_bs {l c : List Int} (hs : isSpaceM l = true) (hcc : isCodeM l c = true) (hl : linB l c = true) (w : Int) : orB l (bsM l c) w = orB l c w := by
  have hiff : orB l (bsM l c) w = true ↔ orB l c w = true := by
    simp only [orB, List.all_eq_true, beq_iff_eq]
    constructor
    · intro h u hu
      refine orth_all hs hcc hl (digM l w) (fun t ht => ?_) l.length 0 (by omega) u hu (fun j hj => by omega)
      obtain ⟨b, b1, b2⟩ := fin_ex2 hs hcc hl ht
      obtain ⟨e1, e2⟩ := finB_ok.1 b2
      exact ⟨b, b1, e1, fun j hj => e2 j (by have := pvB_lt ht; omega) (.inl hj), h b ((bsN_mem _).2 ⟨t, pvB_lt ht, ht, b1, b2⟩)⟩
    · intro h u hu
      obtain ⟨_, _, _, hc, _⟩ := (bsN_mem _).1 hu
      exact h u hc
  cases h1 : orB l (bsM l c) w with
  | true => exact (hiff.1 h1).symm
  | false =>
    cases h2 : orB l c w with
    | false => rfl
    | true => rw [hiff.2 h2] at h1; cases h1
theorem d_impl_dual_1_1 (l a b : List Int) (hs : isSpaceM l = true) (ha : a.length = l.length) (hb : b.length = l.length) (ha4 : in4 a) (hb4 : in4 b) :
    Den PA f_impl_dual_1_1 [.d (dig b), .box [ints l], .box ((pad8 a).map dy)] [.any, .any, .any] (.d (db (sN a b l.length % l.getD 0 0 != 0))) := by
  have hn := isSpaceM_n hs
  have ea := pad8_len a
  have eb := pad8_len b
  refine den_go [] l_impl_dual_1_1 ?_
  repeat' (first | simp -implicitDefEqProofs (maxSteps := 1000000) (disch := (first | omega | (simp only [go_sem] <;> omega) | fail)) only [go_sem, ints, bools, mat, reduceIte, Nat.reduceEqDiff, Nat.reduceAdd, Nat.reduceBEq, Nat.reduceMul, Nat.reduceLeDiff, Nat.reduceLT, Nat.reduceMod, Nat.reduceDiv, Nat.reduceSub, reduceCtorEq, c_impl_dual_1_1] | ((first | refine goIf_b (fun h => ?_) (fun h => ?_) | refine goG_b (fun h => ?_) (fun h => ?_) | refine goTG_b (fun h => ?_) (fun h => ?_) | refine goOG_b (fun h => ?_) (fun h => ?_)) <;> ((try simp only [Bool.not_eq_true', Bool.not_eq_false'] at h); (try simp only [h]); (try simp only [decide_eq_true_eq, decide_eq_false_iff_not, bne_iff_ne, bne_eq_false_iff_eq, beq_iff_eq, beq_eq_false_iff_ne, ne_eq, Int.not_lt, Int.not_le, Bool.and_eq_true, Bool.and_eq_false_iff, Bool.or_eq_true, Bool.or_eq_false_iff] at h))))
  first | refine goC_call [.r, .r, .r] (d_impl_products l a b hs (by omega) (by omega) ha4 hb4) ?_ | refine goOC_call [.r, .r, .r] (d_impl_products l a b hs (by omega) (by omega) ha4 hb4) ?_
  repeat' (first | simp -implicitDefEqProofs (maxSteps := 1000000) (disch := (first | omega | (simp only [go_sem] <;> omega) | fail)) only [go_sem, ints, bools, mat, reduceIte, Nat.reduceEqDiff, Nat.reduceAdd, Nat.reduceBEq, Nat.reduceMul, Nat.reduceLeDiff, Nat.reduceLT, Nat.reduceMod, Nat.reduceDiv, Nat.reduceSub, reduceCtorEq] | ((first | refine goIf_b (fun h => ?_) (fun h => ?_) | refine goG_b (fun h => ?_) (fun h => ?_) | refine goTG_b (fun h => ?_) (fun h => ?_) | refine goOG_b (fun h => ?_) (fun h => ?_)) <;> ((try simp only [Bool.not_eq_true', Bool.not_eq_false'] at h); (try simp only [h]); (try simp only [decide_eq_true_eq, decide_eq_false_iff_not, bne_iff_ne, bne_eq_false_iff_eq, beq_iff_eq, beq_eq_false_iff_ne, ne_eq, Int.not_lt, Int.not_le, Bool.and_eq_true, Bool.and_eq_false_iff, Bool.or_eq_true, Bool.or_eq_false_iff] at h))))
  rw [ha]
theorem d_impl_dual_1 (l a : List Int) (bs : List Int) (hs : isSpaceM l = true) (ha : a.length = l.length) (ha4 : in4 a) (hbs : bs.length < 1048577) :
    Den PA f_impl_dual_1 [.d (dig a), .box [.lst 8 (digs (digsM l bs))], .box [ints l]] [.any, .any, .any] (.d (db (!((digsM l bs).any fun b => sN a b l.length % l.getD 0 0 != 0)))) := by
  have hn := isSpaceM_n hs
  have ea := pad8_len a
  have hz := isSpaceM_szs hs
  refine den_go [] l_impl_dual_1 ?_
  repeat' (first | simp -implicitDefEqProofs (maxSteps := 1000000) (disch := (first | omega | (simp only [go_sem] <;> omega) | fail)) only [go_sem, ints, bools, mat, reduceIte, Nat.reduceEqDiff, Nat.reduceAdd, Nat.reduceBEq, Nat.reduceMul, Nat.reduceLeDiff, Nat.reduceLT, Nat.reduceMod, Nat.reduceDiv, Nat.reduceSub, reduceCtorEq, c_impl_dual_1] | ((first | refine goIf_b (fun h => ?_) (fun h => ?_) | refine goG_b (fun h => ?_) (fun h => ?_) | refine goTG_b (fun h => ?_) (fun h => ?_) | refine goOG_b (fun h => ?_) (fun h => ?_)) <;> ((try simp only [Bool.not_eq_true', Bool.not_eq_false'] at h); (try simp only [h]); (try simp only [decide_eq_true_eq, decide_eq_false_iff_not, bne_iff_ne, bne_eq_false_iff_eq, beq_iff_eq, beq_eq_false_iff_ne, ne_eq, Int.not_lt, Int.not_le, Bool.and_eq_true, Bool.and_eq_false_iff, Bool.or_eq_true, Bool.or_eq_false_iff] at h))))
  first | refine goC_call [.r, .g (fnD l.length fun b => sN a b l.length % l.getD 0 0 != 0)] (d_slices_ContainsFunc_dig (digsM l bs) (fun b => sN a b l.length % l.getD 0 0 != 0) _ (fun i hi => by rw [digsM_len] at hi; rw [digsM_get l _ hi]; exact fnD_mk hs (fun b => sN a b l.length % l.getD 0 0 != 0) _) (by rw [digsM_len]; omega)) ?_ | refine goOC_call [.r, .g (fnD l.length fun b => sN a b l.length % l.getD 0 0 != 0)] (d_slices_ContainsFunc_dig (digsM l bs) (fun b => sN a b l.length % l.getD 0 0 != 0) _ (fun i hi => by rw [digsM_len] at hi; rw [digsM_get l _ hi]; exact fnD_mk hs (fun b => sN a b l.length % l.getD 0 0 != 0) _) (by rw [digsM_len]; omega)) ?_
  repeat' (first | simp -implicitDefEqProofs (maxSteps := 1000000) (disch := (first | omega | (simp only [go_sem] <;> omega) | fail)) only [go_sem, ints, bools, mat, reduceIte, Nat.reduceEqDiff, Nat.reduceAdd, Nat.reduceBEq, Nat.reduceMul, Nat.reduceLeDiff, Nat.reduceLT, Nat.reduceMod, Nat.reduceDiv, Nat.reduceSub, reduceCtorEq] | ((first | refine goIf_b (fun h => ?_) (fun h => ?_) | refine goG_b (fun h => ?_) (fun h => ?_) | refine goTG_b (fun h => ?_) (fun h => ?_) | refine goOG_b (fun h => ?_) (fun h => ?_)) <;> ((try simp only [Bool.not_eq_true', Bool.not_eq_false'] at h); (try simp only [h]); (try simp only [decide_eq_true_eq, decide_eq_false_iff_not, bne_iff_ne, bne_eq_false_iff_eq, beq_iff_eq, beq_eq_false_iff_ne, ne_eq, Int.not_lt, Int.not_le, Bool.and_eq_true, Bool.and_eq_false_iff, Bool.or_eq_true, Bool.or_eq_false_iff] at h))))
  refine chk_intro (fnOK_mk (d_impl_dual_1_1 l a a hs ha ha ha4 ha4).1 [[ints l], (pad8 a).map dy] rfl fun ds r hgg => ?_) ?_
  · obtain ⟨b, hb, hb4, rfl, rfl⟩ := hgg
    exact ⟨_, d_impl_dual_1_1 l a b hs ha hb ha4 hb4⟩
  repeat' (first | simp -implicitDefEqProofs (maxSteps := 1000000) (disch := (first | omega | (simp only [go_sem] <;> omega) | fail)) only [go_sem, ints, bools, mat, reduceIte, Nat.reduceEqDiff, Nat.reduceAdd, Nat.reduceBEq, Nat.reduceMul, Nat.reduceLeDiff, Nat.reduceLT, Nat.reduceMod, Nat.reduceDiv, Nat.reduceSub, reduceCtorEq] | ((first | refine goIf_b (fun h => ?_) (fun h => ?_) | refine goG_b (fun h => ?_) (fun h => ?_) | refine goTG_b (fun h => ?_) (fun h => ?_) | refine goOG_b (fun h => ?_) (fun h => ?_)) <;> ((try simp only [Bool.not_eq_true', Bool.not_eq_false'] at h); (try simp only [h]); (try simp only [decide_eq_true_eq, decide_eq_false_iff_not, bne_iff_ne, bne_eq_false_iff_eq, beq_iff_eq, beq_eq_false_iff_ne, ne_eq, Int.not_lt, Int.not_le, Bool.and_eq_true, Bool.and_eq_false_iff, Bool.or_eq_true, Bool.or_eq_false_iff] at h))))
/-- Whether the products with all words of a list are 0. -/
def duP (l c a : List Int) : Bool := !((digsM l c).any fun b => sN a b l.length % l.getD 0 0 != 0)
theorem d_impl_dual_1p (l a : List Int) (bs : List Int) (hs : isSpaceM l = true) (ha : a.length = l.length) (ha4 : in4 a) (hbs : bs.length < 1048577) :
    Den PA f_impl_dual_1 [.d (dig a), .box [.lst 8 (digs (digsM l bs))], .box [ints l]] [.any, .any, .any] (.d (db (duP l bs a))) := d_impl_dual_1 l a bs hs ha ha4 hbs
theorem orB_any (l c : List Int) (w : Int) : (!((digsM l c).any fun b => sN (digM l w) b l.length % l.getD 0 0 != 0)) = orB l c w := by
  rw [Bool.eq_iff_iff]
  simp only [orB, Bool.not_eq_true', List.any_eq_false, List.all_eq_true, beq_iff_eq, bne_iff_ne, Decidable.not_not, digsM]
  constructor
  · intro h u hu
    rw [sN_comm]; exact h _ (List.mem_map.2 ⟨u, hu, rfl⟩)
  · intro h b hb
    obtain ⟨u, hu, rfl⟩ := List.mem_map.1 hb
    rw [sN_comm]; exact h u hu
theorem d_impl_dual (l c : List Int) (hs : isSpaceM l = true) (hcc : isCodeM l c = true) (hl : linB l c = true) (hc : c.length < 1048577) : Den PA f_impl_dual [.d (.agg [ints l]), .d (ints c)] [.any, .any] (.own 1 ((duM l c).map di)) := by
  have hn := isSpaceM_n hs
  have hz := isSpaceM_szs hs
  have hcs := code_small hs hcc
  have hbl : (bsM l c).length ≤ l.length := bsN_len hs hcc hl l.length
  have e : duM l c = thoseM l (duP l (bsM l c)) := by
    unfold duM thoseM
    congr 1; funext w
    rw [← orB_bs hs hcc hl]; exact (orB_any l (bsM l c) w).symm
  have hbm : ∀ j, j < (bsM l c).length → 0 ≤ (bsM l c).getD j 0 ∧ (bsM l c).getD j 0 < 1000000000000 := fun j hj => by
    obtain ⟨_, _, _, h, _⟩ := (bsN_mem _).1 (mem_getD hj)
    have h1 : 0 ≤ (bsM l c).getD j 0 ∧ (bsM l c).getD j 0 < prodM l := code_mem hcc h
    have h2 := isSpaceM_prod hs
    omega
  refine den_go [] l_impl_dual ?_
  repeat' (first | simp -implicitDefEqProofs (maxSteps := 1000000) (disch := (first | omega | (simp only [go_sem] <;> omega) | fail)) only [go_sem, ints, bools, mat, reduceIte, Nat.reduceEqDiff, Nat.reduceAdd, Nat.reduceBEq, Nat.reduceMul, Nat.reduceLeDiff, Nat.reduceLT, Nat.reduceMod, Nat.reduceDiv, Nat.reduceSub, reduceCtorEq, c_impl_dual] | ((first | refine goIf_b (fun h => ?_) (fun h => ?_) | refine goG_b (fun h => ?_) (fun h => ?_) | refine goTG_b (fun h => ?_) (fun h => ?_) | refine goOG_b (fun h => ?_) (fun h => ?_)) <;> ((try simp only [Bool.not_eq_true', Bool.not_eq_false'] at h); (try simp only [h]); (try simp only [decide_eq_true_eq, decide_eq_false_iff_not, bne_iff_ne, bne_eq_false_iff_eq, beq_iff_eq, beq_eq_false_iff_ne, ne_eq, Int.not_lt, Int.not_le, Bool.and_eq_true, Bool.and_eq_false_iff, Bool.or_eq_true, Bool.or_eq_false_iff] at h))))
  rw [goS_two]
  refine ⟨?_, ?_⟩
  · repeat' (first | simp -implicitDefEqProofs (maxSteps := 1000000) (disch := (first | omega | (simp only [go_sem] <;> omega) | fail)) only [go_sem, ints, bools, mat, reduceIte, Nat.reduceEqDiff, Nat.reduceAdd, Nat.reduceBEq, Nat.reduceMul, Nat.reduceLeDiff, Nat.reduceLT, Nat.reduceMod, Nat.reduceDiv, Nat.reduceSub, reduceCtorEq] | ((first | refine goIf_b (fun h => ?_) (fun h => ?_) | refine goG_b (fun h => ?_) (fun h => ?_) | refine goTG_b (fun h => ?_) (fun h => ?_) | refine goOG_b (fun h => ?_) (fun h => ?_)) <;> ((try simp only [Bool.not_eq_true', Bool.not_eq_false'] at h); (try simp only [h]); (try simp only [decide_eq_true_eq, decide_eq_false_iff_not, bne_iff_ne, bne_eq_false_iff_eq, beq_iff_eq, beq_eq_false_iff_ne, ne_eq, Int.not_lt, Int.not_le, Bool.and_eq_true, Bool.and_eq_false_iff, Bool.or_eq_true, Bool.or_eq_false_iff] at h))))
    first | refine goC_call [.r, .r] (d_impl_basis l c hs hcc hl hc) ?_ | refine goOC_call [.r, .r] (d_impl_basis l c hs hcc hl hc) ?_
    repeat' (first | simp -implicitDefEqProofs (maxSteps := 1000000) (disch := (first | omega | (simp only [go_sem] <;> omega) | fail)) only [go_sem, ints, bools, mat, reduceIte, Nat.reduceEqDiff, Nat.reduceAdd, Nat.reduceBEq, Nat.reduceMul, Nat.reduceLeDiff, Nat.reduceLT, Nat.reduceMod, Nat.reduceDiv, Nat.reduceSub, reduceCtorEq] | ((first | refine goIf_b (fun h => ?_) (fun h => ?_) | refine goG_b (fun h => ?_) (fun h => ?_) | refine goTG_b (fun h => ?_) (fun h => ?_) | refine goOG_b (fun h => ?_) (fun h => ?_)) <;> ((try simp only [Bool.not_eq_true', Bool.not_eq_false'] at h); (try simp only [h]); (try simp only [decide_eq_true_eq, decide_eq_false_iff_not, bne_iff_ne, bne_eq_false_iff_eq, beq_iff_eq, beq_eq_false_iff_ne, ne_eq, Int.not_lt, Int.not_le, Bool.and_eq_true, Bool.and_eq_false_iff, Bool.or_eq_true, Bool.or_eq_false_iff] at h))))
    rw [goS_two]
    refine ⟨?_, ?_⟩
    · repeat' (first | simp -implicitDefEqProofs (maxSteps := 1000000) (disch := (first | omega | (simp only [go_sem] <;> omega) | fail)) only [go_sem, ints, bools, mat, reduceIte, Nat.reduceEqDiff, Nat.reduceAdd, Nat.reduceBEq, Nat.reduceMul, Nat.reduceLeDiff, Nat.reduceLT, Nat.reduceMod, Nat.reduceDiv, Nat.reduceSub, reduceCtorEq] | ((first | refine goIf_b (fun h => ?_) (fun h => ?_) | refine goG_b (fun h => ?_) (fun h => ?_) | refine goTG_b (fun h => ?_) (fun h => ?_) | refine goOG_b (fun h => ?_) (fun h => ?_)) <;> ((try simp only [Bool.not_eq_true', Bool.not_eq_false'] at h); (try simp only [h]); (try simp only [decide_eq_true_eq, decide_eq_false_iff_not, bne_iff_ne, bne_eq_false_iff_eq, beq_iff_eq, beq_eq_false_iff_ne, ne_eq, Int.not_lt, Int.not_le, Bool.and_eq_true, Bool.and_eq_false_iff, Bool.or_eq_true, Bool.or_eq_false_iff] at h))))
      first | refine goC_call [.r, .r] (d_impl_digitsOfAll l hs (bsM l c) (by omega) hbm) ?_ | refine goOC_call [.r, .r] (d_impl_digitsOfAll l hs (bsM l c) (by omega) hbm) ?_
      repeat' (first | simp -implicitDefEqProofs (maxSteps := 1000000) (disch := (first | omega | (simp only [go_sem] <;> omega) | fail)) only [go_sem, ints, bools, mat, reduceIte, Nat.reduceEqDiff, Nat.reduceAdd, Nat.reduceBEq, Nat.reduceMul, Nat.reduceLeDiff, Nat.reduceLT, Nat.reduceMod, Nat.reduceDiv, Nat.reduceSub, reduceCtorEq] | ((first | refine goIf_b (fun h => ?_) (fun h => ?_) | refine goG_b (fun h => ?_) (fun h => ?_) | refine goTG_b (fun h => ?_) (fun h => ?_) | refine goOG_b (fun h => ?_) (fun h => ?_)) <;> ((try simp only [Bool.not_eq_true', Bool.not_eq_false'] at h); (try simp only [h]); (try simp only [decide_eq_true_eq, decide_eq_false_iff_not, bne_iff_ne, bne_eq_false_iff_eq, beq_iff_eq, beq_eq_false_iff_ne, ne_eq, Int.not_lt, Int.not_le, Bool.and_eq_true, Bool.and_eq_false_iff, Bool.or_eq_true, Bool.or_eq_false_iff] at h))))
      first | refine goC_call [.r, .g (fnD l.length (duP l (bsM l c)))] (d_impl_those l hs (duP l (bsM l c)) _ (fnD_mk hs (duP l (bsM l c)))) ?_ | refine goOC_call [.r, .g (fnD l.length (duP l (bsM l c)))] (d_impl_those l hs (duP l (bsM l c)) _ (fnD_mk hs (duP l (bsM l c)))) ?_
      repeat' (first | simp -implicitDefEqProofs (maxSteps := 1000000) (disch := (first | omega | (simp only [go_sem] <;> omega) | fail)) only [go_sem, ints, bools, mat, reduceIte, Nat.reduceEqDiff, Nat.reduceAdd, Nat.reduceBEq, Nat.reduceMul, Nat.reduceLeDiff, Nat.reduceLT, Nat.reduceMod, Nat.reduceDiv, Nat.reduceSub, reduceCtorEq] | ((first | refine goIf_b (fun h => ?_) (fun h => ?_) | refine goG_b (fun h => ?_) (fun h => ?_) | refine goTG_b (fun h => ?_) (fun h => ?_) | refine goOG_b (fun h => ?_) (fun h => ?_)) <;> ((try simp only [Bool.not_eq_true', Bool.not_eq_false'] at h); (try simp only [h]); (try simp only [decide_eq_true_eq, decide_eq_false_iff_not, bne_iff_ne, bne_eq_false_iff_eq, beq_iff_eq, beq_eq_false_iff_ne, ne_eq, Int.not_lt, Int.not_le, Bool.and_eq_true, Bool.and_eq_false_iff, Bool.or_eq_true, Bool.or_eq_false_iff] at h))))
      refine chk_intro (fnOK_mk (d_impl_dual_1 l (digM l 0) (bsM l c) hs (digM_len l 0) (digM_bnd 0 hz) (by omega)).1 [[.lst 8 (digs (digsM l (bsM l c)))], [ints l]] (by simp -implicitDefEqProofs (maxSteps := 1000000) (disch := (first | omega | (simp only [go_sem] <;> omega) | fail)) only [go_sem, ints, bools, mat, reduceIte, Nat.reduceEqDiff, Nat.reduceAdd, Nat.reduceBEq, Nat.reduceMul, Nat.reduceLeDiff, Nat.reduceLT, Nat.reduceMod, Nat.reduceDiv, Nat.reduceSub, reduceCtorEq]) fun ds r hgg => ?_) ?_
      · obtain ⟨a, ha, ha4, rfl, rfl⟩ := hgg
        exact ⟨_, d_impl_dual_1p l a (bsM l c) hs ha ha4 (by omega)⟩
      repeat' (first | simp -implicitDefEqProofs (maxSteps := 1000000) (disch := (first | omega | (simp only [go_sem] <;> omega) | fail)) only [go_sem, ints, bools, mat, reduceIte, Nat.reduceEqDiff, Nat.reduceAdd, Nat.reduceBEq, Nat.reduceMul, Nat.reduceLeDiff, Nat.reduceLT, Nat.reduceMod, Nat.reduceDiv, Nat.reduceSub, reduceCtorEq] | ((first | refine goIf_b (fun h => ?_) (fun h => ?_) | refine goG_b (fun h => ?_) (fun h => ?_) | refine goTG_b (fun h => ?_) (fun h => ?_) | refine goOG_b (fun h => ?_) (fun h => ?_)) <;> ((try simp only [Bool.not_eq_true', Bool.not_eq_false'] at h); (try simp only [h]); (try simp only [decide_eq_true_eq, decide_eq_false_iff_not, bne_iff_ne, bne_eq_false_iff_eq, beq_iff_eq, beq_eq_false_iff_ne, ne_eq, Int.not_lt, Int.not_le, Bool.and_eq_true, Bool.and_eq_false_iff, Bool.or_eq_true, Bool.or_eq_false_iff] at h))))
      rw [e]
    · repeat' (first | simp -implicitDefEqProofs (maxSteps := 1000000) (disch := (first | omega | (simp only [go_sem] <;> omega) | fail)) only [go_sem, ints, bools, mat, reduceIte, Nat.reduceEqDiff, Nat.reduceAdd, Nat.reduceBEq, Nat.reduceMul, Nat.reduceLeDiff, Nat.reduceLT, Nat.reduceMod, Nat.reduceDiv, Nat.reduceSub, reduceCtorEq] | ((first | refine goIf_b (fun h => ?_) (fun h => ?_) | refine goG_b (fun h => ?_) (fun h => ?_) | refine goTG_b (fun h => ?_) (fun h => ?_) | refine goOG_b (fun h => ?_) (fun h => ?_)) <;> ((try simp only [Bool.not_eq_true', Bool.not_eq_false'] at h); (try simp only [h]); (try simp only [decide_eq_true_eq, decide_eq_false_iff_not, bne_iff_ne, bne_eq_false_iff_eq, beq_iff_eq, beq_eq_false_iff_ne, ne_eq, Int.not_lt, Int.not_le, Bool.and_eq_true, Bool.and_eq_false_iff, Bool.or_eq_true, Bool.or_eq_false_iff] at h))))
      first | refine goC_call [.r, .r] (d_impl_digitsOfAll l hs (bsM l c) (by omega) hbm) ?_ | refine goOC_call [.r, .r] (d_impl_digitsOfAll l hs (bsM l c) (by omega) hbm) ?_
      repeat' (first | simp -implicitDefEqProofs (maxSteps := 1000000) (disch := (first | omega | (simp only [go_sem] <;> omega) | fail)) only [go_sem, ints, bools, mat, reduceIte, Nat.reduceEqDiff, Nat.reduceAdd, Nat.reduceBEq, Nat.reduceMul, Nat.reduceLeDiff, Nat.reduceLT, Nat.reduceMod, Nat.reduceDiv, Nat.reduceSub, reduceCtorEq] | ((first | refine goIf_b (fun h => ?_) (fun h => ?_) | refine goG_b (fun h => ?_) (fun h => ?_) | refine goTG_b (fun h => ?_) (fun h => ?_) | refine goOG_b (fun h => ?_) (fun h => ?_)) <;> ((try simp only [Bool.not_eq_true', Bool.not_eq_false'] at h); (try simp only [h]); (try simp only [decide_eq_true_eq, decide_eq_false_iff_not, bne_iff_ne, bne_eq_false_iff_eq, beq_iff_eq, beq_eq_false_iff_ne, ne_eq, Int.not_lt, Int.not_le, Bool.and_eq_true, Bool.and_eq_false_iff, Bool.or_eq_true, Bool.or_eq_false_iff] at h))))
      first | refine goC_call [.r, .g (fnD l.length (duP l (bsM l c)))] (d_impl_those l hs (duP l (bsM l c)) _ (fnD_mk hs (duP l (bsM l c)))) ?_ | refine goOC_call [.r, .g (fnD l.length (duP l (bsM l c)))] (d_impl_those l hs (duP l (bsM l c)) _ (fnD_mk hs (duP l (bsM l c)))) ?_
      repeat' (first | simp -implicitDefEqProofs (maxSteps := 1000000) (disch := (first | omega | (simp only [go_sem] <;> omega) | fail)) only [go_sem, ints, bools, mat, reduceIte, Nat.reduceEqDiff, Nat.reduceAdd, Nat.reduceBEq, Nat.reduceMul, Nat.reduceLeDiff, Nat.reduceLT, Nat.reduceMod, Nat.reduceDiv, Nat.reduceSub, reduceCtorEq] | ((first | refine goIf_b (fun h => ?_) (fun h => ?_) | refine goG_b (fun h => ?_) (fun h => ?_) | refine goTG_b (fun h => ?_) (fun h => ?_) | refine goOG_b (fun h => ?_) (fun h => ?_)) <;> ((try simp only [Bool.not_eq_true', Bool.not_eq_false'] at h); (try simp only [h]); (try simp only [decide_eq_true_eq, decide_eq_false_iff_not, bne_iff_ne, bne_eq_false_iff_eq, beq_iff_eq, beq_eq_false_iff_ne, ne_eq, Int.not_lt, Int.not_le, Bool.and_eq_true, Bool.and_eq_false_iff, Bool.or_eq_true, Bool.or_eq_false_iff] at h))))
      refine chk_intro (fnOK_mk (d_impl_dual_1 l (digM l 0) (bsM l c) hs (digM_len l 0) (digM_bnd 0 hz) (by omega)).1 [[.lst 8 (digs (digsM l (bsM l c)))], [ints l]] (by simp -implicitDefEqProofs (maxSteps := 1000000) (disch := (first | omega | (simp only [go_sem] <;> omega) | fail)) only [go_sem, ints, bools, mat, reduceIte, Nat.reduceEqDiff, Nat.reduceAdd, Nat.reduceBEq, Nat.reduceMul, Nat.reduceLeDiff, Nat.reduceLT, Nat.reduceMod, Nat.reduceDiv, Nat.reduceSub, reduceCtorEq]) fun ds r hgg => ?_) ?_
      · obtain ⟨a, ha, ha4, rfl, rfl⟩ := hgg
        exact ⟨_, d_impl_dual_1p l a (bsM l c) hs ha ha4 (by omega)⟩
      repeat' (first | simp -implicitDefEqProofs (maxSteps := 1000000) (disch := (first | omega | (simp only [go_sem] <;> omega) | fail)) only [go_sem, ints, bools, mat, reduceIte, Nat.reduceEqDiff, Nat.reduceAdd, Nat.reduceBEq, Nat.reduceMul, Nat.reduceLeDiff, Nat.reduceLT, Nat.reduceMod, Nat.reduceDiv, Nat.reduceSub, reduceCtorEq] | ((first | refine goIf_b (fun h => ?_) (fun h => ?_) | refine goG_b (fun h => ?_) (fun h => ?_) | refine goTG_b (fun h => ?_) (fun h => ?_) | refine goOG_b (fun h => ?_) (fun h => ?_)) <;> ((try simp only [Bool.not_eq_true', Bool.not_eq_false'] at h); (try simp only [h]); (try simp only [decide_eq_true_eq, decide_eq_false_iff_not, bne_iff_ne, bne_eq_false_iff_eq, beq_iff_eq, beq_eq_false_iff_ne, ne_eq, Int.not_lt, Int.not_le, Bool.and_eq_true, Bool.and_eq_false_iff, Bool.or_eq_true, Bool.or_eq_false_iff] at h))))
      rw [e]
  · repeat' (first | simp -implicitDefEqProofs (maxSteps := 1000000) (disch := (first | omega | (simp only [go_sem] <;> omega) | fail)) only [go_sem, ints, bools, mat, reduceIte, Nat.reduceEqDiff, Nat.reduceAdd, Nat.reduceBEq, Nat.reduceMul, Nat.reduceLeDiff, Nat.reduceLT, Nat.reduceMod, Nat.reduceDiv, Nat.reduceSub, reduceCtorEq] | ((first | refine goIf_b (fun h => ?_) (fun h => ?_) | refine goG_b (fun h => ?_) (fun h => ?_) | refine goTG_b (fun h => ?_) (fun h => ?_) | refine goOG_b (fun h => ?_) (fun h => ?_)) <;> ((try simp only [Bool.not_eq_true', Bool.not_eq_false'] at h); (try simp only [h]); (try simp only [decide_eq_true_eq, decide_eq_false_iff_not, bne_iff_ne, bne_eq_false_iff_eq, beq_iff_eq, beq_eq_false_iff_ne, ne_eq, Int.not_lt, Int.not_le, Bool.and_eq_true, Bool.and_eq_false_iff, Bool.or_eq_true, Bool.or_eq_false_iff] at h))))
    first | refine goC_call [.r, .r] (d_impl_basis l c hs hcc hl hc) ?_ | refine goOC_call [.r, .r] (d_impl_basis l c hs hcc hl hc) ?_
    repeat' (first | simp -implicitDefEqProofs (maxSteps := 1000000) (disch := (first | omega | (simp only [go_sem] <;> omega) | fail)) only [go_sem, ints, bools, mat, reduceIte, Nat.reduceEqDiff, Nat.reduceAdd, Nat.reduceBEq, Nat.reduceMul, Nat.reduceLeDiff, Nat.reduceLT, Nat.reduceMod, Nat.reduceDiv, Nat.reduceSub, reduceCtorEq] | ((first | refine goIf_b (fun h => ?_) (fun h => ?_) | refine goG_b (fun h => ?_) (fun h => ?_) | refine goTG_b (fun h => ?_) (fun h => ?_) | refine goOG_b (fun h => ?_) (fun h => ?_)) <;> ((try simp only [Bool.not_eq_true', Bool.not_eq_false'] at h); (try simp only [h]); (try simp only [decide_eq_true_eq, decide_eq_false_iff_not, bne_iff_ne, bne_eq_false_iff_eq, beq_iff_eq, beq_eq_false_iff_ne, ne_eq, Int.not_lt, Int.not_le, Bool.and_eq_true, Bool.and_eq_false_iff, Bool.or_eq_true, Bool.or_eq_false_iff] at h))))
    first | refine goC_call [.r, .r] (d_impl_digitsOfAll l hs (bsM l c) (by omega) hbm) ?_ | refine goOC_call [.r, .r] (d_impl_digitsOfAll l hs (bsM l c) (by omega) hbm) ?_
    repeat' (first | simp -implicitDefEqProofs (maxSteps := 1000000) (disch := (first | omega | (simp only [go_sem] <;> omega) | fail)) only [go_sem, ints, bools, mat, reduceIte, Nat.reduceEqDiff, Nat.reduceAdd, Nat.reduceBEq, Nat.reduceMul, Nat.reduceLeDiff, Nat.reduceLT, Nat.reduceMod, Nat.reduceDiv, Nat.reduceSub, reduceCtorEq] | ((first | refine goIf_b (fun h => ?_) (fun h => ?_) | refine goG_b (fun h => ?_) (fun h => ?_) | refine goTG_b (fun h => ?_) (fun h => ?_) | refine goOG_b (fun h => ?_) (fun h => ?_)) <;> ((try simp only [Bool.not_eq_true', Bool.not_eq_false'] at h); (try simp only [h]); (try simp only [decide_eq_true_eq, decide_eq_false_iff_not, bne_iff_ne, bne_eq_false_iff_eq, beq_iff_eq, beq_eq_false_iff_ne, ne_eq, Int.not_lt, Int.not_le, Bool.and_eq_true, Bool.and_eq_false_iff, Bool.or_eq_true, Bool.or_eq_false_iff] at h))))
    first | refine goC_call [.r, .g (fnD l.length (duP l (bsM l c)))] (d_impl_those l hs (duP l (bsM l c)) _ (fnD_mk hs (duP l (bsM l c)))) ?_ | refine goOC_call [.r, .g (fnD l.length (duP l (bsM l c)))] (d_impl_those l hs (duP l (bsM l c)) _ (fnD_mk hs (duP l (bsM l c)))) ?_
    repeat' (first | simp -implicitDefEqProofs (maxSteps := 1000000) (disch := (first | omega | (simp only [go_sem] <;> omega) | fail)) only [go_sem, ints, bools, mat, reduceIte, Nat.reduceEqDiff, Nat.reduceAdd, Nat.reduceBEq, Nat.reduceMul, Nat.reduceLeDiff, Nat.reduceLT, Nat.reduceMod, Nat.reduceDiv, Nat.reduceSub, reduceCtorEq] | ((first | refine goIf_b (fun h => ?_) (fun h => ?_) | refine goG_b (fun h => ?_) (fun h => ?_) | refine goTG_b (fun h => ?_) (fun h => ?_) | refine goOG_b (fun h => ?_) (fun h => ?_)) <;> ((try simp only [Bool.not_eq_true', Bool.not_eq_false'] at h); (try simp only [h]); (try simp only [decide_eq_true_eq, decide_eq_false_iff_not, bne_iff_ne, bne_eq_false_iff_eq, beq_iff_eq, beq_eq_false_iff_ne, ne_eq, Int.not_lt, Int.not_le, Bool.and_eq_true, Bool.and_eq_false_iff, Bool.or_eq_true, Bool.or_eq_false_iff] at h))))
    refine chk_intro (fnOK_mk (d_impl_dual_1 l (digM l 0) (bsM l c) hs (digM_len l 0) (digM_bnd 0 hz) (by omega)).1 [[.lst 8 (digs (digsM l (bsM l c)))], [ints l]] (by simp -implicitDefEqProofs (maxSteps := 1000000) (disch := (first | omega | (simp only [go_sem] <;> omega) | fail)) only [go_sem, ints, bools, mat, reduceIte, Nat.reduceEqDiff, Nat.reduceAdd, Nat.reduceBEq, Nat.reduceMul, Nat.reduceLeDiff, Nat.reduceLT, Nat.reduceMod, Nat.reduceDiv, Nat.reduceSub, reduceCtorEq]) fun ds r hgg => ?_) ?_
    · obtain ⟨a, ha, ha4, rfl, rfl⟩ := hgg
      exact ⟨_, d_impl_dual_1p l a (bsM l c) hs ha ha4 (by omega)⟩
    repeat' (first | simp -implicitDefEqProofs (maxSteps := 1000000) (disch := (first | omega | (simp only [go_sem] <;> omega) | fail)) only [go_sem, ints, bools, mat, reduceIte, Nat.reduceEqDiff, Nat.reduceAdd, Nat.reduceBEq, Nat.reduceMul, Nat.reduceLeDiff, Nat.reduceLT, Nat.reduceMod, Nat.reduceDiv, Nat.reduceSub, reduceCtorEq] | ((first | refine goIf_b (fun h => ?_) (fun h => ?_) | refine goG_b (fun h => ?_) (fun h => ?_) | refine goTG_b (fun h => ?_) (fun h => ?_) | refine goOG_b (fun h => ?_) (fun h => ?_)) <;> ((try simp only [Bool.not_eq_true', Bool.not_eq_false'] at h); (try simp only [h]); (try simp only [decide_eq_true_eq, decide_eq_false_iff_not, bne_iff_ne, bne_eq_false_iff_eq, beq_iff_eq, beq_eq_false_iff_ne, ne_eq, Int.not_lt, Int.not_le, Bool.and_eq_true, Bool.and_eq_false_iff, Bool.or_eq_true, Bool.or_eq_false_iff] at h))))
    rw [e]
theorem d_spec_l05Dual (l c : List Int) (hs : isSpaceM l = true) (hcc : isCodeM l c = true) (hc : c.length < 1048577) : Den PA f_spec_l05Dual [.d (.agg [ints l]), .d (ints c)] [.any, .any] (.own 1 ((duM l c).map di)) := by
  have hn := isSpaceM_n hs
  have hz := isSpaceM_szs hs
  have hcs := code_small hs hcc
  have hp := isSpaceM_prod hs
  have hp1 := prodM_pos hz
  have hal := allW_len l
  refine den_go [] l_spec_l05Dual ?_
  repeat' (first | simp -implicitDefEqProofs (maxSteps := 1000000) (disch := (first | omega | (simp only [go_sem] <;> omega) | fail)) only [go_sem, ints, bools, mat, reduceIte, Nat.reduceEqDiff, Nat.reduceAdd, Nat.reduceBEq, Nat.reduceMul, Nat.reduceLeDiff, Nat.reduceLT, Nat.reduceMod, Nat.reduceDiv, Nat.reduceSub, reduceCtorEq, c_spec_l05Dual] | ((first | refine goIf_b (fun h => ?_) (fun h => ?_) | refine goG_b (fun h => ?_) (fun h => ?_) | refine goTG_b (fun h => ?_) (fun h => ?_) | refine goOG_b (fun h => ?_) (fun h => ?_)) <;> ((try simp only [Bool.not_eq_true', Bool.not_eq_false'] at h); (try simp only [h]); (try simp only [decide_eq_true_eq, decide_eq_false_iff_not, bne_iff_ne, bne_eq_false_iff_eq, beq_iff_eq, beq_eq_false_iff_ne, ne_eq, Int.not_lt, Int.not_le, Bool.and_eq_true, Bool.and_eq_false_iff, Bool.or_eq_true, Bool.or_eq_false_iff] at h))))
  refine go_loop (fun (w : Nat) => ⟨[(1, .d (ints c)), (2, .ref 0 0), (5, .sl 1 0 (((allW l).take w).filter (orB l c)).length 1), (6, .d (di w))], [some (.var [ints l]), some (.dat 1 ((((allW l).take w).filter (orB l c)).map di))]⟩) (fun w => w ≤ (prodM l).toNat) (fun w => (prodM l).toNat - w) 0 ?_ ?_ ?_
  · (simp -implicitDefEqProofs (maxSteps := 1000000) (disch := (first | omega | (simp only [go_sem] <;> omega) | fail)) only [go_sem, ints, bools, mat, reduceIte, Nat.reduceEqDiff, Nat.reduceAdd, Nat.reduceBEq, Nat.reduceMul, Nat.reduceLeDiff, Nat.reduceLT, Nat.reduceMod, Nat.reduceDiv, Nat.reduceSub, reduceCtorEq] <;> rfl)
  · simp
  · rintro w hw J hJ
    have hfl := filter_len_le (orB l c) ((allW l).take w) w (by simp; omega)
    repeat' (first | simp -implicitDefEqProofs (maxSteps := 1000000) (disch := (first | omega | (simp only [go_sem] <;> omega) | fail)) only [go_sem, ints, bools, mat, reduceIte, Nat.reduceEqDiff, Nat.reduceAdd, Nat.reduceBEq, Nat.reduceMul, Nat.reduceLeDiff, Nat.reduceLT, Nat.reduceMod, Nat.reduceDiv, Nat.reduceSub, reduceCtorEq] | ((first | refine goIf_b (fun h => ?_) (fun h => ?_) | refine goG_b (fun h => ?_) (fun h => ?_) | refine goTG_b (fun h => ?_) (fun h => ?_) | refine goOG_b (fun h => ?_) (fun h => ?_)) <;> ((try simp only [Bool.not_eq_true', Bool.not_eq_false'] at h); (try simp only [h]); (try simp only [decide_eq_true_eq, decide_eq_false_iff_not, bne_iff_ne, bne_eq_false_iff_eq, beq_iff_eq, beq_eq_false_iff_ne, ne_eq, Int.not_lt, Int.not_le, Bool.and_eq_true, Bool.and_eq_false_iff, Bool.or_eq_true, Bool.or_eq_false_iff] at h))))
    first | refine goC_call [.r] (d_spec_l01N l (by omega) (isSpaceM_q hs)) ?_ | refine goOC_call [.r] (d_spec_l01N l (by omega) (isSpaceM_q hs)) ?_
    repeat' (first | simp -implicitDefEqProofs (maxSteps := 1000000) (disch := (first | omega | (simp only [go_sem] <;> omega) | fail)) only [go_sem, ints, bools, mat, reduceIte, Nat.reduceEqDiff, Nat.reduceAdd, Nat.reduceBEq, Nat.reduceMul, Nat.reduceLeDiff, Nat.reduceLT, Nat.reduceMod, Nat.reduceDiv, Nat.reduceSub, reduceCtorEq] | ((first | refine goIf_b (fun h => ?_) (fun h => ?_) | refine goG_b (fun h => ?_) (fun h => ?_) | refine goTG_b (fun h => ?_) (fun h => ?_) | refine goOG_b (fun h => ?_) (fun h => ?_)) <;> ((try simp only [Bool.not_eq_true', Bool.not_eq_false'] at h); (try simp only [h]); (try simp only [decide_eq_true_eq, decide_eq_false_iff_not, bne_iff_ne, bne_eq_false_iff_eq, beq_iff_eq, beq_eq_false_iff_ne, ne_eq, Int.not_lt, Int.not_le, Bool.and_eq_true, Bool.and_eq_false_iff, Bool.or_eq_true, Bool.or_eq_false_iff] at h))))
    · refine go_loop (fun (k : Nat) => ⟨[(1, .d (ints c)), (2, .ref 0 0), (5, .sl 1 0 (((allW l).take w).filter (orB l c)).length 1), (6, .d (di w)), (7, .d (db (orB l (c.take k) w))), (8, .d (di k))], [some (.var [ints l]), some (.dat 1 ((((allW l).take w).filter (orB l c)).map di))]⟩) (fun k => k ≤ c.length) (fun k => c.length - k) 0 ?_ ?_ ?_
      · simp -implicitDefEqProofs (maxSteps := 1000000) (disch := (first | omega | (simp only [go_sem] <;> omega) | fail)) only [go_sem, ints, bools, mat, reduceIte, Nat.reduceEqDiff, Nat.reduceAdd, Nat.reduceBEq, Nat.reduceMul, Nat.reduceLeDiff, Nat.reduceLT, Nat.reduceMod, Nat.reduceDiv, Nat.reduceSub, reduceCtorEq]; rfl
      · simp
      · rintro k hk K hK
        have hstep : k < c.length → orB l (c.take (k + 1)) w = (orB l (c.take k) w && (sN (digM l (c.getD k 0)) (digM l w) l.length % l.getD 0 0 == 0)) := fun h => by
          rw [take_one c h, orB, orB, List.all_append]; simp [-List.getD_eq_getElem?_getD]
        have hend : orB l (c.take k) w = false → orB l c w = false := fun h => by
          cases h2 : orB l c w with
          | false => rfl
          | true =>
            rw [orB, List.all_eq_true] at h2
            rw [orB, List.all_eq_false] at h
            obtain ⟨x, hx, h⟩ := h
            exact (h (h2 x (List.mem_of_mem_take hx))).elim
        have hcw := hcs k
        cases hb : orB l (c.take k) w with
        | false =>
          have hb2 := hend hb
          repeat' (first | simp -implicitDefEqProofs (maxSteps := 1000000) (disch := (first | omega | (simp only [go_sem] <;> omega) | fail)) only [go_sem, ints, bools, mat, reduceIte, Nat.reduceEqDiff, Nat.reduceAdd, Nat.reduceBEq, Nat.reduceMul, Nat.reduceLeDiff, Nat.reduceLT, Nat.reduceMod, Nat.reduceDiv, Nat.reduceSub, reduceCtorEq, hb] | ((first | refine goIf_b (fun h => ?_) (fun h => ?_) | refine goG_b (fun h => ?_) (fun h => ?_) | refine goTG_b (fun h => ?_) (fun h => ?_) | refine goOG_b (fun h => ?_) (fun h => ?_)) <;> ((try simp only [Bool.not_eq_true', Bool.not_eq_false'] at h); (try simp only [h]); (try simp only [decide_eq_true_eq, decide_eq_false_iff_not, bne_iff_ne, bne_eq_false_iff_eq, beq_iff_eq, beq_eq_false_iff_ne, ne_eq, Int.not_lt, Int.not_le, Bool.and_eq_true, Bool.and_eq_false_iff, Bool.or_eq_true, Bool.or_eq_false_iff] at h)) <;> (try (exfalso; omega))))
          all_goals
            refine hJ (w + 1) (by omega) (by omega) _ ?_
            simp -implicitDefEqProofs (maxSteps := 1000000) (disch := (first | omega | (simp only [go_sem] <;> omega) | fail)) only [go_sem, ints, bools, mat, reduceIte, Nat.reduceEqDiff, Nat.reduceAdd, Nat.reduceBEq, Nat.reduceMul, Nat.reduceLeDiff, Nat.reduceLT, Nat.reduceMod, Nat.reduceDiv, Nat.reduceSub, reduceCtorEq]
            rw [take_allW l (by omega), List.filter_append]; simp [hb2]
        | true =>
          repeat' (first | simp -implicitDefEqProofs (maxSteps := 1000000) (disch := (first | omega | (simp only [go_sem] <;> omega) | fail)) only [go_sem, ints, bools, mat, reduceIte, Nat.reduceEqDiff, Nat.reduceAdd, Nat.reduceBEq, Nat.reduceMul, Nat.reduceLeDiff, Nat.reduceLT, Nat.reduceMod, Nat.reduceDiv, Nat.reduceSub, reduceCtorEq, hb] | ((first | refine goIf_b (fun h => ?_) (fun h => ?_) | refine goG_b (fun h => ?_) (fun h => ?_) | refine goTG_b (fun h => ?_) (fun h => ?_) | refine goOG_b (fun h => ?_) (fun h => ?_)) <;> ((try simp only [Bool.not_eq_true', Bool.not_eq_false'] at h); (try simp only [h]); (try simp only [decide_eq_true_eq, decide_eq_false_iff_not, bne_iff_ne, bne_eq_false_iff_eq, beq_iff_eq, beq_eq_false_iff_ne, ne_eq, Int.not_lt, Int.not_le, Bool.and_eq_true, Bool.and_eq_false_iff, Bool.or_eq_true, Bool.or_eq_false_iff] at h)) <;> (try (exfalso; omega))))
          · first | refine goC_call [.r, .r, .r] (d_spec_l05Product l hs (c.getD k 0) w (hcw (by omega)).1 (hcw (by omega)).2 (by omega) (by omega)) ?_ | refine goOC_call [.r, .r, .r] (d_spec_l05Product l hs (c.getD k 0) w (hcw (by omega)).1 (hcw (by omega)).2 (by omega) (by omega)) ?_
            repeat' (first | simp -implicitDefEqProofs (maxSteps := 1000000) (disch := (first | omega | (simp only [go_sem] <;> omega) | fail)) only [go_sem, ints, bools, mat, reduceIte, Nat.reduceEqDiff, Nat.reduceAdd, Nat.reduceBEq, Nat.reduceMul, Nat.reduceLeDiff, Nat.reduceLT, Nat.reduceMod, Nat.reduceDiv, Nat.reduceSub, reduceCtorEq] | ((first | refine goIf_b (fun h => ?_) (fun h => ?_) | refine goG_b (fun h => ?_) (fun h => ?_) | refine goTG_b (fun h => ?_) (fun h => ?_) | refine goOG_b (fun h => ?_) (fun h => ?_)) <;> ((try simp only [Bool.not_eq_true', Bool.not_eq_false'] at h); (try simp only [h]); (try simp only [decide_eq_true_eq, decide_eq_false_iff_not, bne_iff_ne, bne_eq_false_iff_eq, beq_iff_eq, beq_eq_false_iff_ne, ne_eq, Int.not_lt, Int.not_le, Bool.and_eq_true, Bool.and_eq_false_iff, Bool.or_eq_true, Bool.or_eq_false_iff] at h)) <;> (try (exfalso; omega))))
            refine hK (k + 1) (by omega) (by omega) _ ?_
            simp -implicitDefEqProofs (maxSteps := 1000000) (disch := (first | omega | (simp only [go_sem] <;> omega) | fail)) only [go_sem, ints, bools, mat, reduceIte, Nat.reduceEqDiff, Nat.reduceAdd, Nat.reduceBEq, Nat.reduceMul, Nat.reduceLeDiff, Nat.reduceLT, Nat.reduceMod, Nat.reduceDiv, Nat.reduceSub, reduceCtorEq]
            rw [hstep (by omega), hb, Bool.true_and]
            rfl
          · have : k = c.length := by omega
            subst this
            rw [List.take_length] at hb
            refine hJ (w + 1) (by omega) (by omega) _ ?_
            simp -implicitDefEqProofs (maxSteps := 1000000) (disch := (first | omega | (simp only [go_sem] <;> omega) | fail)) only [go_sem, ints, bools, mat, reduceIte, Nat.reduceEqDiff, Nat.reduceAdd, Nat.reduceBEq, Nat.reduceMul, Nat.reduceLeDiff, Nat.reduceLT, Nat.reduceMod, Nat.reduceDiv, Nat.reduceSub, reduceCtorEq]
            rw [take_allW l (by omega), List.filter_append]; simp [hb]
theorem d_impl_DualCode (l c : List Int) (hl : l.length < 1048577) (hc : c.length < 1048577) : Den PA f_impl_DualCode [.d (.agg [ints l]), .d (ints c)] [.any, .any] (lstR (lnM l c) (duM l c)) := by
  refine den_go [] l_impl_DualCode ?_
  repeat' (first | simp -implicitDefEqProofs (maxSteps := 1000000) (disch := (first | omega | (simp only [go_sem] <;> omega) | fail)) only [go_sem, ints, bools, mat, reduceIte, Nat.reduceEqDiff, Nat.reduceAdd, Nat.reduceBEq, Nat.reduceMul, Nat.reduceLeDiff, Nat.reduceLT, Nat.reduceMod, Nat.reduceDiv, Nat.reduceSub, reduceCtorEq, c_impl_DualCode] | ((first | refine goIf_b (fun h => ?_) (fun h => ?_) | refine goG_b (fun h => ?_) (fun h => ?_) | refine goTG_b (fun h => ?_) (fun h => ?_) | refine goOG_b (fun h => ?_) (fun h => ?_)) <;> ((try simp only [Bool.not_eq_true', Bool.not_eq_false'] at h); (try simp only [h]); (try simp only [decide_eq_true_eq, decide_eq_false_iff_not, bne_iff_ne, bne_eq_false_iff_eq, beq_iff_eq, beq_eq_false_iff_ne, ne_eq, Int.not_lt, Int.not_le, Bool.and_eq_true, Bool.and_eq_false_iff, Bool.or_eq_true, Bool.or_eq_false_iff] at h))))
  first | refine goC_call [.r, .r, .r] (d_impl_linearCode0 l c hl hc) ?_ | refine goOC_call [.r, .r, .r] (d_impl_linearCode0 l c hl hc) ?_
  by_cases h : lnM l c = 0
  · rw [lstR_ok h, h]
    obtain ⟨hs, hcc, hlin⟩ := lnM_ok h
    repeat' (first | simp -implicitDefEqProofs (maxSteps := 1000000) (disch := (first | omega | (simp only [go_sem] <;> omega) | fail)) only [go_sem, ints, bools, mat, reduceIte, Nat.reduceEqDiff, Nat.reduceAdd, Nat.reduceBEq, Nat.reduceMul, Nat.reduceLeDiff, Nat.reduceLT, Nat.reduceMod, Nat.reduceDiv, Nat.reduceSub, reduceCtorEq] | ((first | refine goIf_b (fun h => ?_) (fun h => ?_) | refine goG_b (fun h => ?_) (fun h => ?_) | refine goTG_b (fun h => ?_) (fun h => ?_) | refine goOG_b (fun h => ?_) (fun h => ?_)) <;> ((try simp only [Bool.not_eq_true', Bool.not_eq_false'] at h); (try simp only [h]); (try simp only [decide_eq_true_eq, decide_eq_false_iff_not, bne_iff_ne, bne_eq_false_iff_eq, beq_iff_eq, beq_eq_false_iff_ne, ne_eq, Int.not_lt, Int.not_le, Bool.and_eq_true, Bool.and_eq_false_iff, Bool.or_eq_true, Bool.or_eq_false_iff] at h))))
    first | refine goC_call [.r, .r] (d_impl_dual l c hs hcc hlin hc) ?_ | refine goOC_call [.r, .r] (d_impl_dual l c hs hcc hlin hc) ?_
    repeat' (first | simp -implicitDefEqProofs (maxSteps := 1000000) (disch := (first | omega | (simp only [go_sem] <;> omega) | fail)) only [go_sem, ints, bools, mat, reduceIte, Nat.reduceEqDiff, Nat.reduceAdd, Nat.reduceBEq, Nat.reduceMul, Nat.reduceLeDiff, Nat.reduceLT, Nat.reduceMod, Nat.reduceDiv, Nat.reduceSub, reduceCtorEq] | ((first | refine goIf_b (fun h => ?_) (fun h => ?_) | refine goG_b (fun h => ?_) (fun h => ?_) | refine goTG_b (fun h => ?_) (fun h => ?_) | refine goOG_b (fun h => ?_) (fun h => ?_)) <;> ((try simp only [Bool.not_eq_true', Bool.not_eq_false'] at h); (try simp only [h]); (try simp only [decide_eq_true_eq, decide_eq_false_iff_not, bne_iff_ne, bne_eq_false_iff_eq, beq_iff_eq, beq_eq_false_iff_ne, ne_eq, Int.not_lt, Int.not_le, Bool.and_eq_true, Bool.and_eq_false_iff, Bool.or_eq_true, Bool.or_eq_false_iff] at h))))
  · rw [lstR_no h]
    generalize lnM l c = b at h
    repeat' (first | simp -implicitDefEqProofs (maxSteps := 1000000) (disch := (first | omega | (simp only [go_sem] <;> omega) | fail)) only [go_sem, ints, bools, mat, reduceIte, Nat.reduceEqDiff, Nat.reduceAdd, Nat.reduceBEq, Nat.reduceMul, Nat.reduceLeDiff, Nat.reduceLT, Nat.reduceMod, Nat.reduceDiv, Nat.reduceSub, reduceCtorEq] | ((first | refine goIf_b (fun h => ?_) (fun h => ?_) | refine goG_b (fun h => ?_) (fun h => ?_) | refine goTG_b (fun h => ?_) (fun h => ?_) | refine goOG_b (fun h => ?_) (fun h => ?_)) <;> ((try simp only [Bool.not_eq_true', Bool.not_eq_false'] at h); (try simp only [h]); (try simp only [decide_eq_true_eq, decide_eq_false_iff_not, bne_iff_ne, bne_eq_false_iff_eq, beq_iff_eq, beq_eq_false_iff_ne, ne_eq, Int.not_lt, Int.not_le, Bool.and_eq_true, Bool.and_eq_false_iff, Bool.or_eq_true, Bool.or_eq_false_iff] at h))))
    all_goals (exfalso; omega)
theorem d_spec_DualCode (l c : List Int) (hl : l.length < 1048577) (hc : c.length < 1048577) : Den PA f_spec_DualCode [.d (.agg [ints l]), .d (ints c)] [.any, .any] (lstR (lnM l c) (duM l c)) := by
  refine den_go [] l_spec_DualCode ?_
  repeat' (first | simp -implicitDefEqProofs (maxSteps := 1000000) (disch := (first | omega | (simp only [go_sem] <;> omega) | fail)) only [go_sem, ints, bools, mat, reduceIte, Nat.reduceEqDiff, Nat.reduceAdd, Nat.reduceBEq, Nat.reduceMul, Nat.reduceLeDiff, Nat.reduceLT, Nat.reduceMod, Nat.reduceDiv, Nat.reduceSub, reduceCtorEq, c_spec_DualCode] | ((first | refine goIf_b (fun h => ?_) (fun h => ?_) | refine goG_b (fun h => ?_) (fun h => ?_) | refine goTG_b (fun h => ?_) (fun h => ?_) | refine goOG_b (fun h => ?_) (fun h => ?_)) <;> ((try simp only [Bool.not_eq_true', Bool.not_eq_false'] at h); (try simp only [h]); (try simp only [decide_eq_true_eq, decide_eq_false_iff_not, bne_iff_ne, bne_eq_false_iff_eq, beq_iff_eq, beq_eq_false_iff_ne, ne_eq, Int.not_lt, Int.not_le, Bool.and_eq_true, Bool.and_eq_false_iff, Bool.or_eq_true, Bool.or_eq_false_iff] at h))))
  first | refine goC_call [.r, .r] (d_spec_l05Given l c hl hc) ?_ | refine goOC_call [.r, .r] (d_spec_l05Given l c hl hc) ?_
  by_cases h : lnM l c = 0
  · rw [lstR_ok h, h]
    obtain ⟨hs, hcc, hlin⟩ := lnM_ok h
    repeat' (first | simp -implicitDefEqProofs (maxSteps := 1000000) (disch := (first | omega | (simp only [go_sem] <;> omega) | fail)) only [go_sem, ints, bools, mat, reduceIte, Nat.reduceEqDiff, Nat.reduceAdd, Nat.reduceBEq, Nat.reduceMul, Nat.reduceLeDiff, Nat.reduceLT, Nat.reduceMod, Nat.reduceDiv, Nat.reduceSub, reduceCtorEq] | ((first | refine goIf_b (fun h => ?_) (fun h => ?_) | refine goG_b (fun h => ?_) (fun h => ?_) | refine goTG_b (fun h => ?_) (fun h => ?_) | refine goOG_b (fun h => ?_) (fun h => ?_)) <;> ((try simp only [Bool.not_eq_true', Bool.not_eq_false'] at h); (try simp only [h]); (try simp only [decide_eq_true_eq, decide_eq_false_iff_not, bne_iff_ne, bne_eq_false_iff_eq, beq_iff_eq, beq_eq_false_iff_ne, ne_eq, Int.not_lt, Int.not_le, Bool.and_eq_true, Bool.and_eq_false_iff, Bool.or_eq_true, Bool.or_eq_false_iff] at h))))
    first | refine goC_call [.r, .r] (d_spec_l05Dual l c hs hcc hc) ?_ | refine goOC_call [.r, .r] (d_spec_l05Dual l c hs hcc hc) ?_
    repeat' (first | simp -implicitDefEqProofs (maxSteps := 1000000) (disch := (first | omega | (simp only [go_sem] <;> omega) | fail)) only [go_sem, ints, bools, mat, reduceIte, Nat.reduceEqDiff, Nat.reduceAdd, Nat.reduceBEq, Nat.reduceMul, Nat.reduceLeDiff, Nat.reduceLT, Nat.reduceMod, Nat.reduceDiv, Nat.reduceSub, reduceCtorEq] | ((first | refine goIf_b (fun h => ?_) (fun h => ?_) | refine goG_b (fun h => ?_) (fun h => ?_) | refine goTG_b (fun h => ?_) (fun h => ?_) | refine goOG_b (fun h => ?_) (fun h => ?_)) <;> ((try simp only [Bool.not_eq_true', Bool.not_eq_false'] at h); (try simp only [h]); (try simp only [decide_eq_true_eq, decide_eq_false_iff_not, bne_iff_ne, bne_eq_false_iff_eq, beq_iff_eq, beq_eq_false_iff_ne, ne_eq, Int.not_lt, Int.not_le, Bool.and_eq_true, Bool.and_eq_false_iff, Bool.or_eq_true, Bool.or_eq_false_iff] at h))))
  · rw [lstR_no h]
    generalize lnM l c = b at h
    repeat' (first | simp -implicitDefEqProofs (maxSteps := 1000000) (disch := (first | omega | (simp only [go_sem] <;> omega) | fail)) only [go_sem, ints, bools, mat, reduceIte, Nat.reduceEqDiff, Nat.reduceAdd, Nat.reduceBEq, Nat.reduceMul, Nat.reduceLeDiff, Nat.reduceLT, Nat.reduceMod, Nat.reduceDiv, Nat.reduceSub, reduceCtorEq] | ((first | refine goIf_b (fun h => ?_) (fun h => ?_) | refine goG_b (fun h => ?_) (fun h => ?_) | refine goTG_b (fun h => ?_) (fun h => ?_) | refine goOG_b (fun h => ?_) (fun h => ?_)) <;> ((try simp only [Bool.not_eq_true', Bool.not_eq_false'] at h); (try simp only [h]); (try simp only [decide_eq_true_eq, decide_eq_false_iff_not, bne_iff_ne, bne_eq_false_iff_eq, beq_iff_eq, beq_eq_false_iff_ne, ne_eq, Int.not_lt, Int.not_le, Bool.and_eq_true, Bool.and_eq_false_iff, Bool.or_eq_true, Bool.or_eq_false_iff] at h))))
    all_goals (exfalso; omega)
theorem d_laws_FnExactDualCode (x0 : D) (l0 : List Int) (hx0 : IsInts x0 l0) (hl0 : l0.length ≤ maxLen) (hi0 : ∀ n, n ∈ l0 → in64 n) (x1 : D) (l1 : List Int) (hx1 : IsInts x1 l1) (hl1 : l1.length ≤ maxLen) (hi1 : ∀ n, n ∈ l1 → in64 n) :
    Den PA f_laws_FnExactDualCode [.d (.agg [x0]), .d x1] [.any, .any] (.d (db true)) := by
  have ly1 := lenA_is hx1
  refine den_go [] l_laws_FnExactDualCode ?_
  repeat' (first | simp -implicitDefEqProofs (maxSteps := 1000000) (disch := (first | omega | (simp only [go_sem] <;> omega) | fail)) only [go_sem, ints, bools, mat, reduceIte, Nat.reduceEqDiff, Nat.reduceAdd, Nat.reduceBEq, Nat.reduceMul, Nat.reduceLeDiff, Nat.reduceLT, Nat.reduceMod, Nat.reduceDiv, Nat.reduceSub, reduceCtorEq, c_laws_FnExactDualCode, ly1] | ((first | refine goIf_b (fun h => ?_) (fun h => ?_) | refine goG_b (fun h => ?_) (fun h => ?_) | refine goTG_b (fun h => ?_) (fun h => ?_) | refine goOG_b (fun h => ?_) (fun h => ?_)) <;> ((try simp only [Bool.not_eq_true', Bool.not_eq_false'] at h); (try simp only [h]); (try simp only [decide_eq_true_eq, decide_eq_false_iff_not, bne_iff_ne, bne_eq_false_iff_eq, beq_iff_eq, beq_eq_false_iff_ne, ne_eq, Int.not_lt, Int.not_le, Bool.and_eq_true, Bool.and_eq_false_iff, Bool.or_eq_true, Bool.or_eq_false_iff] at h))))
  first | refine goC_call [.r, .r] (d_laws_szSpace x0 l0 hx0 1048576 hl0 (by omega) (by omega)) ?_ | refine goOC_call [.r, .r] (d_laws_szSpace x0 l0 hx0 1048576 hl0 (by omega) (by omega)) ?_
  repeat' (first | simp -implicitDefEqProofs (maxSteps := 1000000) (disch := (first | omega | (simp only [go_sem] <;> omega) | fail)) only [go_sem, ints, bools, mat, reduceIte, Nat.reduceEqDiff, Nat.reduceAdd, Nat.reduceBEq, Nat.reduceMul, Nat.reduceLeDiff, Nat.reduceLT, Nat.reduceMod, Nat.reduceDiv, Nat.reduceSub, reduceCtorEq] | ((first | refine goIf_b (fun h => ?_) (fun h => ?_) | refine goG_b (fun h => ?_) (fun h => ?_) | refine goTG_b (fun h => ?_) (fun h => ?_) | refine goOG_b (fun h => ?_) (fun h => ?_)) <;> ((try simp only [Bool.not_eq_true', Bool.not_eq_false'] at h); (try simp only [h]); (try simp only [decide_eq_true_eq, decide_eq_false_iff_not, bne_iff_ne, bne_eq_false_iff_eq, beq_iff_eq, beq_eq_false_iff_ne, ne_eq, Int.not_lt, Int.not_le, Bool.and_eq_true, Bool.and_eq_false_iff, Bool.or_eq_true, Bool.or_eq_false_iff] at h))))
  have hz0 := sz_ok h
  have hsp := d_spec_DualCode l0 l1 (by omega) (by omega)
  have him := d_impl_DualCode l0 l1 (by omega) (by omega)
  by_cases hb : lnM l0 l1 = 0
  · rw [lstR_ok hb] at hsp him
    have hlm := lnM_ok hb
    have hpn := isSpaceM_prod hlm.1
    have hal := allW_len l0
    have hv : (duM l0 l1).length ≤ 1024 := filter_len_le _ _ 1024 (by omega)
    repeat' (first | simp -implicitDefEqProofs (maxSteps := 1000000) (disch := (first | omega | (simp only [go_sem] <;> omega) | fail)) only [go_sem, ints, bools, mat, reduceIte, Nat.reduceEqDiff, Nat.reduceAdd, Nat.reduceBEq, Nat.reduceMul, Nat.reduceLeDiff, Nat.reduceLT, Nat.reduceMod, Nat.reduceDiv, Nat.reduceSub, reduceCtorEq] | ((first | refine goIf_b (fun h => ?_) (fun h => ?_) | refine goG_b (fun h => ?_) (fun h => ?_) | refine goTG_b (fun h => ?_) (fun h => ?_) | refine goOG_b (fun h => ?_) (fun h => ?_)) <;> ((try simp only [Bool.not_eq_true', Bool.not_eq_false'] at h); (try simp only [h]); (try simp only [decide_eq_true_eq, decide_eq_false_iff_not, bne_iff_ne, bne_eq_false_iff_eq, beq_iff_eq, beq_eq_false_iff_ne, ne_eq, Int.not_lt, Int.not_le, Bool.and_eq_true, Bool.and_eq_false_iff, Bool.or_eq_true, Bool.or_eq_false_iff] at h)) <;> (try (exfalso; omega))) | ((first | refine goC_call [.r] (d_laws_toSpace x0 l0 hx0 (by omega)) ?_ | refine goOC_call [.r] (d_laws_toSpace x0 l0 hx0 (by omega)) ?_); simp -implicitDefEqProofs (maxSteps := 1000000) (disch := (first | omega | (simp only [go_sem] <;> omega) | fail)) only [go_sem, ints, bools, mat, reduceIte, Nat.reduceEqDiff, Nat.reduceAdd, Nat.reduceBEq, Nat.reduceMul, Nat.reduceLeDiff, Nat.reduceLT, Nat.reduceMod, Nat.reduceDiv, Nat.reduceSub, reduceCtorEq]; fail_if_success (with_reducible show chk _ _)) | ((first | refine goC_call [.r, .r] (d_laws_eqSpace l0 l0 (by omega)) ?_ | refine goOC_call [.r, .r] (d_laws_eqSpace l0 l0 (by omega)) ?_); simp -implicitDefEqProofs (maxSteps := 1000000) (disch := (first | omega | (simp only [go_sem] <;> omega) | fail)) only [go_sem, ints, bools, mat, reduceIte, Nat.reduceEqDiff, Nat.reduceAdd, Nat.reduceBEq, Nat.reduceMul, Nat.reduceLeDiff, Nat.reduceLT, Nat.reduceMod, Nat.reduceDiv, Nat.reduceSub, reduceCtorEq]; fail_if_success (with_reducible show chk _ _)) | ((first | refine goC_call [.r] (d_laws_toInt64S x1 l1 hx1 (by omega)) ?_ | refine goOC_call [.r] (d_laws_toInt64S x1 l1 hx1 (by omega)) ?_); simp -implicitDefEqProofs (maxSteps := 1000000) (disch := (first | omega | (simp only [go_sem] <;> omega) | fail)) only [go_sem, ints, bools, mat, reduceIte, Nat.reduceEqDiff, Nat.reduceAdd, Nat.reduceBEq, Nat.reduceMul, Nat.reduceLeDiff, Nat.reduceLT, Nat.reduceMod, Nat.reduceDiv, Nat.reduceSub, reduceCtorEq]; fail_if_success (with_reducible show chk _ _)) | ((first | refine goC_call [.r, .r] (d_laws_eqInt64S l1 l1 (by omega)) ?_ | refine goOC_call [.r, .r] (d_laws_eqInt64S l1 l1 (by omega)) ?_); simp -implicitDefEqProofs (maxSteps := 1000000) (disch := (first | omega | (simp only [go_sem] <;> omega) | fail)) only [go_sem, ints, bools, mat, reduceIte, Nat.reduceEqDiff, Nat.reduceAdd, Nat.reduceBEq, Nat.reduceMul, Nat.reduceLeDiff, Nat.reduceLT, Nat.reduceMod, Nat.reduceDiv, Nat.reduceSub, reduceCtorEq]; fail_if_success (with_reducible show chk _ _)) | ((first | refine goC_call [.r, .r] (hsp) ?_ | refine goOC_call [.r, .r] (hsp) ?_); simp -implicitDefEqProofs (maxSteps := 1000000) (disch := (first | omega | (simp only [go_sem] <;> omega) | fail)) only [go_sem, ints, bools, mat, reduceIte, Nat.reduceEqDiff, Nat.reduceAdd, Nat.reduceBEq, Nat.reduceMul, Nat.reduceLeDiff, Nat.reduceLT, Nat.reduceMod, Nat.reduceDiv, Nat.reduceSub, reduceCtorEq]; fail_if_success (with_reducible show chk _ _)) | ((first | refine goC_call [.r, .r] (him) ?_ | refine goOC_call [.r, .r] (him) ?_); simp -implicitDefEqProofs (maxSteps := 1000000) (disch := (first | omega | (simp only [go_sem] <;> omega) | fail)) only [go_sem, ints, bools, mat, reduceIte, Nat.reduceEqDiff, Nat.reduceAdd, Nat.reduceBEq, Nat.reduceMul, Nat.reduceLeDiff, Nat.reduceLT, Nat.reduceMod, Nat.reduceDiv, Nat.reduceSub, reduceCtorEq]; fail_if_success (with_reducible show chk _ _)) | ((first | refine goC_call [.r, .r] (d_laws_eqInt64S (duM l0 l1) (duM l0 l1) (by omega)) ?_ | refine goOC_call [.r, .r] (d_laws_eqInt64S (duM l0 l1) (duM l0 l1) (by omega)) ?_); simp -implicitDefEqProofs (maxSteps := 1000000) (disch := (first | omega | (simp only [go_sem] <;> omega) | fail)) only [go_sem, ints, bools, mat, reduceIte, Nat.reduceEqDiff, Nat.reduceAdd, Nat.reduceBEq, Nat.reduceMul, Nat.reduceLeDiff, Nat.reduceLT, Nat.reduceMod, Nat.reduceDiv, Nat.reduceSub, reduceCtorEq]; fail_if_success (with_reducible show chk _ _)) | ((first | refine goC_call [.a [.o], .r] (d_laws_markSpace l0 (1) (by omega) (by omega) (by omega)) ?_ | refine goOC_call [.a [.o], .r] (d_laws_markSpace l0 (1) (by omega) (by omega) (by omega)) ?_); simp -implicitDefEqProofs (maxSteps := 1000000) (disch := (first | omega | (simp only [go_sem] <;> omega) | fail)) only [go_sem, ints, bools, mat, reduceIte, Nat.reduceEqDiff, Nat.reduceAdd, Nat.reduceBEq, Nat.reduceMul, Nat.reduceLeDiff, Nat.reduceLT, Nat.reduceMod, Nat.reduceDiv, Nat.reduceSub, reduceCtorEq]; fail_if_success (with_reducible show chk _ _)) | ((first | refine goC_call [.o, .r] (d_laws_markInt64S l1 (1 + l0.length) (by omega) (by omega) (by omega)) ?_ | refine goOC_call [.o, .r] (d_laws_markInt64S l1 (1 + l0.length) (by omega) (by omega) (by omega)) ?_); simp -implicitDefEqProofs (maxSteps := 1000000) (disch := (first | omega | (simp only [go_sem] <;> omega) | fail)) only [go_sem, ints, bools, mat, reduceIte, Nat.reduceEqDiff, Nat.reduceAdd, Nat.reduceBEq, Nat.reduceMul, Nat.reduceLeDiff, Nat.reduceLT, Nat.reduceMod, Nat.reduceDiv, Nat.reduceSub, reduceCtorEq]; fail_if_success (with_reducible show chk _ _)) | ((first | refine goC_call [.o, .r] (d_laws_markInt64S (duM l0 l1) 1 (by omega) (by omega) (by omega)) ?_ | refine goOC_call [.o, .r] (d_laws_markInt64S (duM l0 l1) 1 (by omega) (by omega) (by omega)) ?_); simp -implicitDefEqProofs (maxSteps := 1000000) (disch := (first | omega | (simp only [go_sem] <;> omega) | fail)) only [go_sem, ints, bools, mat, reduceIte, Nat.reduceEqDiff, Nat.reduceAdd, Nat.reduceBEq, Nat.reduceMul, Nat.reduceLeDiff, Nat.reduceLT, Nat.reduceMod, Nat.reduceDiv, Nat.reduceSub, reduceCtorEq]; fail_if_success (with_reducible show chk _ _)) | ((first | refine goC_call [.r, .r] (d_laws_heldInt64S (duM l0 l1).length 1 (by omega) (by omega) (by omega)) ?_ | refine goOC_call [.r, .r] (d_laws_heldInt64S (duM l0 l1).length 1 (by omega) (by omega) (by omega)) ?_); simp -implicitDefEqProofs (maxSteps := 1000000) (disch := (first | omega | (simp only [go_sem] <;> omega) | fail)) only [go_sem, ints, bools, mat, reduceIte, Nat.reduceEqDiff, Nat.reduceAdd, Nat.reduceBEq, Nat.reduceMul, Nat.reduceLeDiff, Nat.reduceLT, Nat.reduceMod, Nat.reduceDiv, Nat.reduceSub, reduceCtorEq]; fail_if_success (with_reducible show chk _ _)))
  · rw [lstR_no hb] at hsp him
    generalize lnM l0 l1 = bb at hsp him hb
    repeat' (first | simp -implicitDefEqProofs (maxSteps := 1000000) (disch := (first | omega | (simp only [go_sem] <;> omega) | fail)) only [go_sem, ints, bools, mat, reduceIte, Nat.reduceEqDiff, Nat.reduceAdd, Nat.reduceBEq, Nat.reduceMul, Nat.reduceLeDiff, Nat.reduceLT, Nat.reduceMod, Nat.reduceDiv, Nat.reduceSub, reduceCtorEq] | ((first | refine goIf_b (fun h => ?_) (fun h => ?_) | refine goG_b (fun h => ?_) (fun h => ?_) | refine goTG_b (fun h => ?_) (fun h => ?_) | refine goOG_b (fun h => ?_) (fun h => ?_)) <;> ((try simp only [Bool.not_eq_true', Bool.not_eq_false'] at h); (try simp only [h]); (try simp only [decide_eq_true_eq, decide_eq_false_iff_not, bne_iff_ne, bne_eq_false_iff_eq, beq_iff_eq, beq_eq_false_iff_ne, ne_eq, Int.not_lt, Int.not_le, Bool.and_eq_true, Bool.and_eq_false_iff, Bool.or_eq_true, Bool.or_eq_false_iff] at h)) <;> (try (exfalso; omega))) | ((first | refine goC_call [.r] (d_laws_toSpace x0 l0 hx0 (by omega)) ?_ | refine goOC_call [.r] (d_laws_toSpace x0 l0 hx0 (by omega)) ?_); simp -implicitDefEqProofs (maxSteps := 1000000) (disch := (first | omega | (simp only [go_sem] <;> omega) | fail)) only [go_sem, ints, bools, mat, reduceIte, Nat.reduceEqDiff, Nat.reduceAdd, Nat.reduceBEq, Nat.reduceMul, Nat.reduceLeDiff, Nat.reduceLT, Nat.reduceMod, Nat.reduceDiv, Nat.reduceSub, reduceCtorEq]; fail_if_success (with_reducible show chk _ _)) | ((first | refine goC_call [.r, .r] (d_laws_eqSpace l0 l0 (by omega)) ?_ | refine goOC_call [.r, .r] (d_laws_eqSpace l0 l0 (by omega)) ?_); simp -implicitDefEqProofs (maxSteps := 1000000) (disch := (first | omega | (simp only [go_sem] <;> omega) | fail)) only [go_sem, ints, bools, mat, reduceIte, Nat.reduceEqDiff, Nat.reduceAdd, Nat.reduceBEq, Nat.reduceMul, Nat.reduceLeDiff, Nat.reduceLT, Nat.reduceMod, Nat.reduceDiv, Nat.reduceSub, reduceCtorEq]; fail_if_success (with_reducible show chk _ _)) | ((first | refine goC_call [.r] (d_laws_toInt64S x1 l1 hx1 (by omega)) ?_ | refine goOC_call [.r] (d_laws_toInt64S x1 l1 hx1 (by omega)) ?_); simp -implicitDefEqProofs (maxSteps := 1000000) (disch := (first | omega | (simp only [go_sem] <;> omega) | fail)) only [go_sem, ints, bools, mat, reduceIte, Nat.reduceEqDiff, Nat.reduceAdd, Nat.reduceBEq, Nat.reduceMul, Nat.reduceLeDiff, Nat.reduceLT, Nat.reduceMod, Nat.reduceDiv, Nat.reduceSub, reduceCtorEq]; fail_if_success (with_reducible show chk _ _)) | ((first | refine goC_call [.r, .r] (d_laws_eqInt64S l1 l1 (by omega)) ?_ | refine goOC_call [.r, .r] (d_laws_eqInt64S l1 l1 (by omega)) ?_); simp -implicitDefEqProofs (maxSteps := 1000000) (disch := (first | omega | (simp only [go_sem] <;> omega) | fail)) only [go_sem, ints, bools, mat, reduceIte, Nat.reduceEqDiff, Nat.reduceAdd, Nat.reduceBEq, Nat.reduceMul, Nat.reduceLeDiff, Nat.reduceLT, Nat.reduceMod, Nat.reduceDiv, Nat.reduceSub, reduceCtorEq]; fail_if_success (with_reducible show chk _ _)) | ((first | refine goC_call [.r, .r] (hsp) ?_ | refine goOC_call [.r, .r] (hsp) ?_); simp -implicitDefEqProofs (maxSteps := 1000000) (disch := (first | omega | (simp only [go_sem] <;> omega) | fail)) only [go_sem, ints, bools, mat, reduceIte, Nat.reduceEqDiff, Nat.reduceAdd, Nat.reduceBEq, Nat.reduceMul, Nat.reduceLeDiff, Nat.reduceLT, Nat.reduceMod, Nat.reduceDiv, Nat.reduceSub, reduceCtorEq]; fail_if_success (with_reducible show chk _ _)) | ((first | refine goC_call [.r, .r] (him) ?_ | refine goOC_call [.r, .r] (him) ?_); simp -implicitDefEqProofs (maxSteps := 1000000) (disch := (first | omega | (simp only [go_sem] <;> omega) | fail)) only [go_sem, ints, bools, mat, reduceIte, Nat.reduceEqDiff, Nat.reduceAdd, Nat.reduceBEq, Nat.reduceMul, Nat.reduceLeDiff, Nat.reduceLT, Nat.reduceMod, Nat.reduceDiv, Nat.reduceSub, reduceCtorEq]; fail_if_success (with_reducible show chk _ _)) | ((first | refine goC_call [.r, .r] (d_laws_eqInt64S_nil) ?_ | refine goOC_call [.r, .r] (d_laws_eqInt64S_nil) ?_); simp -implicitDefEqProofs (maxSteps := 1000000) (disch := (first | omega | (simp only [go_sem] <;> omega) | fail)) only [go_sem, ints, bools, mat, reduceIte, Nat.reduceEqDiff, Nat.reduceAdd, Nat.reduceBEq, Nat.reduceMul, Nat.reduceLeDiff, Nat.reduceLT, Nat.reduceMod, Nat.reduceDiv, Nat.reduceSub, reduceCtorEq]; fail_if_success (with_reducible show chk _ _)) | ((first | refine goC_call [.a [.o], .r] (d_laws_markSpace l0 (1) (by omega) (by omega) (by omega)) ?_ | refine goOC_call [.a [.o], .r] (d_laws_markSpace l0 (1) (by omega) (by omega) (by omega)) ?_); simp -implicitDefEqProofs (maxSteps := 1000000) (disch := (first | omega | (simp only [go_sem] <;> omega) | fail)) only [go_sem, ints, bools, mat, reduceIte, Nat.reduceEqDiff, Nat.reduceAdd, Nat.reduceBEq, Nat.reduceMul, Nat.reduceLeDiff, Nat.reduceLT, Nat.reduceMod, Nat.reduceDiv, Nat.reduceSub, reduceCtorEq]; fail_if_success (with_reducible show chk _ _)) | ((first | refine goC_call [.o, .r] (d_laws_markInt64S l1 (1 + l0.length) (by omega) (by omega) (by omega)) ?_ | refine goOC_call [.o, .r] (d_laws_markInt64S l1 (1 + l0.length) (by omega) (by omega) (by omega)) ?_); simp -implicitDefEqProofs (maxSteps := 1000000) (disch := (first | omega | (simp only [go_sem] <;> omega) | fail)) only [go_sem, ints, bools, mat, reduceIte, Nat.reduceEqDiff, Nat.reduceAdd, Nat.reduceBEq, Nat.reduceMul, Nat.reduceLeDiff, Nat.reduceLT, Nat.reduceMod, Nat.reduceDiv, Nat.reduceSub, reduceCtorEq]; fail_if_success (with_reducible show chk _ _)) | ((first | refine goC_call [.o, .r] (d_laws_markInt64S_nil 1) ?_ | refine goOC_call [.o, .r] (d_laws_markInt64S_nil 1) ?_); simp -implicitDefEqProofs (maxSteps := 1000000) (disch := (first | omega | (simp only [go_sem] <;> omega) | fail)) only [go_sem, ints, bools, mat, reduceIte, Nat.reduceEqDiff, Nat.reduceAdd, Nat.reduceBEq, Nat.reduceMul, Nat.reduceLeDiff, Nat.reduceLT, Nat.reduceMod, Nat.reduceDiv, Nat.reduceSub, reduceCtorEq]; fail_if_success (with_reducible show chk _ _)) | ((first | refine goC_call [.r, .r] (d_laws_heldInt64S_nil 1) ?_ | refine goOC_call [.r, .r] (d_laws_heldInt64S_nil 1) ?_); simp -implicitDefEqProofs (maxSteps := 1000000) (disch := (first | omega | (simp only [go_sem] <;> omega) | fail)) only [go_sem, ints, bools, mat, reduceIte, Nat.reduceEqDiff, Nat.reduceAdd, Nat.reduceBEq, Nat.reduceMul, Nat.reduceLeDiff, Nat.reduceLT, Nat.reduceMod, Nat.reduceDiv, Nat.reduceSub, reduceCtorEq]; fail_if_success (with_reducible show chk _ _)))
end Go.Proofs.Ytlbcdojembakiab.Va
