/- Contracts of the functions that FnExactNearestWord reaches (part 1). Condition: none. -/
import Derived.Test.YtmaipkohkfikeaaDNearestWord0
set_option linter.all false
set_option linter.unusedSimpArgs false
set_option linter.unusedVariables false
namespace Go.Proofs.Ytmaipkohkfikeaa.Va
open Go
set_option maxHeartbeats 4000000
set_option maxRecDepth 100000
theorem d_impl_mapped (c : List Int) (t : Int → Int) (hc : c.length < 1048577) :
    Den PA f_impl_mapped [.d (ints c), .pfn (fnT c t)] [.any, .any] (.own 1 ((setI (c.map t)).map di)) := by
  refine den_go [] l_impl_mapped ?_
  repeat' (first | simp -implicitDefEqProofs (maxSteps := 1000000) (disch := (first | omega | (simp only [go_sem] <;> omega) | fail)) only [go_sem, ints, bools, mat, reduceIte, Nat.reduceEqDiff, Nat.reduceAdd, Nat.reduceBEq, Nat.reduceMul, Nat.reduceLeDiff, Nat.reduceLT, Nat.reduceMod, Nat.reduceDiv, Nat.reduceSub, reduceCtorEq, c_impl_mapped] | ((first | refine goIf_b (fun h => ?_) (fun h => ?_) | refine goG_b (fun h => ?_) (fun h => ?_) | refine goTG_b (fun h => ?_) (fun h => ?_) | refine goOG_b (fun h => ?_) (fun h => ?_)) <;> ((try simp only [Bool.not_eq_true', Bool.not_eq_false'] at h); (try simp only [h]); (try simp only [decide_eq_true_eq, decide_eq_false_iff_not, bne_iff_ne, bne_eq_false_iff_eq, beq_iff_eq, beq_eq_false_iff_ne, ne_eq, Int.not_lt, Int.not_le, Bool.and_eq_true, Bool.and_eq_false_iff, Bool.or_eq_true, Bool.or_eq_false_iff] at h))))
  refine go_loop (fun (j : Nat) => ⟨[(1, .pfn (fnT c t)), (5, .sl 0 0 j 1), (9, .d (ints c)), (10, .d (di c.length)), (11, .d (di j)), (26, .any)], [some (.dat 1 (((c.map t).take j).map di))]⟩) (fun j => j ≤ c.length) (fun j => c.length - j) 0 ?_ ?_ ?_
  · (simp -implicitDefEqProofs (maxSteps := 1000000) (disch := (first | omega | (simp only [go_sem] <;> omega) | fail)) only [go_sem, ints, bools, mat, reduceIte, Nat.reduceEqDiff, Nat.reduceAdd, Nat.reduceBEq, Nat.reduceMul, Nat.reduceLeDiff, Nat.reduceLT, Nat.reduceMod, Nat.reduceDiv, Nat.reduceSub, reduceCtorEq] <;> rfl)
  · simp
  · rintro j hj J hJ
    repeat' (first | simp -implicitDefEqProofs (maxSteps := 1000000) (disch := (first | omega | (simp only [go_sem] <;> omega) | fail)) only [go_sem, ints, bools, mat, reduceIte, Nat.reduceEqDiff, Nat.reduceAdd, Nat.reduceBEq, Nat.reduceMul, Nat.reduceLeDiff, Nat.reduceLT, Nat.reduceMod, Nat.reduceDiv, Nat.reduceSub, reduceCtorEq] | ((first | refine goIf_b (fun h => ?_) (fun h => ?_) | refine goG_b (fun h => ?_) (fun h => ?_) | refine goTG_b (fun h => ?_) (fun h => ?_) | refine goOG_b (fun h => ?_) (fun h => ?_)) <;> ((try simp only [Bool.not_eq_true', Bool.not_eq_false'] at h); (try simp only [h]); (try simp only [decide_eq_true_eq, decide_eq_false_iff_not, bne_iff_ne, bne_eq_false_iff_eq, beq_iff_eq, beq_eq_false_iff_ne, ne_eq, Int.not_lt, Int.not_le, Bool.and_eq_true, Bool.and_eq_false_iff, Bool.or_eq_true, Bool.or_eq_false_iff] at h))))
    · refine goV_pfn [di (c.getD j 0)] (.int .i64 (t (c.getD j 0))) (by simp -implicitDefEqProofs (maxSteps := 1000000) (disch := (first | omega | (simp only [go_sem] <;> omega) | fail)) only [go_sem, ints, bools, mat, reduceIte, Nat.reduceEqDiff, Nat.reduceAdd, Nat.reduceBEq, Nat.reduceMul, Nat.reduceLeDiff, Nat.reduceLT, Nat.reduceMod, Nat.reduceDiv, Nat.reduceSub, reduceCtorEq]) rfl (fnT_mk t (by omega)) ?_
      repeat' (first | simp -implicitDefEqProofs (maxSteps := 1000000) (disch := (first | omega | (simp only [go_sem] <;> omega) | fail)) only [go_sem, ints, bools, mat, reduceIte, Nat.reduceEqDiff, Nat.reduceAdd, Nat.reduceBEq, Nat.reduceMul, Nat.reduceLeDiff, Nat.reduceLT, Nat.reduceMod, Nat.reduceDiv, Nat.reduceSub, reduceCtorEq] | ((first | refine goIf_b (fun h => ?_) (fun h => ?_) | refine goG_b (fun h => ?_) (fun h => ?_) | refine goTG_b (fun h => ?_) (fun h => ?_) | refine goOG_b (fun h => ?_) (fun h => ?_)) <;> ((try simp only [Bool.not_eq_true', Bool.not_eq_false'] at h); (try simp only [h]); (try simp only [decide_eq_true_eq, decide_eq_false_iff_not, bne_iff_ne, bne_eq_false_iff_eq, beq_iff_eq, beq_eq_false_iff_ne, ne_eq, Int.not_lt, Int.not_le, Bool.and_eq_true, Bool.and_eq_false_iff, Bool.or_eq_true, Bool.or_eq_false_iff] at h))))
      refine hJ (j + 1) (by omega) (by omega) _ ?_
      simp -implicitDefEqProofs (maxSteps := 1000000) (disch := (first | omega | (simp only [go_sem] <;> omega) | fail)) only [go_sem, ints, bools, mat, reduceIte, Nat.reduceEqDiff, Nat.reduceAdd, Nat.reduceBEq, Nat.reduceMul, Nat.reduceLeDiff, Nat.reduceLT, Nat.reduceMod, Nat.reduceDiv, Nat.reduceSub, reduceCtorEq]
      rw [List.take_add_one]; simp [show j < c.length by omega]
    · have : j = c.length := by omega
      subst this
      first | refine goC_call [.o] (d_slices_Sort (c.map t) (by simp; omega)) ?_ | refine goOC_call [.o] (d_slices_Sort (c.map t) (by simp; omega)) ?_
      repeat' (first | simp -implicitDefEqProofs (maxSteps := 1000000) (disch := (first | omega | (simp only [go_sem] <;> omega) | fail)) only [go_sem, ints, bools, mat, reduceIte, Nat.reduceEqDiff, Nat.reduceAdd, Nat.reduceBEq, Nat.reduceMul, Nat.reduceLeDiff, Nat.reduceLT, Nat.reduceMod, Nat.reduceDiv, Nat.reduceSub, reduceCtorEq] | ((first | refine goIf_b (fun h => ?_) (fun h => ?_) | refine goG_b (fun h => ?_) (fun h => ?_) | refine goTG_b (fun h => ?_) (fun h => ?_) | refine goOG_b (fun h => ?_) (fun h => ?_)) <;> ((try simp only [Bool.not_eq_true', Bool.not_eq_false'] at h); (try simp only [h]); (try simp only [decide_eq_true_eq, decide_eq_false_iff_not, bne_iff_ne, bne_eq_false_iff_eq, beq_iff_eq, beq_eq_false_iff_ne, ne_eq, Int.not_lt, Int.not_le, Bool.and_eq_true, Bool.and_eq_false_iff, Bool.or_eq_true, Bool.or_eq_false_iff] at h))))
      first | refine goC_call [.o] (d_slices_Compact (sortI (c.map t)) (by simp; omega)) ?_ | refine goOC_call [.o] (d_slices_Compact (sortI (c.map t)) (by simp; omega)) ?_
      repeat' (first | simp -implicitDefEqProofs (maxSteps := 1000000) (disch := (first | omega | (simp only [go_sem] <;> omega) | fail)) only [go_sem, ints, bools, mat, reduceIte, Nat.reduceEqDiff, Nat.reduceAdd, Nat.reduceBEq, Nat.reduceMul, Nat.reduceLeDiff, Nat.reduceLT, Nat.reduceMod, Nat.reduceDiv, Nat.reduceSub, reduceCtorEq] | ((first | refine goIf_b (fun h => ?_) (fun h => ?_) | refine goG_b (fun h => ?_) (fun h => ?_) | refine goTG_b (fun h => ?_) (fun h => ?_) | refine goOG_b (fun h => ?_) (fun h => ?_)) <;> ((try simp only [Bool.not_eq_true', Bool.not_eq_false'] at h); (try simp only [h]); (try simp only [decide_eq_true_eq, decide_eq_false_iff_not, bne_iff_ne, bne_eq_false_iff_eq, beq_iff_eq, beq_eq_false_iff_ne, ne_eq, Int.not_lt, Int.not_le, Bool.and_eq_true, Bool.and_eq_false_iff, Bool.or_eq_true, Bool.or_eq_false_iff] at h))))
theorem d_spec_l01Put (l : List Int) (x : Int) (hl : l.length < 1048576) : Den PA f_spec_l01Put [.own 1 (l.map di), .d (di x)] [.any, .any] (.own 1 ((putI l x).map di)) := by
  have hle := ptN_le l x l.length
  refine den_go [] l_spec_l01Put ?_
  repeat' (first | simp -implicitDefEqProofs (maxSteps := 1000000) (disch := (first | omega | (simp only [go_sem] <;> omega) | fail)) only [go_sem, ints, bools, mat, reduceIte, Nat.reduceEqDiff, Nat.reduceAdd, Nat.reduceBEq, Nat.reduceMul, Nat.reduceLeDiff, Nat.reduceLT, Nat.reduceMod, Nat.reduceDiv, Nat.reduceSub, reduceCtorEq, c_spec_l01Put] | ((first | refine goIf_b (fun h => ?_) (fun h => ?_) | refine goG_b (fun h => ?_) (fun h => ?_) | refine goTG_b (fun h => ?_) (fun h => ?_) | refine goOG_b (fun h => ?_) (fun h => ?_)) <;> ((try simp only [Bool.not_eq_true', Bool.not_eq_false'] at h); (try simp only [h]); (try simp only [decide_eq_true_eq, decide_eq_false_iff_not, bne_iff_ne, bne_eq_false_iff_eq, beq_iff_eq, beq_eq_false_iff_ne, ne_eq, Int.not_lt, Int.not_le, Bool.and_eq_true, Bool.and_eq_false_iff, Bool.or_eq_true, Bool.or_eq_false_iff] at h))))
  refine go_loop (fun (a : Nat) => ⟨[(0, .sl 0 0 l.length 1), (1, .d (di x)), (5, .d (di a))], [some (.dat 1 (l.map di))]⟩) (fun a => a ≤ l.length ∧ ptN l x l.length = ptN l x a) (fun a => a) l.length ?_ ?_ ?_
  · (simp -implicitDefEqProofs (maxSteps := 1000000) (disch := (first | omega | (simp only [go_sem] <;> omega) | fail)) only [go_sem, ints, bools, mat, reduceIte, Nat.reduceEqDiff, Nat.reduceAdd, Nat.reduceBEq, Nat.reduceMul, Nat.reduceLeDiff, Nat.reduceLT, Nat.reduceMod, Nat.reduceDiv, Nat.reduceSub, reduceCtorEq] <;> rfl)
  · exact ⟨Nat.le_refl _, rfl⟩
  · rintro a ⟨h1, h2⟩ J hJ
    cases a with
    | zero =>
      have e : putI l x = [x] ++ l := by simp [putI, h2, ptN]
      repeat' (first | simp -implicitDefEqProofs (maxSteps := 1000000) (disch := (first | omega | (simp only [go_sem] <;> omega) | fail)) only [go_sem, ints, bools, mat, reduceIte, Nat.reduceEqDiff, Nat.reduceAdd, Nat.reduceBEq, Nat.reduceMul, Nat.reduceLeDiff, Nat.reduceLT, Nat.reduceMod, Nat.reduceDiv, Nat.reduceSub, reduceCtorEq] | ((first | refine goIf_b (fun h => ?_) (fun h => ?_) | refine goG_b (fun h => ?_) (fun h => ?_) | refine goTG_b (fun h => ?_) (fun h => ?_) | refine goOG_b (fun h => ?_) (fun h => ?_)) <;> ((try simp only [Bool.not_eq_true', Bool.not_eq_false'] at h); (try simp only [h]); (try simp only [decide_eq_true_eq, decide_eq_false_iff_not, bne_iff_ne, bne_eq_false_iff_eq, beq_iff_eq, beq_eq_false_iff_ne, ne_eq, Int.not_lt, Int.not_le, Bool.and_eq_true, Bool.and_eq_false_iff, Bool.or_eq_true, Bool.or_eq_false_iff] at h)) <;> (try (exfalso; omega))))
      first | refine goC_call [.r] (d_spec_l01Own [] (by simp)) ?_ | refine goOC_call [.r] (d_spec_l01Own [] (by simp)) ?_
      repeat' (first | simp -implicitDefEqProofs (maxSteps := 1000000) (disch := (first | omega | (simp only [go_sem] <;> omega) | fail)) only [go_sem, ints, bools, mat, reduceIte, Nat.reduceEqDiff, Nat.reduceAdd, Nat.reduceBEq, Nat.reduceMul, Nat.reduceLeDiff, Nat.reduceLT, Nat.reduceMod, Nat.reduceDiv, Nat.reduceSub, reduceCtorEq] | ((first | refine goIf_b (fun h => ?_) (fun h => ?_) | refine goG_b (fun h => ?_) (fun h => ?_) | refine goTG_b (fun h => ?_) (fun h => ?_) | refine goOG_b (fun h => ?_) (fun h => ?_)) <;> ((try simp only [Bool.not_eq_true', Bool.not_eq_false'] at h); (try simp only [h]); (try simp only [decide_eq_true_eq, decide_eq_false_iff_not, bne_iff_ne, bne_eq_false_iff_eq, beq_iff_eq, beq_eq_false_iff_ne, ne_eq, Int.not_lt, Int.not_le, Bool.and_eq_true, Bool.and_eq_false_iff, Bool.or_eq_true, Bool.or_eq_false_iff] at h)) <;> (try (exfalso; omega))))
      rw [e]; rfl
    | succ a =>
      repeat' (first | simp -implicitDefEqProofs (maxSteps := 1000000) (disch := (first | omega | (simp only [go_sem] <;> omega) | fail)) only [go_sem, ints, bools, mat, reduceIte, Nat.reduceEqDiff, Nat.reduceAdd, Nat.reduceBEq, Nat.reduceMul, Nat.reduceLeDiff, Nat.reduceLT, Nat.reduceMod, Nat.reduceDiv, Nat.reduceSub, reduceCtorEq] | ((first | refine goIf_b (fun h => ?_) (fun h => ?_) | refine goG_b (fun h => ?_) (fun h => ?_) | refine goTG_b (fun h => ?_) (fun h => ?_) | refine goOG_b (fun h => ?_) (fun h => ?_)) <;> ((try simp only [Bool.not_eq_true', Bool.not_eq_false'] at h); (try simp only [h]); (try simp only [decide_eq_true_eq, decide_eq_false_iff_not, bne_iff_ne, bne_eq_false_iff_eq, beq_iff_eq, beq_eq_false_iff_ne, ne_eq, Int.not_lt, Int.not_le, Bool.and_eq_true, Bool.and_eq_false_iff, Bool.or_eq_true, Bool.or_eq_false_iff] at h)) <;> (try (exfalso; omega))))
      · refine hJ a ⟨by omega, ?_⟩ (by omega) _ ?_
        · rw [h2, ptN, if_pos (by simpa using h)]
        · (simp -implicitDefEqProofs (maxSteps := 1000000) (disch := (first | omega | (simp only [go_sem] <;> omega) | fail)) only [go_sem, ints, bools, mat, reduceIte, Nat.reduceEqDiff, Nat.reduceAdd, Nat.reduceBEq, Nat.reduceMul, Nat.reduceLeDiff, Nat.reduceLT, Nat.reduceMod, Nat.reduceDiv, Nat.reduceSub, reduceCtorEq] <;> rfl)
      · have hx : ptN l x (a + 1) = a + 1 := by rw [ptN, if_neg (by omega)]
        rw [putI, h2, hx, if_pos ⟨by omega, by simpa using h⟩]
      · have hx : ptN l x (a + 1) = a + 1 := by rw [ptN, if_neg (by omega)]
        first | refine goC_call [.r] (d_spec_l01Own (l.take (a + 1)) (by simp; omega)) ?_ | refine goOC_call [.r] (d_spec_l01Own (l.take (a + 1)) (by simp; omega)) ?_
        repeat' (first | simp -implicitDefEqProofs (maxSteps := 1000000) (disch := (first | omega | (simp only [go_sem] <;> omega) | fail)) only [go_sem, ints, bools, mat, reduceIte, Nat.reduceEqDiff, Nat.reduceAdd, Nat.reduceBEq, Nat.reduceMul, Nat.reduceLeDiff, Nat.reduceLT, Nat.reduceMod, Nat.reduceDiv, Nat.reduceSub, reduceCtorEq] | ((first | refine goIf_b (fun h => ?_) (fun h => ?_) | refine goG_b (fun h => ?_) (fun h => ?_) | refine goTG_b (fun h => ?_) (fun h => ?_) | refine goOG_b (fun h => ?_) (fun h => ?_)) <;> ((try simp only [Bool.not_eq_true', Bool.not_eq_false'] at h); (try simp only [h]); (try simp only [decide_eq_true_eq, decide_eq_false_iff_not, bne_iff_ne, bne_eq_false_iff_eq, beq_iff_eq, beq_eq_false_iff_ne, ne_eq, Int.not_lt, Int.not_le, Bool.and_eq_true, Bool.and_eq_false_iff, Bool.or_eq_true, Bool.or_eq_false_iff] at h)) <;> (try (exfalso; omega))))
        rw [putI, h2, hx, if_neg (fun hc => h (by simpa using hc.2))]
/-- All are words. -/
abbrev inC (l c : List Int) : Prop := ∀ u, u ∈ c → 0 ≤ u ∧ u < prodM l
theorem inC_get {l c : List Int} (h : inC l c) : ∀ j, j < c.length → 0 ≤ c.getD j 0 ∧ c.getD j 0 < prodM l := fun j hj => h _ (mem_getD hj)
theorem inC_big {l c : List Int} (hs : isSpaceM l = true) (h : inC l c) : ∀ j, j < c.length → 0 ≤ c.getD j 0 ∧ c.getD j 0 < 1000000000000 := fun j hj => by
  have := inC_get h j hj; have := isSpaceM_prod hs; omega
theorem inC_code {l c : List Int} (hcc : isCodeM l c = true) : inC l c := fun u hu => code_mem hcc hu
theorem d_impl_shifted_1 (l : List Int) (hs : isSpaceM l = true) (u w : Int) (hu : 0 ≤ u) (hu2 : u < 1000000000000) :
    Den PA f_impl_shifted_1 [.d (di u), .box [ints l], .box ((pad8 (digM l w)).map dy)] [.any, .any, .any] (.d (di (sumW l u w))) := by
  have hn := isSpaceM_n hs
  have hz := isSpaceM_szs hs
  have ea := digM_len l u
  have eb := digM_len l w
  refine den_go [] l_impl_shifted_1 ?_
  repeat' (first | simp -implicitDefEqProofs (maxSteps := 1000000) (disch := (first | omega | (simp only [go_sem] <;> omega) | fail)) only [go_sem, ints, bools, mat, reduceIte, Nat.reduceEqDiff, Nat.reduceAdd, Nat.reduceBEq, Nat.reduceMul, Nat.reduceLeDiff, Nat.reduceLT, Nat.reduceMod, Nat.reduceDiv, Nat.reduceSub, reduceCtorEq, c_impl_shifted_1] | ((first | refine goIf_b (fun h => ?_) (fun h => ?_) | refine goG_b (fun h => ?_) (fun h => ?_) | refine goTG_b (fun h => ?_) (fun h => ?_) | refine goOG_b (fun h => ?_) (fun h => ?_)) <;> ((try simp only [Bool.not_eq_true', Bool.not_eq_false'] at h); (try simp only [h]); (try simp only [decide_eq_true_eq, decide_eq_false_iff_not, bne_iff_ne, bne_eq_false_iff_eq, beq_iff_eq, beq_eq_false_iff_ne, ne_eq, Int.not_lt, Int.not_le, Bool.and_eq_true, Bool.and_eq_false_iff, Bool.or_eq_true, Bool.or_eq_false_iff] at h))))
  first | refine goC_call [.r, .r] (d_impl_digitsOf l hs u hu hu2) ?_ | refine goOC_call [.r, .r] (d_impl_digitsOf l hs u hu hu2) ?_
  repeat' (first | simp -implicitDefEqProofs (maxSteps := 1000000) (disch := (first | omega | (simp only [go_sem] <;> omega) | fail)) only [go_sem, ints, bools, mat, reduceIte, Nat.reduceEqDiff, Nat.reduceAdd, Nat.reduceBEq, Nat.reduceMul, Nat.reduceLeDiff, Nat.reduceLT, Nat.reduceMod, Nat.reduceDiv, Nat.reduceSub, reduceCtorEq] | ((first | refine goIf_b (fun h => ?_) (fun h => ?_) | refine goG_b (fun h => ?_) (fun h => ?_) | refine goTG_b (fun h => ?_) (fun h => ?_) | refine goOG_b (fun h => ?_) (fun h => ?_)) <;> ((try simp only [Bool.not_eq_true', Bool.not_eq_false'] at h); (try simp only [h]); (try simp only [decide_eq_true_eq, decide_eq_false_iff_not, bne_iff_ne, bne_eq_false_iff_eq, beq_iff_eq, beq_eq_false_iff_ne, ne_eq, Int.not_lt, Int.not_le, Bool.and_eq_true, Bool.and_eq_false_iff, Bool.or_eq_true, Bool.or_eq_false_iff] at h))))
  first | refine goC_call [.r, .r, .r] (d_impl_sumOf l (digM l u) (digM l w) hs (by omega) (by omega) (digM_bnd u hz) (digM_bnd w hz)) ?_ | refine goOC_call [.r, .r, .r] (d_impl_sumOf l (digM l u) (digM l w) hs (by omega) (by omega) (digM_bnd u hz) (digM_bnd w hz)) ?_
  repeat' (first | simp -implicitDefEqProofs (maxSteps := 1000000) (disch := (first | omega | (simp only [go_sem] <;> omega) | fail)) only [go_sem, ints, bools, mat, reduceIte, Nat.reduceEqDiff, Nat.reduceAdd, Nat.reduceBEq, Nat.reduceMul, Nat.reduceLeDiff, Nat.reduceLT, Nat.reduceMod, Nat.reduceDiv, Nat.reduceSub, reduceCtorEq] | ((first | refine goIf_b (fun h => ?_) (fun h => ?_) | refine goG_b (fun h => ?_) (fun h => ?_) | refine goTG_b (fun h => ?_) (fun h => ?_) | refine goOG_b (fun h => ?_) (fun h => ?_)) <;> ((try simp only [Bool.not_eq_true', Bool.not_eq_false'] at h); (try simp only [h]); (try simp only [decide_eq_true_eq, decide_eq_false_iff_not, bne_iff_ne, bne_eq_false_iff_eq, beq_iff_eq, beq_eq_false_iff_ne, ne_eq, Int.not_lt, Int.not_le, Bool.and_eq_true, Bool.and_eq_false_iff, Bool.or_eq_true, Bool.or_eq_false_iff] at h))))
  first | refine goC_call [.r, .r] (d_impl_wordOf l (sumM l (digM l u) (digM l w)) hs (by rw [sumM_len]; omega) (sumM_lt hz _ _)) ?_ | refine goOC_call [.r, .r] (d_impl_wordOf l (sumM l (digM l u) (digM l w)) hs (by rw [sumM_len]; omega) (sumM_lt hz _ _)) ?_
  repeat' (first | simp -implicitDefEqProofs (maxSteps := 1000000) (disch := (first | omega | (simp only [go_sem] <;> omega) | fail)) only [go_sem, ints, bools, mat, reduceIte, Nat.reduceEqDiff, Nat.reduceAdd, Nat.reduceBEq, Nat.reduceMul, Nat.reduceLeDiff, Nat.reduceLT, Nat.reduceMod, Nat.reduceDiv, Nat.reduceSub, reduceCtorEq] | ((first | refine goIf_b (fun h => ?_) (fun h => ?_) | refine goG_b (fun h => ?_) (fun h => ?_) | refine goTG_b (fun h => ?_) (fun h => ?_) | refine goOG_b (fun h => ?_) (fun h => ?_)) <;> ((try simp only [Bool.not_eq_true', Bool.not_eq_false'] at h); (try simp only [h]); (try simp only [decide_eq_true_eq, decide_eq_false_iff_not, bne_iff_ne, bne_eq_false_iff_eq, beq_iff_eq, beq_eq_false_iff_ne, ne_eq, Int.not_lt, Int.not_le, Bool.and_eq_true, Bool.and_eq_false_iff, Bool.or_eq_true, Bool.or_eq_false_iff] at h))))
  rfl
/-- A shifted code. -/
abbrev shM (l c : List Int) (w : Int) : List Int := setI (c.map fun u => sumW l u w)
theorem shM_len (l c : List Int) (w : Int) : (shM l c w).length ≤ c.length := Nat.le_trans (setI_len _) (by simp)
theorem shM_in {l : List Int} (hs : isSpaceM l = true) (c : List Int) (w : Int) : inC l (shM l c w) := fun u hu => by
  rw [setI_mem, List.mem_map] at hu
  obtain ⟨v, _, rfl⟩ := hu
  exact sumW_bnd hs v w
theorem d_impl_shifted (l c : List Int) (hs : isSpaceM l = true) (hc : c.length < 1048577) (hcw : inC l c) (w : Int) (hw : 0 ≤ w) (hw2 : w < 1000000000000) :
    Den PA f_impl_shifted [.d (.agg [ints l]), .d (ints c), .d (di w)] [.any, .any, .any] (.own 1 ((shM l c w).map di)) := by
  have hn := isSpaceM_n hs
  have hz := isSpaceM_szs hs
  have hp := isSpaceM_prod hs
  refine den_go [] l_impl_shifted ?_
  repeat' (first | simp -implicitDefEqProofs (maxSteps := 1000000) (disch := (first | omega | (simp only [go_sem] <;> omega) | fail)) only [go_sem, ints, bools, mat, reduceIte, Nat.reduceEqDiff, Nat.reduceAdd, Nat.reduceBEq, Nat.reduceMul, Nat.reduceLeDiff, Nat.reduceLT, Nat.reduceMod, Nat.reduceDiv, Nat.reduceSub, reduceCtorEq, c_impl_shifted] | ((first | refine goIf_b (fun h => ?_) (fun h => ?_) | refine goG_b (fun h => ?_) (fun h => ?_) | refine goTG_b (fun h => ?_) (fun h => ?_) | refine goOG_b (fun h => ?_) (fun h => ?_)) <;> ((try simp only [Bool.not_eq_true', Bool.not_eq_false'] at h); (try simp only [h]); (try simp only [decide_eq_true_eq, decide_eq_false_iff_not, bne_iff_ne, bne_eq_false_iff_eq, beq_iff_eq, beq_eq_false_iff_ne, ne_eq, Int.not_lt, Int.not_le, Bool.and_eq_true, Bool.and_eq_false_iff, Bool.or_eq_true, Bool.or_eq_false_iff] at h))))
  first | refine goC_call [.r, .r] (d_impl_digitsOf l hs w hw hw2) ?_ | refine goOC_call [.r, .r] (d_impl_digitsOf l hs w hw hw2) ?_
  repeat' (first | simp -implicitDefEqProofs (maxSteps := 1000000) (disch := (first | omega | (simp only [go_sem] <;> omega) | fail)) only [go_sem, ints, bools, mat, reduceIte, Nat.reduceEqDiff, Nat.reduceAdd, Nat.reduceBEq, Nat.reduceMul, Nat.reduceLeDiff, Nat.reduceLT, Nat.reduceMod, Nat.reduceDiv, Nat.reduceSub, reduceCtorEq] | ((first | refine goIf_b (fun h => ?_) (fun h => ?_) | refine goG_b (fun h => ?_) (fun h => ?_) | refine goTG_b (fun h => ?_) (fun h => ?_) | refine goOG_b (fun h => ?_) (fun h => ?_)) <;> ((try simp only [Bool.not_eq_true', Bool.not_eq_false'] at h); (try simp only [h]); (try simp only [decide_eq_true_eq, decide_eq_false_iff_not, bne_iff_ne, bne_eq_false_iff_eq, beq_iff_eq, beq_eq_false_iff_ne, ne_eq, Int.not_lt, Int.not_le, Bool.and_eq_true, Bool.and_eq_false_iff, Bool.or_eq_true, Bool.or_eq_false_iff] at h))))
  first | refine goC_call [.r, .g (fnT c fun u => sumW l u w)] (d_impl_mapped c (fun u => sumW l u w) hc) ?_ | refine goOC_call [.r, .g (fnT c fun u => sumW l u w)] (d_impl_mapped c (fun u => sumW l u w) hc) ?_
  repeat' (first | simp -implicitDefEqProofs (maxSteps := 1000000) (disch := (first | omega | (simp only [go_sem] <;> omega) | fail)) only [go_sem, ints, bools, mat, reduceIte, Nat.reduceEqDiff, Nat.reduceAdd, Nat.reduceBEq, Nat.reduceMul, Nat.reduceLeDiff, Nat.reduceLT, Nat.reduceMod, Nat.reduceDiv, Nat.reduceSub, reduceCtorEq] | ((first | refine goIf_b (fun h => ?_) (fun h => ?_) | refine goG_b (fun h => ?_) (fun h => ?_) | refine goTG_b (fun h => ?_) (fun h => ?_) | refine goOG_b (fun h => ?_) (fun h => ?_)) <;> ((try simp only [Bool.not_eq_true', Bool.not_eq_false'] at h); (try simp only [h]); (try simp only [decide_eq_true_eq, decide_eq_false_iff_not, bne_iff_ne, bne_eq_false_iff_eq, beq_iff_eq, beq_eq_false_iff_ne, ne_eq, Int.not_lt, Int.not_le, Bool.and_eq_true, Bool.and_eq_false_iff, Bool.or_eq_true, Bool.or_eq_false_iff] at h))))
  refine chk_intro (fnOK_mk (d_impl_shifted_1 l hs 0 w (by omega) (by omega)).1 [[ints l], (pad8 (digM l w)).map dy] (by simp -implicitDefEqProofs (maxSteps := 1000000) (disch := (first | omega | (simp only [go_sem] <;> omega) | fail)) only [go_sem, ints, bools, mat, reduceIte, Nat.reduceEqDiff, Nat.reduceAdd, Nat.reduceBEq, Nat.reduceMul, Nat.reduceLeDiff, Nat.reduceLT, Nat.reduceMod, Nat.reduceDiv, Nat.reduceSub, reduceCtorEq]) fun ds r hgg => ?_) ?_
  · obtain ⟨u, hu, rfl, rfl⟩ := hgg
    have := hcw u hu
    exact ⟨_, d_impl_shifted_1 l hs u w (by omega) (by omega)⟩
  repeat' (first | simp -implicitDefEqProofs (maxSteps := 1000000) (disch := (first | omega | (simp only [go_sem] <;> omega) | fail)) only [go_sem, ints, bools, mat, reduceIte, Nat.reduceEqDiff, Nat.reduceAdd, Nat.reduceBEq, Nat.reduceMul, Nat.reduceLeDiff, Nat.reduceLT, Nat.reduceMod, Nat.reduceDiv, Nat.reduceSub, reduceCtorEq] | ((first | refine goIf_b (fun h => ?_) (fun h => ?_) | refine goG_b (fun h => ?_) (fun h => ?_) | refine goTG_b (fun h => ?_) (fun h => ?_) | refine goOG_b (fun h => ?_) (fun h => ?_)) <;> ((try simp only [Bool.not_eq_true', Bool.not_eq_false'] at h); (try simp only [h]); (try simp only [decide_eq_true_eq, decide_eq_false_iff_not, bne_iff_ne, bne_eq_false_iff_eq, beq_iff_eq, beq_eq_false_iff_ne, ne_eq, Int.not_lt, Int.not_le, Bool.and_eq_true, Bool.and_eq_false_iff, Bool.or_eq_true, Bool.or_eq_false_iff] at h))))
theorem d_spec_l01Shifted (l c : List Int) (hs : isSpaceM l = true) (hc : c.length < 1048577) (hcw : inC l c) (w : Int) (hw : 0 ≤ w) (hw2 : w < 1000000000000) :
    Den PA f_spec_l01Shifted [.d (.agg [ints l]), .d (ints c), .d (di w)] [.any, .any, .any] (.own 1 ((shM l c w).map di)) := by
  have hb := inC_big hs hcw
  rw [show shM l c w = _ from (putsN_map c fun u => sumW l u w).symm]
  refine den_go [] l_spec_l01Shifted ?_
  repeat' (first | simp -implicitDefEqProofs (maxSteps := 1000000) (disch := (first | omega | (simp only [go_sem] <;> omega) | fail)) only [go_sem, ints, bools, mat, reduceIte, Nat.reduceEqDiff, Nat.reduceAdd, Nat.reduceBEq, Nat.reduceMul, Nat.reduceLeDiff, Nat.reduceLT, Nat.reduceMod, Nat.reduceDiv, Nat.reduceSub, reduceCtorEq, c_spec_l01Shifted] | ((first | refine goIf_b (fun h => ?_) (fun h => ?_) | refine goG_b (fun h => ?_) (fun h => ?_) | refine goTG_b (fun h => ?_) (fun h => ?_) | refine goOG_b (fun h => ?_) (fun h => ?_)) <;> ((try simp only [Bool.not_eq_true', Bool.not_eq_false'] at h); (try simp only [h]); (try simp only [decide_eq_true_eq, decide_eq_false_iff_not, bne_iff_ne, bne_eq_false_iff_eq, beq_iff_eq, beq_eq_false_iff_ne, ne_eq, Int.not_lt, Int.not_le, Bool.and_eq_true, Bool.and_eq_false_iff, Bool.or_eq_true, Bool.or_eq_false_iff] at h))))
  refine go_loop (fun (j : Nat) => ⟨[(1, .d (ints c)), (2, .d (di w)), (3, .ref 0 0), (7, .sl 1 0 (putsN (fun i => sumW l (c.getD i 0) w) j).length 1), (11, .d (di c.length)), (12, .d (di j))], [some (.var [ints l]), some (.dat 1 ((putsN (fun i => sumW l (c.getD i 0) w) j).map di))]⟩) (fun j => j ≤ c.length) (fun j => c.length - j) 0 ?_ ?_ ?_
  · (simp -implicitDefEqProofs (maxSteps := 1000000) (disch := (first | omega | (simp only [go_sem] <;> omega) | fail)) only [go_sem, ints, bools, mat, reduceIte, Nat.reduceEqDiff, Nat.reduceAdd, Nat.reduceBEq, Nat.reduceMul, Nat.reduceLeDiff, Nat.reduceLT, Nat.reduceMod, Nat.reduceDiv, Nat.reduceSub, reduceCtorEq] <;> rfl)
  · simp
  · rintro j hj J hJ
    have hpl := putsN_len (fun i => sumW l (c.getD i 0) w) j
    have hbj := hb j
    repeat' (first | simp -implicitDefEqProofs (maxSteps := 1000000) (disch := (first | omega | (simp only [go_sem] <;> omega) | fail)) only [go_sem, ints, bools, mat, reduceIte, Nat.reduceEqDiff, Nat.reduceAdd, Nat.reduceBEq, Nat.reduceMul, Nat.reduceLeDiff, Nat.reduceLT, Nat.reduceMod, Nat.reduceDiv, Nat.reduceSub, reduceCtorEq] | ((first | refine goIf_b (fun h => ?_) (fun h => ?_) | refine goG_b (fun h => ?_) (fun h => ?_) | refine goTG_b (fun h => ?_) (fun h => ?_) | refine goOG_b (fun h => ?_) (fun h => ?_)) <;> ((try simp only [Bool.not_eq_true', Bool.not_eq_false'] at h); (try simp only [h]); (try simp only [decide_eq_true_eq, decide_eq_false_iff_not, bne_iff_ne, bne_eq_false_iff_eq, beq_iff_eq, beq_eq_false_iff_ne, ne_eq, Int.not_lt, Int.not_le, Bool.and_eq_true, Bool.and_eq_false_iff, Bool.or_eq_true, Bool.or_eq_false_iff] at h))))
    · first | refine goC_call [.r, .r, .r] (d_spec_l01Sum l hs (c.getD j 0) w (by omega) (by omega) hw hw2) ?_ | refine goOC_call [.r, .r, .r] (d_spec_l01Sum l hs (c.getD j 0) w (by omega) (by omega) hw hw2) ?_
      repeat' (first | simp -implicitDefEqProofs (maxSteps := 1000000) (disch := (first | omega | (simp only [go_sem] <;> omega) | fail)) only [go_sem, ints, bools, mat, reduceIte, Nat.reduceEqDiff, Nat.reduceAdd, Nat.reduceBEq, Nat.reduceMul, Nat.reduceLeDiff, Nat.reduceLT, Nat.reduceMod, Nat.reduceDiv, Nat.reduceSub, reduceCtorEq] | ((first | refine goIf_b (fun h => ?_) (fun h => ?_) | refine goG_b (fun h => ?_) (fun h => ?_) | refine goTG_b (fun h => ?_) (fun h => ?_) | refine goOG_b (fun h => ?_) (fun h => ?_)) <;> ((try simp only [Bool.not_eq_true', Bool.not_eq_false'] at h); (try simp only [h]); (try simp only [decide_eq_true_eq, decide_eq_false_iff_not, bne_iff_ne, bne_eq_false_iff_eq, beq_iff_eq, beq_eq_false_iff_ne, ne_eq, Int.not_lt, Int.not_le, Bool.and_eq_true, Bool.and_eq_false_iff, Bool.or_eq_true, Bool.or_eq_false_iff] at h))))
      first | refine goC_call [.o, .r] (d_spec_l01Put (putsN (fun i => sumW l (c.getD i 0) w) j) (sumW l (c.getD j 0) w) (by omega)) ?_ | refine goOC_call [.o, .r] (d_spec_l01Put (putsN (fun i => sumW l (c.getD i 0) w) j) (sumW l (c.getD j 0) w) (by omega)) ?_
      repeat' (first | simp -implicitDefEqProofs (maxSteps := 1000000) (disch := (first | omega | (simp only [go_sem] <;> omega) | fail)) only [go_sem, ints, bools, mat, reduceIte, Nat.reduceEqDiff, Nat.reduceAdd, Nat.reduceBEq, Nat.reduceMul, Nat.reduceLeDiff, Nat.reduceLT, Nat.reduceMod, Nat.reduceDiv, Nat.reduceSub, reduceCtorEq] | ((first | refine goIf_b (fun h => ?_) (fun h => ?_) | refine goG_b (fun h => ?_) (fun h => ?_) | refine goTG_b (fun h => ?_) (fun h => ?_) | refine goOG_b (fun h => ?_) (fun h => ?_)) <;> ((try simp only [Bool.not_eq_true', Bool.not_eq_false'] at h); (try simp only [h]); (try simp only [decide_eq_true_eq, decide_eq_false_iff_not, bne_iff_ne, bne_eq_false_iff_eq, beq_iff_eq, beq_eq_false_iff_ne, ne_eq, Int.not_lt, Int.not_le, Bool.and_eq_true, Bool.and_eq_false_iff, Bool.or_eq_true, Bool.or_eq_false_iff] at h))))
      refine hJ (j + 1) (by omega) (by omega) _ ?_
      simp -implicitDefEqProofs (maxSteps := 1000000) (disch := (first | omega | (simp only [go_sem] <;> omega) | fail)) only [go_sem, ints, bools, mat, reduceIte, Nat.reduceEqDiff, Nat.reduceAdd, Nat.reduceBEq, Nat.reduceMul, Nat.reduceLeDiff, Nat.reduceLT, Nat.reduceMod, Nat.reduceDiv, Nat.reduceSub, reduceCtorEq]
      rfl
    · have : j = c.length := by omega
      subst this
      repeat' (first | simp -implicitDefEqProofs (maxSteps := 1000000) (disch := (first | omega | (simp only [go_sem] <;> omega) | fail)) only [go_sem, ints, bools, mat, reduceIte, Nat.reduceEqDiff, Nat.reduceAdd, Nat.reduceBEq, Nat.reduceMul, Nat.reduceLeDiff, Nat.reduceLT, Nat.reduceMod, Nat.reduceDiv, Nat.reduceSub, reduceCtorEq] | ((first | refine goIf_b (fun h => ?_) (fun h => ?_) | refine goG_b (fun h => ?_) (fun h => ?_) | refine goTG_b (fun h => ?_) (fun h => ?_) | refine goOG_b (fun h => ?_) (fun h => ?_)) <;> ((try simp only [Bool.not_eq_true', Bool.not_eq_false'] at h); (try simp only [h]); (try simp only [decide_eq_true_eq, decide_eq_false_iff_not, bne_iff_ne, bne_eq_false_iff_eq, beq_iff_eq, beq_eq_false_iff_ne, ne_eq, Int.not_lt, Int.not_le, Bool.and_eq_true, Bool.and_eq_false_iff, Bool.or_eq_true, Bool.or_eq_false_iff] at h))))
theorem q_cases {l : List Int} (hz : szs l) {i : Nat} (h : i < l.length) : l.getD i 0 = 2 ∨ l.getD i 0 = 3 ∨ l.getD i 0 = 4 := by
  have := hz i h; omega
theorem sumW_inj {l : List Int} (hs : isSpaceM l = true) {u v : Int} (hu : 0 ≤ u ∧ u < prodM l) (hv : 0 ≤ v ∧ v < prodM l) (w : Int) (h : sumW l u w = sumW l v w) : u = v := by
  have hz := isSpaceM_szs hs
  refine word_eq hz hu hv fun i hi => ?_
  have e := congrArg (fun x => (digM l x).getD i 0) h
  simp only [sumW_dig hz _ _ hi] at e
  have h1 := dig_lt hz u hi
  have h2 := dig_lt hz v hi
  rcases q_cases hz hi with hq | hq | hq <;> rw [hq] at h1 h2 e <;> omega
theorem sumW_assoc {l : List Int} (hs : isSpaceM l = true) (u v w : Int) : sumW l (sumW l u v) w = sumW l u (sumW l v w) := by
  have hz := isSpaceM_szs hs
  refine word_eq hz (sumW_bnd hs _ _) (sumW_bnd hs _ _) fun i hi => ?_
  simp only [sumW_dig hz _ _ hi]
  have h1 := dig_lt hz u hi
  have h2 := dig_lt hz v hi
  have h3 := dig_lt hz w hi
  rcases q_cases hz hi with hq | hq | hq <;> rw [hq] at h1 h2 h3 ⊢ <;> omega
/-- The opposite of a word. -/
def oppD (l a : List Int) : List Int := (List.range l.length).map fun (i : Nat) => (l.getD i 0 - a.getD i 0) % l.getD i 0
@[go_sem] theorem oppD_len (l a : List Int) : (oppD l a).length = l.length := by simp [oppD]
theorem oppD_get {l : List Int} (a : List Int) {i : Nat} (h : i < l.length) : (oppD l a).getD i 0 = (l.getD i 0 - a.getD i 0) % l.getD i 0 := by simp [oppD, h]
theorem oppD_lt {l : List Int} (hz : szs l) (a : List Int) : ∀ i, i < l.length → 0 ≤ (oppD l a).getD i 0 ∧ (oppD l a).getD i 0 < l.getD i 0 := fun i hi => by
  rw [oppD_get a hi]
  have h := hz i hi
  have := mod_bnd (x := l.getD i 0 - a.getD i 0) h
  omega
theorem oppD_bnd {l : List Int} (hz : szs l) (a : List Int) : in4 (oppD l a) := fun i => by
  by_cases h : i < l.length
  · have := oppD_lt hz a i h; have := hz i h; omega
  · rw [List.getD_eq_getElem?_getD, List.getElem?_eq_none (by rw [oppD_len]; omega)]; simp
def oppW (l : List Int) (u : Int) : Int := wordN l (oppD l (digM l u)) l.length
theorem oppW_bnd {l : List Int} (hs : isSpaceM l = true) (u : Int) : 0 ≤ oppW l u ∧ oppW l u < prodM l := by
  have := wordN_bnd (isSpaceM_szs hs) (oppD_lt (isSpaceM_szs hs) (digM l u)) l.length (Nat.le_refl _)
  rwa [List.take_length] at this
theorem oppW_digs {l : List Int} (hz : szs l) (u : Int) : digM l (oppW l u) = oppD l (digM l u) := digM_word hz (oppD_len _ _) (oppD_lt hz _)
theorem oppW_dig {l : List Int} (hz : szs l) (u : Int) {i : Nat} (h : i < l.length) : (digM l (oppW l u)).getD i 0 = (l.getD i 0 - (digM l u).getD i 0) % l.getD i 0 := by
  rw [oppW_digs hz, oppD_get _ h]
/-- u, less w. -/
abbrev difW (l : List Int) (u w : Int) : Int := sumW l u (oppW l w)
theorem difW_bnd {l : List Int} (hs : isSpaceM l = true) (u w : Int) : 0 ≤ difW l u w ∧ difW l u w < prodM l := sumW_bnd hs _ _
theorem dif_sum {l : List Int} (hs : isSpaceM l = true) {u : Int} (hu : 0 ≤ u ∧ u < prodM l) (w : Int) : sumW l (difW l u w) w = u := by
  have hz := isSpaceM_szs hs
  refine word_eq hz (sumW_bnd hs _ _) hu fun i hi => ?_
  simp only [sumW_dig hz _ _ hi, oppW_dig hz _ hi]
  have h1 := dig_lt hz u hi
  have h2 := dig_lt hz w hi
  rcases q_cases hz hi with hq | hq | hq <;> rw [hq] at h1 h2 ⊢ <;> omega
theorem sumW_zero {l : List Int} (hs : isSpaceM l = true) {u : Int} (hu : 0 ≤ u ∧ u < prodM l) : sumW l u 0 = u := by
  have hz := isSpaceM_szs hs
  refine word_eq hz (sumW_bnd hs _ _) hu fun i hi => ?_
  rw [sumW_dig hz _ _ hi, digM_zero]
  have h1 := dig_lt hz u hi
  rw [show (List.replicate l.length (0 : Int)).getD i 0 = 0 by simp [hi], Int.add_zero]; exact Int.emod_eq_of_lt h1.1 h1.2
theorem code_asc {l c : List Int} (hcc : isCodeM l c = true) : Asc c := List.pairwise_iff_getElem.2 fun i k hi hk hik => by
  have := code_nodup hcc i k hik hk
  simpa [hi, hk] using this
theorem setI_len_nodup {l : List Int} (h : l.Nodup) : (setI l).length = l.length := by rw [← sortI_nodup h]; exact List.length_mergeSort l
theorem shM_mem {l c : List Int} {w x : Int} : x ∈ shM l c w ↔ ∃ u, u ∈ c ∧ sumW l u w = x := by rw [setI_mem, List.mem_map]
theorem shM_asc (l c : List Int) (w : Int) : Asc (shM l c w) := setI_asc _
theorem allW_asc (l : List Int) : Asc (allW l) := by
  unfold allW
  exact List.Pairwise.map _ (fun a b h => by omega) List.pairwise_lt_range
theorem allW_mem' {l : List Int} (hs : isSpaceM l = true) (u : Int) : u ∈ allW l ↔ 0 ≤ u ∧ u < prodM l := by
  have := prodM_pos (isSpaceM_szs hs)
  rw [allW_mem]; omega
/-- A set of words is the words that lie in it. -/
theorem setI_filter {l c : List Int} (hs : isSpaceM l = true) (hc : inC l c) : setI c = (allW l).filter fun u => decide (u ∈ c) := by
  refine setI_eq ((allW_asc l).filter _) fun x => ?_
  rw [List.mem_filter, allW_mem' hs, decide_eq_true_eq]
  exact ⟨fun h => h.2, fun h => ⟨hc x h, h⟩⟩
theorem nodup_small {l c : List Int} (hs : isSpaceM l = true) (hc : inC l c) (hn : c.Nodup) : c.length ≤ (prodM l).toNat := by
  have e : c.length = ((allW l).filter fun u => decide (u ∈ c)).length := by rw [← setI_filter hs hc, setI_len_nodup hn]
  rw [e, ← allW_len l]; exact List.length_filter_le _ _
/-- A group of words of a plain space. -/
structure Grp (l c : List Int) : Prop where
  asc : Asc c
  inc : inC l c
  zer : (0 : Int) ∈ c
  clo : ∀ u v, u ∈ c → v ∈ c → sumW l u v ∈ c
theorem q23 {l : List Int} (hs : isSpaceM l = true) (hp : plainM l = true) {k : Nat} (h : k < l.length) : l.getD k 0 = l.getD 0 0 ∧ (l.getD 0 0 = 2 ∨ l.getD 0 0 = 3) := by
  have h1 := (plainM_ok l).1 hp k h
  have h2 := isSpaceM_szs hs k h
  omega
theorem grp_len {l c : List Int} (hs : isSpaceM l = true) (g : Grp l c) : c.length ≤ (prodM l).toNat := nodup_small hs g.inc (asc_nodup g.asc)
@[go_sem] theorem binA_shru1 {a : Int} (h : 0 ≤ a) (h' : a < 18446744073709551616) : binA .shr (.d (.v (.int .u64 a))) (.d (.v (.int .u64 1))) = some (.d (.v (.int .u64 (a / 2)))) := by
  have e : min (1 : Int).toNat 64 = 1 := rfl
  have h1 : (0 : Int) ≤ 2 ^ 1 := by decide
  simp only [binA, binI, BinOp.isShift, true_or, if_true, if_neg (show ¬ (1 : Int) < 0 by omega), IntKind.bits, e, Option.map_some, Int.fdiv_eq_ediv_of_nonneg _ h1]
  rfl
theorem asc_lt {c : List Int} (h : Asc c) {i k : Nat} (hik : i < k) (hk : k < c.length) : c.getD i 0 < c.getD k 0 := by
  have := List.pairwise_iff_getElem.1 h i k (by omega) hk hik
  simpa [show i < c.length by omega, hk] using this
@[go_sem] theorem capA_nil : capA (.d nil) = some (.d (di 0)) := rfl
@[go_sem] theorem capA_nil' : capA (.d (.v (.slice none 0 0))) = some (.d (di 0)) := rfl
theorem areW_inC {l ws : List Int} (h : areW l ws = true) : inC l ws := fun u hu => by
  obtain ⟨i, hi, e⟩ := List.mem_iff_getElem.1 hu
  have := (areW_ok l ws).1 h i hi
  rw [← e]; simpa [hi] using this
theorem lin_grp {l c : List Int} (hs : isSpaceM l = true) (hcc : isCodeM l c = true) (hl : linB l c = true) : Grp l c := by
  refine ⟨code_asc hcc, inC_code hcc, ?_, fun u v hu hv => lin_clo hs hcc hl hu hv⟩
  have h0 : (setM l c).getD 0 false = true := by
    unfold linB at hl; simp only [Bool.and_eq_true] at hl; exact hl.1.2
  obtain ⟨h1, h2⟩ := (zero_in hs hcc).1 h0
  rw [← h2]; exact mem_getD (by omega)
theorem grp_opp {l c : List Int} (hs : isSpaceM l = true) (hp : plainM l = true) (g : Grp l c) {u : Int} (hu : u ∈ c) : oppW l u ∈ c := by
  have hz := isSpaceM_szs hs
  have hn := isSpaceM_n hs
  rcases (q23 hs hp (k := 0) (by omega)).2 with hq | hq
  · have e : oppW l u = u := word_eq hz (oppW_bnd hs u) (g.inc u hu) fun i hi => by
      rw [oppW_dig hz _ hi]
      have h1 := dig_lt hz u hi
      rw [(q23 hs hp hi).1, hq] at h1 ⊢
      omega
    rw [e]; exact hu
  · have e : oppW l u = sumW l u u := word_eq hz (oppW_bnd hs u) (sumW_bnd hs _ _) fun i hi => by
      rw [oppW_dig hz _ hi, sumW_dig hz _ _ hi]
      have h1 := dig_lt hz u hi
      rw [(q23 hs hp hi).1, hq] at h1 ⊢
      omega
    rw [e]; exact g.clo _ _ hu hu
theorem sh_self {l c : List Int} (hs : isSpaceM l = true) (g : Grp l c) {w : Int} (hw : 0 ≤ w ∧ w < prodM l) : w ∈ shM l c w :=
  shM_mem.2 ⟨0, g.zer, by rw [sumW_comm, sumW_zero hs hw]⟩
theorem sum_cancel {l : List Int} (hs : isSpaceM l = true) (b a w : Int) : sumW l (sumW l b (oppW l a)) (sumW l a w) = sumW l b w := by
  have hz := isSpaceM_szs hs
  refine word_eq hz (sumW_bnd hs _ _) (sumW_bnd hs _ _) fun i hi => ?_
  simp only [sumW_dig hz _ _ hi, oppW_dig hz _ hi]
  have h1 := dig_lt hz b hi
  have h2 := dig_lt hz a hi
  have h3 := dig_lt hz w hi
  rcases q_cases hz hi with hq | hq | hq <;> rw [hq] at h1 h2 h3 ⊢ <;> omega
theorem sh_cls {l c : List Int} (hs : isSpaceM l = true) (hp : plainM l = true) (g : Grp l c) {u w : Int} (hu : u ∈ shM l c w) : shM l c u = shM l c w := by
  obtain ⟨a, ha, rfl⟩ := shM_mem.1 hu
  refine asc_ext (shM_asc _ _ _) (shM_asc _ _ _) fun x => ?_
  rw [shM_mem, shM_mem]
  constructor
  · rintro ⟨b, hb, rfl⟩; exact ⟨sumW l b a, g.clo _ _ hb ha, sumW_assoc hs b a w⟩
  · rintro ⟨b, hb, rfl⟩; exact ⟨sumW l b (oppW l a), g.clo _ _ hb (grp_opp hs hp g ha), sum_cancel hs b a w⟩
/-- The weight of a word. -/
abbrev wtM (l : List Int) (x : Int) : Int := distM l 0 x
/-- The best of the first words of a list. -/
def bstN (l L : List Int) : Nat → Int
  | 0 => L.getD 0 0
  | k + 1 => if wtM l (L.getD k 0) < wtM l (bstN l L k) then L.getD k 0 else bstN l L k
theorem bstN_ok (l : List Int) {L : List Int} (hL : 0 < L.length) : ∀ k, k ≤ L.length → ∃ i, i < L.length ∧ (i < k ∨ i = 0) ∧ bstN l L k = L.getD i 0 ∧ ∀ j, j < k → wtM l (L.getD i 0) ≤ wtM l (L.getD j 0) ∧ (wtM l (L.getD i 0) = wtM l (L.getD j 0) → i ≤ j)
  | 0, _ => ⟨0, hL, .inr rfl, rfl, fun j h => by omega⟩
  | k + 1, hk => by
    obtain ⟨i, h1, h2, h3, h4⟩ := bstN_ok l hL k (by omega)
    rw [bstN, h3]
    by_cases h : wtM l (L.getD k 0) < wtM l (L.getD i 0)
    · rw [if_pos h]
      refine ⟨k, by omega, .inl (by omega), rfl, fun j hj => ?_⟩
      by_cases e : j = k
      · subst e; exact ⟨Int.le_refl _, fun _ => Nat.le_refl _⟩
      · have := h4 j (by omega)
        exact ⟨by omega, fun e => by omega⟩
    · rw [if_neg h]
      refine ⟨i, h1, by omega, rfl, fun j hj => ?_⟩
      by_cases e : j = k
      · subst e; exact ⟨by omega, fun _ => by omega⟩
      · exact h4 j (by omega)
/-- The leader of the class of a word. -/
def ldW (l c : List Int) (w : Int) : Int := bstN l (shM l c w) (shM l c w).length
theorem ld_ok {l c : List Int} (hs : isSpaceM l = true) (g : Grp l c) {w : Int} (hw : 0 ≤ w ∧ w < prodM l) :
    ldW l c w ∈ shM l c w ∧ ∀ x, x ∈ shM l c w → wtM l (ldW l c w) ≤ wtM l x ∧ (wtM l (ldW l c w) = wtM l x → ldW l c w ≤ x) := by
  have h0 := List.length_pos_of_mem (sh_self hs g hw)
  obtain ⟨i, h1, _, h3, h4⟩ := bstN_ok l h0 (shM l c w).length (Nat.le_refl _)
  rw [ldW, h3]
  refine ⟨mem_getD h1, fun x hx => ?_⟩
  obtain ⟨j, hj, rfl⟩ := List.mem_iff_getElem.1 hx
  have e : (shM l c w)[j] = (shM l c w).getD j 0 := by simp [hj]
  rw [e]
  refine ⟨(h4 j hj).1, fun h => ?_⟩
  have := (h4 j hj).2 h
  rcases Nat.lt_or_ge i j with q | q
  · exact Int.le_of_lt (asc_lt (shM_asc _ _ _) q hj)
  · have : i = j := by omega
    rw [this]; exact Int.le_refl _
theorem ld_bnd {l c : List Int} (hs : isSpaceM l = true) (g : Grp l c) {w : Int} (hw : 0 ≤ w ∧ w < prodM l) : 0 ≤ ldW l c w ∧ ldW l c w < prodM l := shM_in hs _ _ _ (ld_ok hs g hw).1
theorem ld_cls {l c : List Int} (hs : isSpaceM l = true) (hp : plainM l = true) (g : Grp l c) {u w : Int} (hu : u ∈ shM l c w) : ldW l c u = ldW l c w := by
  unfold ldW; rw [sh_cls hs hp g hu]
theorem ld_fix {l c : List Int} (hs : isSpaceM l = true) (hp : plainM l = true) (g : Grp l c) {w : Int} (hw : 0 ≤ w ∧ w < prodM l) : ldW l c (ldW l c w) = ldW l c w := ld_cls hs hp g (ld_ok hs g hw).1
theorem sh_symm {l c : List Int} (hs : isSpaceM l = true) (hp : plainM l = true) (g : Grp l c) {u w : Int} (hu : 0 ≤ u ∧ u < prodM l) (hw : 0 ≤ w ∧ w < prodM l) (h : u ∈ shM l c w) : w ∈ shM l c u := by
  rw [sh_cls hs hp g h]; exact sh_self hs g hw
def kltB (l : List Int) (t w : Int) (x : Int) : Bool := decide (wtM l x < t ∨ (wtM l x = t ∧ x < w))
def ldL (l c : List Int) (t w : Int) : List Int := (allW l).map fun u => if kltB l t w (ldW l c u) then ldW l c u else -1
@[go_sem] theorem ldL_len (l c : List Int) (t w : Int) : (ldL l c t w).length = (prodM l).toNat := by simp [ldL, allW_len]
theorem ldL_get (l c : List Int) (t w : Int) {i : Nat} (hi : i < (prodM l).toNat) : (ldL l c t w).getD i 0 = if kltB l t w (ldW l c i) then ldW l c i else -1 := by
  have h := allW_get l hi
  have h2 : i < (allW l).length := by rw [allW_len]; exact hi
  have h3 : (allW l)[i] = (i : Int) := by simpa [h2] using h
  simp [ldL, List.getD_eq_getElem?_getD, h2, h3]
theorem wt_bnd (l : List Int) (x : Int) : 0 ≤ wtM l x ∧ wtM l x ≤ l.length := by
  have := distM_bnd l 0 x; omega
theorem ldL_first {l c : List Int} (hs : isSpaceM l = true) (g : Grp l c) : ldL l c 0 0 = List.replicate (prodM l).toNat (-1) := by
  refine eq_getD (by simp [ldL_len]) fun j hj => ?_
  rw [ldL_len] at hj
  rw [ldL_get _ _ _ _ hj]
  have h1 := wt_bnd l (ldW l c j)
  have h2 := ld_bnd hs g (w := j) (by omega)
  rw [if_neg]
  · simp [hj]
  · unfold kltB; simp only [decide_eq_true_eq]; omega
theorem ldL_next {l c : List Int} (hs : isSpaceM l = true) (g : Grp l c) (t : Int) : ldL l c t (prodM l) = ldL l c (t + 1) 0 := by
  refine eq_getD (by simp [ldL_len]) fun j hj => ?_
  rw [ldL_len] at hj
  rw [ldL_get _ _ _ _ hj, ldL_get _ _ _ _ hj]
  have h1 := ld_bnd hs g (w := j) (by omega)
  have e : kltB l t (prodM l) (ldW l c j) = kltB l (t + 1) 0 (ldW l c j) := by
    unfold kltB; exact decide_eq_decide.2 (by omega)
  rw [e]
theorem ldL_last {l c : List Int} {t : Int} (ht : l.length < t) : ldL l c t 0 = (allW l).map (ldW l c) := by
  unfold ldL
  refine List.map_congr_left fun u _ => ?_
  rw [if_pos]
  have := wt_bnd l (ldW l c u)
  exact decide_eq_true (.inl (by omega))
/-- A word that is no leader of its weight changes nothing. -/
theorem ldL_skip {l c : List Int} (hs : isSpaceM l = true) (hp : plainM l = true) (g : Grp l c) {t : Int} {w : Nat} (hw : w < (prodM l).toNat) (h : 0 ≤ (ldL l c t w).getD w 0 ∨ wtM l w ≠ t) : ldL l c t (w + 1 : Nat) = ldL l c t w := by
  refine eq_getD (by simp [ldL_len]) fun j hj => ?_
  rw [ldL_len] at hj
  rw [ldL_get _ _ _ _ hj, ldL_get _ _ _ _ hj]
  have hwb : (0 : Int) ≤ w ∧ (w : Int) < prodM l := by omega
  have e : kltB l t (w + 1 : Nat) (ldW l c j) = kltB l t w (ldW l c j) := by
    unfold kltB
    refine decide_eq_decide.2 ⟨?_, by omega⟩
    rintro (h1 | ⟨h1, h2⟩)
    · exact .inl h1
    · by_cases e : ldW l c j = w
      · exfalso
        have h3 : ldW l c w = w := by
          rw [← e]; exact ld_fix hs hp g (by omega)
        rcases h with h | h
        · rw [ldL_get _ _ _ _ hw, h3] at h
          unfold kltB at h
          rw [if_neg] at h
          · omega
          · rw [e] at h1; simp; omega
        · rw [e] at h1; exact h h1
      · exact .inr ⟨h1, by omega⟩
  rw [e]
/-- Places of a list set to v. -/
def stN (X L : List Int) (v : Int) : Nat → List Int
  | 0 => X
  | k + 1 => (stN X L v k).set (L.getD k 0).toNat v
@[go_sem] theorem stN_len (X L : List Int) (v : Int) : ∀ k, (stN X L v k).length = X.length
  | 0 => rfl
  | k + 1 => by rw [stN, List.length_set, stN_len X L v k]
theorem stN_get {X L : List Int} (v : Int) (hL : ∀ k, k < L.length → 0 ≤ L.getD k 0) {i : Nat} (hi : i < X.length) : ∀ k, k ≤ L.length → (stN X L v k).getD i 0 = if (i : Int) ∈ L.take k then v else X.getD i 0
  | 0, _ => by simp [stN]
  | k + 1, hk => by
    have h0 := hL k (by omega)
    have ht : L.take (k + 1) = L.take k ++ [L.getD k 0] := take_one L (by omega)
    rw [stN, ht, List.getD_eq_getElem?_getD, List.getElem?_set]
    by_cases h : (L.getD k 0).toNat = i
    · rw [if_pos h, if_pos (by rw [stN_len]; omega), if_pos (List.mem_append.2 (.inr (List.mem_singleton.2 (by omega))))]; rfl
    · rw [if_neg h, ← List.getD_eq_getElem?_getD, stN_get v hL hi k (by omega)]
      have e : ((i : Int) ∈ L.take k ++ [L.getD k 0]) ↔ (i : Int) ∈ L.take k := by
        rw [List.mem_append]
        exact ⟨fun h2 => h2.elim id fun h3 => by simp only [List.mem_singleton] at h3; omega, .inl⟩
      by_cases h2 : (i : Int) ∈ L.take k
      · rw [if_pos h2, if_pos (e.2 h2)]
      · rw [if_neg h2, if_neg fun h3 => h2 (e.1 h3)]
theorem ldL_set {l c : List Int} (hs : isSpaceM l = true) (hp : plainM l = true) (g : Grp l c) {t : Int} {w : Nat} (hw : w < (prodM l).toNat) (h : (ldL l c t w).getD w 0 < 0) (ht : wtM l w = t) :
    stN (ldL l c t w) (shM l c w) w (shM l c w).length = ldL l c t (w + 1 : Nat) := by
  have hwb : (0 : Int) ≤ w ∧ (w : Int) < prodM l := by omega
  have hin := inC_get (shM_in hs c w)
  have hok := ld_ok hs g hwb
  have hself := hok.2 w (sh_self hs g hwb)
  have hlb := ld_bnd hs g hwb
  have hlw : ldW l c w = w := by
    rw [ldL_get _ _ _ _ hw] at h
    by_cases hk : kltB l t w (ldW l c w) = true
    · rw [if_pos hk] at h; omega
    · unfold kltB at hk
      simp at hk
      have h1 := hk.1
      have h3 : wtM l (ldW l c w) = t := by omega
      have h4 := hk.2 h3
      have h5 := hself.2 (by omega)
      omega
  refine eq_getD (by simp [ldL_len, stN_len]) fun j hj => ?_
  rw [stN_len, ldL_len] at hj
  rw [stN_get _ (fun k hk => (hin k hk).1) (by rw [ldL_len]; exact hj) _ (Nat.le_refl _), List.take_length, ldL_get _ _ _ _ hj, ldL_get _ _ _ _ hj]
  have hjb : (0 : Int) ≤ j ∧ (j : Int) < prodM l := by omega
  by_cases hm : (j : Int) ∈ shM l c w
  · rw [if_pos hm, ld_cls hs hp g hm, hlw, if_pos]
    exact decide_eq_true (.inr ⟨ht, by omega⟩)
  · rw [if_neg hm]
    have hne : ldW l c j ≠ w := fun e => hm (by
      have h6 := (ld_ok hs g hjb).1
      rw [e] at h6
      exact sh_symm hs hp g hwb hjb h6)
    have e : kltB l t (w + 1 : Nat) (ldW l c j) = kltB l t w (ldW l c j) := by
      unfold kltB; exact decide_eq_decide.2 (by omega)
    rw [e]
theorem d_impl_leaders (l c : List Int) (hs : isSpaceM l = true) (hp : plainM l = true) (g : Grp l c) : Den PA f_impl_leaders [.d (.agg [ints l]), .d (ints c)] [.any, .any] (.own 1 (((allW l).map (ldW l c)).map di)) := by
  have hn := isSpaceM_n hs
  have hz := isSpaceM_szs hs
  have hpr := isSpaceM_prod hs
  have hp1 := prodM_pos hz
  have hal := allW_len l
  have hgl := grp_len hs g
  refine den_go [] l_impl_leaders ?_
  repeat' (first | simp -implicitDefEqProofs (maxSteps := 1000000) (disch := (first | omega | (simp only [go_sem] <;> omega) | fail)) only [go_sem, ints, bools, mat, reduceIte, Nat.reduceEqDiff, Nat.reduceAdd, Nat.reduceBEq, Nat.reduceMul, Nat.reduceLeDiff, Nat.reduceLT, Nat.reduceMod, Nat.reduceDiv, Nat.reduceSub, reduceCtorEq, c_impl_leaders] | ((first | refine goIf_b (fun h => ?_) (fun h => ?_) | refine goG_b (fun h => ?_) (fun h => ?_) | refine goTG_b (fun h => ?_) (fun h => ?_) | refine goOG_b (fun h => ?_) (fun h => ?_)) <;> ((try simp only [Bool.not_eq_true', Bool.not_eq_false'] at h); (try simp only [h]); (try simp only [decide_eq_true_eq, decide_eq_false_iff_not, bne_iff_ne, bne_eq_false_iff_eq, beq_iff_eq, beq_eq_false_iff_ne, ne_eq, Int.not_lt, Int.not_le, Bool.and_eq_true, Bool.and_eq_false_iff, Bool.or_eq_true, Bool.or_eq_false_iff] at h))))
  first | refine goC_call [.r] (d_impl_count l hs) ?_ | refine goOC_call [.r] (d_impl_count l hs) ?_
  repeat' (first | simp -implicitDefEqProofs (maxSteps := 1000000) (disch := (first | omega | (simp only [go_sem] <;> omega) | fail)) only [go_sem, ints, bools, mat, reduceIte, Nat.reduceEqDiff, Nat.reduceAdd, Nat.reduceBEq, Nat.reduceMul, Nat.reduceLeDiff, Nat.reduceLT, Nat.reduceMod, Nat.reduceDiv, Nat.reduceSub, reduceCtorEq] | ((first | refine goIf_b (fun h => ?_) (fun h => ?_) | refine goG_b (fun h => ?_) (fun h => ?_) | refine goTG_b (fun h => ?_) (fun h => ?_) | refine goOG_b (fun h => ?_) (fun h => ?_)) <;> ((try simp only [Bool.not_eq_true', Bool.not_eq_false'] at h); (try simp only [h]); (try simp only [decide_eq_true_eq, decide_eq_false_iff_not, bne_iff_ne, bne_eq_false_iff_eq, beq_iff_eq, beq_eq_false_iff_ne, ne_eq, Int.not_lt, Int.not_le, Bool.and_eq_true, Bool.and_eq_false_iff, Bool.or_eq_true, Bool.or_eq_false_iff] at h))))
  have hrep := d_slices_Repeat (-1) (prodM l).toNat (by omega) (by omega)
  rw [show (((prodM l).toNat : Nat) : Int) = prodM l by omega] at hrep
  first | refine goC_call [.r, .r] (hrep) ?_ | refine goOC_call [.r, .r] (hrep) ?_
  repeat' (first | simp -implicitDefEqProofs (maxSteps := 1000000) (disch := (first | omega | (simp only [go_sem] <;> omega) | fail)) only [go_sem, ints, bools, mat, reduceIte, Nat.reduceEqDiff, Nat.reduceAdd, Nat.reduceBEq, Nat.reduceMul, Nat.reduceLeDiff, Nat.reduceLT, Nat.reduceMod, Nat.reduceDiv, Nat.reduceSub, reduceCtorEq] | ((first | refine goIf_b (fun h => ?_) (fun h => ?_) | refine goG_b (fun h => ?_) (fun h => ?_) | refine goTG_b (fun h => ?_) (fun h => ?_) | refine goOG_b (fun h => ?_) (fun h => ?_)) <;> ((try simp only [Bool.not_eq_true', Bool.not_eq_false'] at h); (try simp only [h]); (try simp only [decide_eq_true_eq, decide_eq_false_iff_not, bne_iff_ne, bne_eq_false_iff_eq, beq_iff_eq, beq_eq_false_iff_ne, ne_eq, Int.not_lt, Int.not_le, Bool.and_eq_true, Bool.and_eq_false_iff, Bool.or_eq_true, Bool.or_eq_false_iff] at h))))
  first | refine goC_call [.r] (d_impl_allDigits l hs) ?_ | refine goOC_call [.r] (d_impl_allDigits l hs) ?_
  repeat' (first | simp -implicitDefEqProofs (maxSteps := 1000000) (disch := (first | omega | (simp only [go_sem] <;> omega) | fail)) only [go_sem, ints, bools, mat, reduceIte, Nat.reduceEqDiff, Nat.reduceAdd, Nat.reduceBEq, Nat.reduceMul, Nat.reduceLeDiff, Nat.reduceLT, Nat.reduceMod, Nat.reduceDiv, Nat.reduceSub, reduceCtorEq] | ((first | refine goIf_b (fun h => ?_) (fun h => ?_) | refine goG_b (fun h => ?_) (fun h => ?_) | refine goTG_b (fun h => ?_) (fun h => ?_) | refine goOG_b (fun h => ?_) (fun h => ?_)) <;> ((try simp only [Bool.not_eq_true', Bool.not_eq_false'] at h); (try simp only [h]); (try simp only [decide_eq_true_eq, decide_eq_false_iff_not, bne_iff_ne, bne_eq_false_iff_eq, beq_iff_eq, beq_eq_false_iff_ne, ne_eq, Int.not_lt, Int.not_le, Bool.and_eq_true, Bool.and_eq_false_iff, Bool.or_eq_true, Bool.or_eq_false_iff] at h))))
  first | refine goC_call [.r] (d_impl_places l (by omega)) ?_ | refine goOC_call [.r] (d_impl_places l (by omega)) ?_
  repeat' (first | simp -implicitDefEqProofs (maxSteps := 1000000) (disch := (first | omega | (simp only [go_sem] <;> omega) | fail)) only [go_sem, ints, bools, mat, reduceIte, Nat.reduceEqDiff, Nat.reduceAdd, Nat.reduceBEq, Nat.reduceMul, Nat.reduceLeDiff, Nat.reduceLT, Nat.reduceMod, Nat.reduceDiv, Nat.reduceSub, reduceCtorEq] | ((first | refine goIf_b (fun h => ?_) (fun h => ?_) | refine goG_b (fun h => ?_) (fun h => ?_) | refine goTG_b (fun h => ?_) (fun h => ?_) | refine goOG_b (fun h => ?_) (fun h => ?_)) <;> ((try simp only [Bool.not_eq_true', Bool.not_eq_false'] at h); (try simp only [h]); (try simp only [decide_eq_true_eq, decide_eq_false_iff_not, bne_iff_ne, bne_eq_false_iff_eq, beq_iff_eq, beq_eq_false_iff_ne, ne_eq, Int.not_lt, Int.not_le, Bool.and_eq_true, Bool.and_eq_false_iff, Bool.or_eq_true, Bool.or_eq_false_iff] at h))))
  refine go_loop (fun (t : Nat) => ⟨[(1, .d (ints c)), (2, .ref 0 0), (5, .sl 1 0 (prodM l).toNat 1), (6, .sl 2 0 (prodM l).toNat 8), (20, .d (di (l.length + 1))), (21, .d (di t))], [some (.var [ints l]), some (.dat 1 ((ldL l c t 0).map di)), some (.dat 8 (digs (digsM l (allW l))))]⟩) (fun t => t ≤ l.length + 1) (fun t => l.length + 1 - t) 0 ?_ ?_ ?_
  · simp -implicitDefEqProofs (maxSteps := 1000000) (disch := (first | omega | (simp only [go_sem] <;> omega) | fail)) only [go_sem, ints, bools, mat, reduceIte, Nat.reduceEqDiff, Nat.reduceAdd, Nat.reduceBEq, Nat.reduceMul, Nat.reduceLeDiff, Nat.reduceLT, Nat.reduceMod, Nat.reduceDiv, Nat.reduceSub, reduceCtorEq]
    rw [ldL_first hs g]
  · simp
  · rintro t ht J hJ
    by_cases htl : t < l.length + 1
    · repeat' (first | simp -implicitDefEqProofs (maxSteps := 1000000) (disch := (first | omega | (simp only [go_sem] <;> omega) | fail)) only [go_sem, ints, bools, mat, reduceIte, Nat.reduceEqDiff, Nat.reduceAdd, Nat.reduceBEq, Nat.reduceMul, Nat.reduceLeDiff, Nat.reduceLT, Nat.reduceMod, Nat.reduceDiv, Nat.reduceSub, reduceCtorEq] | ((first | refine goIf_b (fun h => ?_) (fun h => ?_) | refine goG_b (fun h => ?_) (fun h => ?_) | refine goTG_b (fun h => ?_) (fun h => ?_) | refine goOG_b (fun h => ?_) (fun h => ?_)) <;> ((try simp only [Bool.not_eq_true', Bool.not_eq_false'] at h); (try simp only [h]); (try simp only [decide_eq_true_eq, decide_eq_false_iff_not, bne_iff_ne, bne_eq_false_iff_eq, beq_iff_eq, beq_eq_false_iff_ne, ne_eq, Int.not_lt, Int.not_le, Bool.and_eq_true, Bool.and_eq_false_iff, Bool.or_eq_true, Bool.or_eq_false_iff] at h)) <;> (try (exfalso; omega))))
      refine go_loop (fun (w : Nat) => ⟨[(1, .d (ints c)), (2, .ref 0 0), (5, .sl 1 0 (prodM l).toNat 1), (6, .sl 2 0 (prodM l).toNat 8), (7, .d (di t)), (20, .d (di (l.length + 1))), (21, .d (di t)), (24, .sl 2 0 (prodM l).toNat 8), (25, .d (di (prodM l).toNat)), (26, .d (di w))], [some (.var [ints l]), some (.dat 1 ((ldL l c t w).map di)), some (.dat 8 (digs (digsM l (allW l))))]⟩) (fun w => w ≤ (prodM l).toNat) (fun w => (prodM l).toNat - w) 0 ?_ ?_ ?_
      · (simp -implicitDefEqProofs (maxSteps := 1000000) (disch := (first | omega | (simp only [go_sem] <;> omega) | fail)) only [go_sem, ints, bools, mat, reduceIte, Nat.reduceEqDiff, Nat.reduceAdd, Nat.reduceBEq, Nat.reduceMul, Nat.reduceLeDiff, Nat.reduceLT, Nat.reduceMod, Nat.reduceDiv, Nat.reduceSub, reduceCtorEq] <;> rfl)
      · simp
      · rintro w hw J2 hJ2
        have hgd := fun h => digsM_get l (allW l) (i := w) h
        have hww := fun h => allW_get l (i := w) h
        have hsk := fun h => ldL_skip hs hp g (t := t) (w := w) h
        have hst := fun h => ldL_set hs hp g (t := t) (w := w) h
        by_cases hwl : w < (prodM l).toNat
        · have hsl := shM_len l c w
          have hin := inC_get (shM_in hs c w)
          repeat' (first | simp -implicitDefEqProofs (maxSteps := 1000000) (disch := (first | omega | (simp only [go_sem] <;> omega) | fail)) only [go_sem, ints, bools, mat, reduceIte, Nat.reduceEqDiff, Nat.reduceAdd, Nat.reduceBEq, Nat.reduceMul, Nat.reduceLeDiff, Nat.reduceLT, Nat.reduceMod, Nat.reduceDiv, Nat.reduceSub, reduceCtorEq] | ((first | refine goIf_b (fun h => ?_) (fun h => ?_) | refine goG_b (fun h => ?_) (fun h => ?_) | refine goTG_b (fun h => ?_) (fun h => ?_) | refine goOG_b (fun h => ?_) (fun h => ?_)) <;> ((try simp only [Bool.not_eq_true', Bool.not_eq_false'] at h); (try simp only [h]); (try simp only [decide_eq_true_eq, decide_eq_false_iff_not, bne_iff_ne, bne_eq_false_iff_eq, beq_iff_eq, beq_eq_false_iff_ne, ne_eq, Int.not_lt, Int.not_le, Bool.and_eq_true, Bool.and_eq_false_iff, Bool.or_eq_true, Bool.or_eq_false_iff] at h)) <;> (try (exfalso; omega))))
          · rw [hgd (by omega), hww hwl]
            first | refine goC_call [.r, .r] (d_impl_far0 l w (by omega)) ?_ | refine goOC_call [.r, .r] (d_impl_far0 l w (by omega)) ?_
            repeat' (first | simp -implicitDefEqProofs (maxSteps := 1000000) (disch := (first | omega | (simp only [go_sem] <;> omega) | fail)) only [go_sem, ints, bools, mat, reduceIte, Nat.reduceEqDiff, Nat.reduceAdd, Nat.reduceBEq, Nat.reduceMul, Nat.reduceLeDiff, Nat.reduceLT, Nat.reduceMod, Nat.reduceDiv, Nat.reduceSub, reduceCtorEq] | ((first | refine goIf_b (fun h => ?_) (fun h => ?_) | refine goG_b (fun h => ?_) (fun h => ?_) | refine goTG_b (fun h => ?_) (fun h => ?_) | refine goOG_b (fun h => ?_) (fun h => ?_)) <;> ((try simp only [Bool.not_eq_true', Bool.not_eq_false'] at h); (try simp only [h]); (try simp only [decide_eq_true_eq, decide_eq_false_iff_not, bne_iff_ne, bne_eq_false_iff_eq, beq_iff_eq, beq_eq_false_iff_ne, ne_eq, Int.not_lt, Int.not_le, Bool.and_eq_true, Bool.and_eq_false_iff, Bool.or_eq_true, Bool.or_eq_false_iff] at h)) <;> (try (exfalso; omega))))
            · refine hJ2 (w + 1) (by omega) (by omega) _ ?_
              simp -implicitDefEqProofs (maxSteps := 1000000) (disch := (first | omega | (simp only [go_sem] <;> omega) | fail)) only [go_sem, ints, bools, mat, reduceIte, Nat.reduceEqDiff, Nat.reduceAdd, Nat.reduceBEq, Nat.reduceMul, Nat.reduceLeDiff, Nat.reduceLT, Nat.reduceMod, Nat.reduceDiv, Nat.reduceSub, reduceCtorEq]
              rw [hsk hwl (.inr (by assumption))]; rfl
            · first | refine goC_call [.r, .r, .r] (d_impl_shifted l c hs (by omega) g.inc w (by omega) (by omega)) ?_ | refine goOC_call [.r, .r, .r] (d_impl_shifted l c hs (by omega) g.inc w (by omega) (by omega)) ?_
              repeat' (first | simp -implicitDefEqProofs (maxSteps := 1000000) (disch := (first | omega | (simp only [go_sem] <;> omega) | fail)) only [go_sem, ints, bools, mat, reduceIte, Nat.reduceEqDiff, Nat.reduceAdd, Nat.reduceBEq, Nat.reduceMul, Nat.reduceLeDiff, Nat.reduceLT, Nat.reduceMod, Nat.reduceDiv, Nat.reduceSub, reduceCtorEq] | ((first | refine goIf_b (fun h => ?_) (fun h => ?_) | refine goG_b (fun h => ?_) (fun h => ?_) | refine goTG_b (fun h => ?_) (fun h => ?_) | refine goOG_b (fun h => ?_) (fun h => ?_)) <;> ((try simp only [Bool.not_eq_true', Bool.not_eq_false'] at h); (try simp only [h]); (try simp only [decide_eq_true_eq, decide_eq_false_iff_not, bne_iff_ne, bne_eq_false_iff_eq, beq_iff_eq, beq_eq_false_iff_ne, ne_eq, Int.not_lt, Int.not_le, Bool.and_eq_true, Bool.and_eq_false_iff, Bool.or_eq_true, Bool.or_eq_false_iff] at h)) <;> (try (exfalso; omega))))
              have hstl := stN_len (ldL l c t w) (shM l c w) w
              refine go_loop (fun (k : Nat) => ⟨[(1, .d (ints c)), (2, .ref 0 0), (5, .sl 1 0 (prodM l).toNat 1), (6, .sl 2 0 (prodM l).toNat 8), (7, .d (di t)), (8, .d (di w)), (20, .d (di (l.length + 1))), (21, .d (di t)), (24, .sl 2 0 (prodM l).toNat 8), (25, .d (di (prodM l).toNat)), (26, .d (di w)), (46, .sl 3 0 (shM l c w).length 1), (47, .d (di (shM l c w).length)), (48, .d (di k))], [some (.var [ints l]), some (.dat 1 ((stN (ldL l c t w) (shM l c w) w k).map di)), some (.dat 8 (digs (digsM l (allW l)))), some (.dat 1 ((shM l c w).map di))]⟩) (fun k => k ≤ (shM l c w).length) (fun k => (shM l c w).length - k) 0 ?_ ?_ ?_
              · (simp -implicitDefEqProofs (maxSteps := 1000000) (disch := (first | omega | (simp only [go_sem] <;> omega) | fail)) only [go_sem, ints, bools, mat, reduceIte, Nat.reduceEqDiff, Nat.reduceAdd, Nat.reduceBEq, Nat.reduceMul, Nat.reduceLeDiff, Nat.reduceLT, Nat.reduceMod, Nat.reduceDiv, Nat.reduceSub, reduceCtorEq] <;> rfl)
              · simp
              · rintro k hk J3 hJ3
                have hink := hin k
                have hlk := hstl k
                rw [ldL_len] at hlk
                by_cases hkl : k < (shM l c w).length
                · repeat' (first | simp -implicitDefEqProofs (maxSteps := 1000000) (disch := (first | omega | (simp only [go_sem] <;> omega) | fail)) only [go_sem, ints, bools, mat, reduceIte, Nat.reduceEqDiff, Nat.reduceAdd, Nat.reduceBEq, Nat.reduceMul, Nat.reduceLeDiff, Nat.reduceLT, Nat.reduceMod, Nat.reduceDiv, Nat.reduceSub, reduceCtorEq] | ((first | refine goIf_b (fun h => ?_) (fun h => ?_) | refine goG_b (fun h => ?_) (fun h => ?_) | refine goTG_b (fun h => ?_) (fun h => ?_) | refine goOG_b (fun h => ?_) (fun h => ?_)) <;> ((try simp only [Bool.not_eq_true', Bool.not_eq_false'] at h); (try simp only [h]); (try simp only [decide_eq_true_eq, decide_eq_false_iff_not, bne_iff_ne, bne_eq_false_iff_eq, beq_iff_eq, beq_eq_false_iff_ne, ne_eq, Int.not_lt, Int.not_le, Bool.and_eq_true, Bool.and_eq_false_iff, Bool.or_eq_true, Bool.or_eq_false_iff] at h)) <;> (try (exfalso; omega))))
                  refine hJ3 (k + 1) (by omega) (by omega) _ ?_
                  simp -implicitDefEqProofs (maxSteps := 1000000) (disch := (first | omega | (simp only [go_sem] <;> omega) | fail)) only [go_sem, ints, bools, mat, reduceIte, Nat.reduceEqDiff, Nat.reduceAdd, Nat.reduceBEq, Nat.reduceMul, Nat.reduceLeDiff, Nat.reduceLT, Nat.reduceMod, Nat.reduceDiv, Nat.reduceSub, reduceCtorEq]
                  rfl
                · have : k = (shM l c w).length := by omega
                  subst this
                  repeat' (first | simp -implicitDefEqProofs (maxSteps := 1000000) (disch := (first | omega | (simp only [go_sem] <;> omega) | fail)) only [go_sem, ints, bools, mat, reduceIte, Nat.reduceEqDiff, Nat.reduceAdd, Nat.reduceBEq, Nat.reduceMul, Nat.reduceLeDiff, Nat.reduceLT, Nat.reduceMod, Nat.reduceDiv, Nat.reduceSub, reduceCtorEq] | ((first | refine goIf_b (fun h => ?_) (fun h => ?_) | refine goG_b (fun h => ?_) (fun h => ?_) | refine goTG_b (fun h => ?_) (fun h => ?_) | refine goOG_b (fun h => ?_) (fun h => ?_)) <;> ((try simp only [Bool.not_eq_true', Bool.not_eq_false'] at h); (try simp only [h]); (try simp only [decide_eq_true_eq, decide_eq_false_iff_not, bne_iff_ne, bne_eq_false_iff_eq, beq_iff_eq, beq_eq_false_iff_ne, ne_eq, Int.not_lt, Int.not_le, Bool.and_eq_true, Bool.and_eq_false_iff, Bool.or_eq_true, Bool.or_eq_false_iff] at h)) <;> (try (exfalso; omega))))
                  refine hJ2 (w + 1) (by omega) (by omega) _ ?_
                  simp -implicitDefEqProofs (maxSteps := 1000000) (disch := (first | omega | (simp only [go_sem] <;> omega) | fail)) only [go_sem, ints, bools, mat, reduceIte, Nat.reduceEqDiff, Nat.reduceAdd, Nat.reduceBEq, Nat.reduceMul, Nat.reduceLeDiff, Nat.reduceLT, Nat.reduceMod, Nat.reduceDiv, Nat.reduceSub, reduceCtorEq]
                  rw [hst hwl (by omega) (by assumption)]; rfl
          · refine hJ2 (w + 1) (by omega) (by omega) _ ?_
            simp -implicitDefEqProofs (maxSteps := 1000000) (disch := (first | omega | (simp only [go_sem] <;> omega) | fail)) only [go_sem, ints, bools, mat, reduceIte, Nat.reduceEqDiff, Nat.reduceAdd, Nat.reduceBEq, Nat.reduceMul, Nat.reduceLeDiff, Nat.reduceLT, Nat.reduceMod, Nat.reduceDiv, Nat.reduceSub, reduceCtorEq]
            rw [hsk hwl (.inl (by assumption))]; rfl
        · have : w = (prodM l).toNat := by omega
          subst this
          repeat' (first | simp -implicitDefEqProofs (maxSteps := 1000000) (disch := (first | omega | (simp only [go_sem] <;> omega) | fail)) only [go_sem, ints, bools, mat, reduceIte, Nat.reduceEqDiff, Nat.reduceAdd, Nat.reduceBEq, Nat.reduceMul, Nat.reduceLeDiff, Nat.reduceLT, Nat.reduceMod, Nat.reduceDiv, Nat.reduceSub, reduceCtorEq] | ((first | refine goIf_b (fun h => ?_) (fun h => ?_) | refine goG_b (fun h => ?_) (fun h => ?_) | refine goTG_b (fun h => ?_) (fun h => ?_) | refine goOG_b (fun h => ?_) (fun h => ?_)) <;> ((try simp only [Bool.not_eq_true', Bool.not_eq_false'] at h); (try simp only [h]); (try simp only [decide_eq_true_eq, decide_eq_false_iff_not, bne_iff_ne, bne_eq_false_iff_eq, beq_iff_eq, beq_eq_false_iff_ne, ne_eq, Int.not_lt, Int.not_le, Bool.and_eq_true, Bool.and_eq_false_iff, Bool.or_eq_true, Bool.or_eq_false_iff] at h)) <;> (try (exfalso; omega))))
          refine hJ (t + 1) (by omega) (by omega) _ ?_
          simp -implicitDefEqProofs (maxSteps := 1000000) (disch := (first | omega | (simp only [go_sem] <;> omega) | fail)) only [go_sem, ints, bools, mat, reduceIte, Nat.reduceEqDiff, Nat.reduceAdd, Nat.reduceBEq, Nat.reduceMul, Nat.reduceLeDiff, Nat.reduceLT, Nat.reduceMod, Nat.reduceDiv, Nat.reduceSub, reduceCtorEq]
          rw [show (((prodM l).toNat : Nat) : Int) = prodM l by omega, ldL_next hs g]; rfl
    · have : t = l.length + 1 := by omega
      subst this
      have e := ldL_last (c := c) (show (l.length : Int) < (l.length + 1 : Nat) by omega)
      rw [e]
      repeat' (first | simp -implicitDefEqProofs (maxSteps := 1000000) (disch := (first | omega | (simp only [go_sem] <;> omega) | fail)) only [go_sem, ints, bools, mat, reduceIte, Nat.reduceEqDiff, Nat.reduceAdd, Nat.reduceBEq, Nat.reduceMul, Nat.reduceLeDiff, Nat.reduceLT, Nat.reduceMod, Nat.reduceDiv, Nat.reduceSub, reduceCtorEq] | ((first | refine goIf_b (fun h => ?_) (fun h => ?_) | refine goG_b (fun h => ?_) (fun h => ?_) | refine goTG_b (fun h => ?_) (fun h => ?_) | refine goOG_b (fun h => ?_) (fun h => ?_)) <;> ((try simp only [Bool.not_eq_true', Bool.not_eq_false'] at h); (try simp only [h]); (try simp only [decide_eq_true_eq, decide_eq_false_iff_not, bne_iff_ne, bne_eq_false_iff_eq, beq_iff_eq, beq_eq_false_iff_ne, ne_eq, Int.not_lt, Int.not_le, Bool.and_eq_true, Bool.and_eq_false_iff, Bool.or_eq_true, Bool.or_eq_false_iff] at h)) <;> (try (exfalso; omega))))
theorem d_spec_l05Leader (l c : List Int) (hs : isSpaceM l = true) (g : Grp l c) (w : Int) (hw : 0 ≤ w ∧ w < prodM l) : Den PA f_spec_l05Leader [.d (.agg [ints l]), .d (ints c), .d (di w)] [.any, .any, .any] (.d (di (ldW l c w))) := by
  have hn := isSpaceM_n hs
  have hz := isSpaceM_szs hs
  have hpr := isSpaceM_prod hs
  have hp1 := prodM_pos hz
  have hgl := grp_len hs g
  have hin := inC_get (shM_in hs c w)
  have hsl := shM_len l c w
  have h0 := List.length_pos_of_mem (sh_self hs g hw)
  have hbn : ∀ k, k ≤ (shM l c w).length → 0 ≤ bstN l (shM l c w) k ∧ bstN l (shM l c w) k < prodM l := fun k hk => by
    obtain ⟨i, h1, _, h3, _⟩ := bstN_ok l h0 k hk
    rw [h3]; exact hin i h1
  refine den_go [] l_spec_l05Leader ?_
  repeat' (first | simp -implicitDefEqProofs (maxSteps := 1000000) (disch := (first | omega | (simp only [go_sem] <;> omega) | fail)) only [go_sem, ints, bools, mat, reduceIte, Nat.reduceEqDiff, Nat.reduceAdd, Nat.reduceBEq, Nat.reduceMul, Nat.reduceLeDiff, Nat.reduceLT, Nat.reduceMod, Nat.reduceDiv, Nat.reduceSub, reduceCtorEq, c_spec_l05Leader] | ((first | refine goIf_b (fun h => ?_) (fun h => ?_) | refine goG_b (fun h => ?_) (fun h => ?_) | refine goTG_b (fun h => ?_) (fun h => ?_) | refine goOG_b (fun h => ?_) (fun h => ?_)) <;> ((try simp only [Bool.not_eq_true', Bool.not_eq_false'] at h); (try simp only [h]); (try simp only [decide_eq_true_eq, decide_eq_false_iff_not, bne_iff_ne, bne_eq_false_iff_eq, beq_iff_eq, beq_eq_false_iff_ne, ne_eq, Int.not_lt, Int.not_le, Bool.and_eq_true, Bool.and_eq_false_iff, Bool.or_eq_true, Bool.or_eq_false_iff] at h)) <;> (try (exfalso; omega))))
  first | refine goC_call [.r, .r, .r] (d_spec_l01Shifted l c hs (by omega) g.inc w hw.1 (by omega)) ?_ | refine goOC_call [.r, .r, .r] (d_spec_l01Shifted l c hs (by omega) g.inc w hw.1 (by omega)) ?_
  repeat' (first | simp -implicitDefEqProofs (maxSteps := 1000000) (disch := (first | omega | (simp only [go_sem] <;> omega) | fail)) only [go_sem, ints, bools, mat, reduceIte, Nat.reduceEqDiff, Nat.reduceAdd, Nat.reduceBEq, Nat.reduceMul, Nat.reduceLeDiff, Nat.reduceLT, Nat.reduceMod, Nat.reduceDiv, Nat.reduceSub, reduceCtorEq] | ((first | refine goIf_b (fun h => ?_) (fun h => ?_) | refine goG_b (fun h => ?_) (fun h => ?_) | refine goTG_b (fun h => ?_) (fun h => ?_) | refine goOG_b (fun h => ?_) (fun h => ?_)) <;> ((try simp only [Bool.not_eq_true', Bool.not_eq_false'] at h); (try simp only [h]); (try simp only [decide_eq_true_eq, decide_eq_false_iff_not, bne_iff_ne, bne_eq_false_iff_eq, beq_iff_eq, beq_eq_false_iff_ne, ne_eq, Int.not_lt, Int.not_le, Bool.and_eq_true, Bool.and_eq_false_iff, Bool.or_eq_true, Bool.or_eq_false_iff] at h)) <;> (try (exfalso; omega))))
  refine go_loop (fun (k : Nat) => ⟨[(3, .ref 0 0), (7, .sl 1 0 (shM l c w).length 1), (8, .d (di (bstN l (shM l c w) k))), (18, .d (di (shM l c w).length)), (19, .d (di k))], [some (.var [ints l]), some (.dat 1 ((shM l c w).map di))]⟩) (fun k => k ≤ (shM l c w).length) (fun k => (shM l c w).length - k) 0 ?_ ?_ ?_
  · (simp -implicitDefEqProofs (maxSteps := 1000000) (disch := (first | omega | (simp only [go_sem] <;> omega) | fail)) only [go_sem, ints, bools, mat, reduceIte, Nat.reduceEqDiff, Nat.reduceAdd, Nat.reduceBEq, Nat.reduceMul, Nat.reduceLeDiff, Nat.reduceLT, Nat.reduceMod, Nat.reduceDiv, Nat.reduceSub, reduceCtorEq, bstN] <;> rfl)
  · simp
  · rintro k hk J hJ
    have hbk := hbn k hk
    have hink := hin k
    by_cases hkl : k < (shM l c w).length
    · repeat' (first | simp -implicitDefEqProofs (maxSteps := 1000000) (disch := (first | omega | (simp only [go_sem] <;> omega) | fail)) only [go_sem, ints, bools, mat, reduceIte, Nat.reduceEqDiff, Nat.reduceAdd, Nat.reduceBEq, Nat.reduceMul, Nat.reduceLeDiff, Nat.reduceLT, Nat.reduceMod, Nat.reduceDiv, Nat.reduceSub, reduceCtorEq] | ((first | refine goIf_b (fun h => ?_) (fun h => ?_) | refine goG_b (fun h => ?_) (fun h => ?_) | refine goTG_b (fun h => ?_) (fun h => ?_) | refine goOG_b (fun h => ?_) (fun h => ?_)) <;> ((try simp only [Bool.not_eq_true', Bool.not_eq_false'] at h); (try simp only [h]); (try simp only [decide_eq_true_eq, decide_eq_false_iff_not, bne_iff_ne, bne_eq_false_iff_eq, beq_iff_eq, beq_eq_false_iff_ne, ne_eq, Int.not_lt, Int.not_le, Bool.and_eq_true, Bool.and_eq_false_iff, Bool.or_eq_true, Bool.or_eq_false_iff] at h)) <;> (try (exfalso; omega))))
      first | refine goC_call [.r, .r, .r] (d_spec_l01Distance l hs 0 ((shM l c w).getD k 0) (by omega) (by omega) (by omega) (by omega)) ?_ | refine goOC_call [.r, .r, .r] (d_spec_l01Distance l hs 0 ((shM l c w).getD k 0) (by omega) (by omega) (by omega) (by omega)) ?_
      repeat' (first | simp -implicitDefEqProofs (maxSteps := 1000000) (disch := (first | omega | (simp only [go_sem] <;> omega) | fail)) only [go_sem, ints, bools, mat, reduceIte, Nat.reduceEqDiff, Nat.reduceAdd, Nat.reduceBEq, Nat.reduceMul, Nat.reduceLeDiff, Nat.reduceLT, Nat.reduceMod, Nat.reduceDiv, Nat.reduceSub, reduceCtorEq] | ((first | refine goIf_b (fun h => ?_) (fun h => ?_) | refine goG_b (fun h => ?_) (fun h => ?_) | refine goTG_b (fun h => ?_) (fun h => ?_) | refine goOG_b (fun h => ?_) (fun h => ?_)) <;> ((try simp only [Bool.not_eq_true', Bool.not_eq_false'] at h); (try simp only [h]); (try simp only [decide_eq_true_eq, decide_eq_false_iff_not, bne_iff_ne, bne_eq_false_iff_eq, beq_iff_eq, beq_eq_false_iff_ne, ne_eq, Int.not_lt, Int.not_le, Bool.and_eq_true, Bool.and_eq_false_iff, Bool.or_eq_true, Bool.or_eq_false_iff] at h)) <;> (try (exfalso; omega))))
      first | refine goC_call [.r, .r, .r] (d_spec_l01Distance l hs 0 (bstN l (shM l c w) k) (by omega) (by omega) (by omega) (by omega)) ?_ | refine goOC_call [.r, .r, .r] (d_spec_l01Distance l hs 0 (bstN l (shM l c w) k) (by omega) (by omega) (by omega) (by omega)) ?_
      repeat' (first | simp -implicitDefEqProofs (maxSteps := 1000000) (disch := (first | omega | (simp only [go_sem] <;> omega) | fail)) only [go_sem, ints, bools, mat, reduceIte, Nat.reduceEqDiff, Nat.reduceAdd, Nat.reduceBEq, Nat.reduceMul, Nat.reduceLeDiff, Nat.reduceLT, Nat.reduceMod, Nat.reduceDiv, Nat.reduceSub, reduceCtorEq] | ((first | refine goIf_b (fun h => ?_) (fun h => ?_) | refine goG_b (fun h => ?_) (fun h => ?_) | refine goTG_b (fun h => ?_) (fun h => ?_) | refine goOG_b (fun h => ?_) (fun h => ?_)) <;> ((try simp only [Bool.not_eq_true', Bool.not_eq_false'] at h); (try simp only [h]); (try simp only [decide_eq_true_eq, decide_eq_false_iff_not, bne_iff_ne, bne_eq_false_iff_eq, beq_iff_eq, beq_eq_false_iff_ne, ne_eq, Int.not_lt, Int.not_le, Bool.and_eq_true, Bool.and_eq_false_iff, Bool.or_eq_true, Bool.or_eq_false_iff] at h)) <;> (try (exfalso; omega))))
      · refine hJ (k + 1) (by omega) (by omega) _ ?_
        simp -implicitDefEqProofs (maxSteps := 1000000) (disch := (first | omega | (simp only [go_sem] <;> omega) | fail)) only [go_sem, ints, bools, mat, reduceIte, Nat.reduceEqDiff, Nat.reduceAdd, Nat.reduceBEq, Nat.reduceMul, Nat.reduceLeDiff, Nat.reduceLT, Nat.reduceMod, Nat.reduceDiv, Nat.reduceSub, reduceCtorEq]
        rw [bstN, if_pos (show wtM l ((shM l c w).getD k 0) < wtM l (bstN l (shM l c w) k) by assumption)]; rfl
      · refine hJ (k + 1) (by omega) (by omega) _ ?_
        simp -implicitDefEqProofs (maxSteps := 1000000) (disch := (first | omega | (simp only [go_sem] <;> omega) | fail)) only [go_sem, ints, bools, mat, reduceIte, Nat.reduceEqDiff, Nat.reduceAdd, Nat.reduceBEq, Nat.reduceMul, Nat.reduceLeDiff, Nat.reduceLT, Nat.reduceMod, Nat.reduceDiv, Nat.reduceSub, reduceCtorEq]
        rw [bstN, if_neg (show ¬ wtM l ((shM l c w).getD k 0) < wtM l (bstN l (shM l c w) k) from by show ¬ distM l 0 _ < distM l 0 _; omega)]; rfl
    · have : k = (shM l c w).length := by omega
      subst this
      repeat' (first | simp -implicitDefEqProofs (maxSteps := 1000000) (disch := (first | omega | (simp only [go_sem] <;> omega) | fail)) only [go_sem, ints, bools, mat, reduceIte, Nat.reduceEqDiff, Nat.reduceAdd, Nat.reduceBEq, Nat.reduceMul, Nat.reduceLeDiff, Nat.reduceLT, Nat.reduceMod, Nat.reduceDiv, Nat.reduceSub, reduceCtorEq] | ((first | refine goIf_b (fun h => ?_) (fun h => ?_) | refine goG_b (fun h => ?_) (fun h => ?_) | refine goTG_b (fun h => ?_) (fun h => ?_) | refine goOG_b (fun h => ?_) (fun h => ?_)) <;> ((try simp only [Bool.not_eq_true', Bool.not_eq_false'] at h); (try simp only [h]); (try simp only [decide_eq_true_eq, decide_eq_false_iff_not, bne_iff_ne, bne_eq_false_iff_eq, beq_iff_eq, beq_eq_false_iff_ne, ne_eq, Int.not_lt, Int.not_le, Bool.and_eq_true, Bool.and_eq_false_iff, Bool.or_eq_true, Bool.or_eq_false_iff] at h)) <;> (try (exfalso; omega))))
      rfl
/-- The leaders of all words. -/
abbrev lesM (l c : List Int) : List Int := (allW l).map (ldW l c)
theorem d_impl_oppositeOf (l a : List Int) (hs : isSpaceM l = true) (ha8 : a.length ≤ 8) (ha : in4 a) (hd : ∀ i, i < l.length → a.getD i 0 < l.getD i 0) :
    Den PA f_impl_oppositeOf [.d (.agg [ints l]), .d (dig a)] [.any, .any] (.d (dig (oppD l a))) := by
  have hn := isSpaceM_n hs
  have hz := isSpaceM_szs hs
  have ea := pad8_len a
  refine den_go [] l_impl_oppositeOf ?_
  repeat' (first | simp -implicitDefEqProofs (maxSteps := 1000000) (disch := (first | omega | (simp only [go_sem] <;> omega) | fail)) only [go_sem, ints, bools, mat, reduceIte, Nat.reduceEqDiff, Nat.reduceAdd, Nat.reduceBEq, Nat.reduceMul, Nat.reduceLeDiff, Nat.reduceLT, Nat.reduceMod, Nat.reduceDiv, Nat.reduceSub, reduceCtorEq, c_impl_oppositeOf] | ((first | refine goIf_b (fun h => ?_) (fun h => ?_) | refine goG_b (fun h => ?_) (fun h => ?_) | refine goTG_b (fun h => ?_) (fun h => ?_) | refine goOG_b (fun h => ?_) (fun h => ?_)) <;> ((try simp only [Bool.not_eq_true', Bool.not_eq_false'] at h); (try simp only [h]); (try simp only [decide_eq_true_eq, decide_eq_false_iff_not, bne_iff_ne, bne_eq_false_iff_eq, beq_iff_eq, beq_eq_false_iff_ne, ne_eq, Int.not_lt, Int.not_le, Bool.and_eq_true, Bool.and_eq_false_iff, Bool.or_eq_true, Bool.or_eq_false_iff] at h))))
  refine go_loop (fun (j : Nat) => ⟨[(3, .ref 0 0), (4, .ref 1 0), (5, .ref 2 0), (10, .d (ints l)), (11, .d (di l.length)), (12, .d (di j))], [some (.var ((pad8 a).map dy)), some (.var [dy 0, dy 0, dy 0, dy 0, dy 0, dy 0, dy 0, dy 0]), some (.var ((pad8 ((oppD l a).take j)).map dy))]⟩) (fun j => j ≤ l.length) (fun j => l.length - j) 0 ?_ ?_ ?_
  · (simp -implicitDefEqProofs (maxSteps := 1000000) (disch := (first | omega | (simp only [go_sem] <;> omega) | fail)) only [go_sem, ints, bools, mat, reduceIte, Nat.reduceEqDiff, Nat.reduceAdd, Nat.reduceBEq, Nat.reduceMul, Nat.reduceLeDiff, Nat.reduceLT, Nat.reduceMod, Nat.reduceDiv, Nat.reduceSub, reduceCtorEq] <;> rfl)
  · simp
  · rintro j hj J hJ
    have hx := in4_pad ha8 ha j
    have hq := hz j
    have hm := fun h => mod_bnd (x := l.getD j 0 - (pad8 a).getD j 0) (hz j h)
    have hst := fun h => pad8_set (S := oppD l a) (j := j) (by rw [oppD_len]; omega) h
    have hsg := fun h => oppD_get (l := l) a (i := j) h
    by_cases hjl : j < l.length
    · have hdj := hd j hjl
      have hpg : (pad8 a).getD j 0 = a.getD j 0 := pad8_get ha8 j
      repeat' (first | simp -implicitDefEqProofs (maxSteps := 1000000) (disch := (first | omega | (simp only [go_sem] <;> omega) | fail)) only [go_sem, ints, bools, mat, reduceIte, Nat.reduceEqDiff, Nat.reduceAdd, Nat.reduceBEq, Nat.reduceMul, Nat.reduceLeDiff, Nat.reduceLT, Nat.reduceMod, Nat.reduceDiv, Nat.reduceSub, reduceCtorEq] | ((first | refine goIf_b (fun h => ?_) (fun h => ?_) | refine goG_b (fun h => ?_) (fun h => ?_) | refine goTG_b (fun h => ?_) (fun h => ?_) | refine goOG_b (fun h => ?_) (fun h => ?_)) <;> ((try simp only [Bool.not_eq_true', Bool.not_eq_false'] at h); (try simp only [h]); (try simp only [decide_eq_true_eq, decide_eq_false_iff_not, bne_iff_ne, bne_eq_false_iff_eq, beq_iff_eq, beq_eq_false_iff_ne, ne_eq, Int.not_lt, Int.not_le, Bool.and_eq_true, Bool.and_eq_false_iff, Bool.or_eq_true, Bool.or_eq_false_iff] at h)) <;> (try (exfalso; omega))))
      refine hJ (j + 1) (by omega) (by omega) _ ?_
      simp -implicitDefEqProofs (maxSteps := 1000000) (disch := (first | omega | (simp only [go_sem] <;> omega) | fail)) only [go_sem, ints, bools, mat, reduceIte, Nat.reduceEqDiff, Nat.reduceAdd, Nat.reduceBEq, Nat.reduceMul, Nat.reduceLeDiff, Nat.reduceLT, Nat.reduceMod, Nat.reduceDiv, Nat.reduceSub, reduceCtorEq]
      rw [← hst (by rw [oppD_len]; omega), hsg (by omega), hpg]; rfl
    · have : j = l.length := by omega
      subst this
      repeat' (first | simp -implicitDefEqProofs (maxSteps := 1000000) (disch := (first | omega | (simp only [go_sem] <;> omega) | fail)) only [go_sem, ints, bools, mat, reduceIte, Nat.reduceEqDiff, Nat.reduceAdd, Nat.reduceBEq, Nat.reduceMul, Nat.reduceLeDiff, Nat.reduceLT, Nat.reduceMod, Nat.reduceDiv, Nat.reduceSub, reduceCtorEq] | ((first | refine goIf_b (fun h => ?_) (fun h => ?_) | refine goG_b (fun h => ?_) (fun h => ?_) | refine goTG_b (fun h => ?_) (fun h => ?_) | refine goOG_b (fun h => ?_) (fun h => ?_)) <;> ((try simp only [Bool.not_eq_true', Bool.not_eq_false'] at h); (try simp only [h]); (try simp only [decide_eq_true_eq, decide_eq_false_iff_not, bne_iff_ne, bne_eq_false_iff_eq, beq_iff_eq, beq_eq_false_iff_ne, ne_eq, Int.not_lt, Int.not_le, Bool.and_eq_true, Bool.and_eq_false_iff, Bool.or_eq_true, Bool.or_eq_false_iff] at h)) <;> (try (exfalso; omega))))
abbrev lnW (l c ws : List Int) : Int := if gcM l c ws = 0 then (if linB l c = true then 0 else 5) else gcM l c ws
theorem lnW_ok {l c ws : List Int} (h : lnW l c ws = 0) : isSpaceM l = true ∧ isCodeM l c = true ∧ linB l c = true ∧ inC l ws := by
  unfold lnW at h
  split at h
  · rename_i hg
    obtain ⟨a, b, d⟩ := gcM_ok hg
    split at h
    · rename_i hb; exact ⟨a, d, hb, areW_inC b⟩
    · cases h
  · rename_i hg; exact (hg h).elim
theorem lnW_eq (l c ws : List Int) : lnW l c ws = if wcM l ws = 0 then lnM l c else wcM l ws := by
  unfold lnW lnM gcM ggM
  by_cases hw : wcM l ws = 0
  · have hs := (wcM_space hw).1
    simp only [hw, hs, if_true]
  · simp only [if_neg hw]
theorem d_impl_linearCode (l c ws : List Int) (hl : l.length < 1048577) (hc : c.length < 1048577) (hw : ws.length < 1048577) : Den PA f_impl_linearCode [.d (.agg [ints l]), .d (ints c), .d (ints ws)] [.any, .any, .any] (.d (di (lnW l c ws))) := by
  refine den_go [] l_impl_linearCode ?_
  repeat' (first | simp -implicitDefEqProofs (maxSteps := 1000000) (disch := (first | omega | (simp only [go_sem] <;> omega) | fail)) only [go_sem, ints, bools, mat, reduceIte, Nat.reduceEqDiff, Nat.reduceAdd, Nat.reduceBEq, Nat.reduceMul, Nat.reduceLeDiff, Nat.reduceLT, Nat.reduceMod, Nat.reduceDiv, Nat.reduceSub, reduceCtorEq, c_impl_linearCode] | ((first | refine goIf_b (fun h => ?_) (fun h => ?_) | refine goG_b (fun h => ?_) (fun h => ?_) | refine goTG_b (fun h => ?_) (fun h => ?_) | refine goOG_b (fun h => ?_) (fun h => ?_)) <;> ((try simp only [Bool.not_eq_true', Bool.not_eq_false'] at h); (try simp only [h]); (try simp only [decide_eq_true_eq, decide_eq_false_iff_not, bne_iff_ne, bne_eq_false_iff_eq, beq_iff_eq, beq_eq_false_iff_ne, ne_eq, Int.not_lt, Int.not_le, Bool.and_eq_true, Bool.and_eq_false_iff, Bool.or_eq_true, Bool.or_eq_false_iff] at h))))
  first | refine goC_call [.r, .r, .r] (d_impl_codeCode l hl c hc _ ws (.inl rfl) hw) ?_ | refine goOC_call [.r, .r, .r] (d_impl_codeCode l hl c hc _ ws (.inl rfl) hw) ?_
  by_cases h : gcM l c ws = 0
  · obtain ⟨hs, _, hcc⟩ := gcM_ok h
    rw [lnW, if_pos h, h]
    repeat' (first | simp -implicitDefEqProofs (maxSteps := 1000000) (disch := (first | omega | (simp only [go_sem] <;> omega) | fail)) only [go_sem, ints, bools, mat, reduceIte, Nat.reduceEqDiff, Nat.reduceAdd, Nat.reduceBEq, Nat.reduceMul, Nat.reduceLeDiff, Nat.reduceLT, Nat.reduceMod, Nat.reduceDiv, Nat.reduceSub, reduceCtorEq] | ((first | refine goIf_b (fun h => ?_) (fun h => ?_) | refine goG_b (fun h => ?_) (fun h => ?_) | refine goTG_b (fun h => ?_) (fun h => ?_) | refine goOG_b (fun h => ?_) (fun h => ?_)) <;> ((try simp only [Bool.not_eq_true', Bool.not_eq_false'] at h); (try simp only [h]); (try simp only [decide_eq_true_eq, decide_eq_false_iff_not, bne_iff_ne, bne_eq_false_iff_eq, beq_iff_eq, beq_eq_false_iff_ne, ne_eq, Int.not_lt, Int.not_le, Bool.and_eq_true, Bool.and_eq_false_iff, Bool.or_eq_true, Bool.or_eq_false_iff] at h))))
    first | refine goC_call [.r, .r] (d_impl_isLinear l c hs hcc hc) ?_ | refine goOC_call [.r, .r] (d_impl_isLinear l c hs hcc hc) ?_
    cases hq : linB l c with
    | true =>
      repeat' (first | simp -implicitDefEqProofs (maxSteps := 1000000) (disch := (first | omega | (simp only [go_sem] <;> omega) | fail)) only [go_sem, ints, bools, mat, reduceIte, Nat.reduceEqDiff, Nat.reduceAdd, Nat.reduceBEq, Nat.reduceMul, Nat.reduceLeDiff, Nat.reduceLT, Nat.reduceMod, Nat.reduceDiv, Nat.reduceSub, reduceCtorEq] | ((first | refine goIf_b (fun h => ?_) (fun h => ?_) | refine goG_b (fun h => ?_) (fun h => ?_) | refine goTG_b (fun h => ?_) (fun h => ?_) | refine goOG_b (fun h => ?_) (fun h => ?_)) <;> ((try simp only [Bool.not_eq_true', Bool.not_eq_false'] at h); (try simp only [h]); (try simp only [decide_eq_true_eq, decide_eq_false_iff_not, bne_iff_ne, bne_eq_false_iff_eq, beq_iff_eq, beq_eq_false_iff_ne, ne_eq, Int.not_lt, Int.not_le, Bool.and_eq_true, Bool.and_eq_false_iff, Bool.or_eq_true, Bool.or_eq_false_iff] at h))))
    | false =>
      repeat' (first | simp -implicitDefEqProofs (maxSteps := 1000000) (disch := (first | omega | (simp only [go_sem] <;> omega) | fail)) only [go_sem, ints, bools, mat, reduceIte, Nat.reduceEqDiff, Nat.reduceAdd, Nat.reduceBEq, Nat.reduceMul, Nat.reduceLeDiff, Nat.reduceLT, Nat.reduceMod, Nat.reduceDiv, Nat.reduceSub, reduceCtorEq] | ((first | refine goIf_b (fun h => ?_) (fun h => ?_) | refine goG_b (fun h => ?_) (fun h => ?_) | refine goTG_b (fun h => ?_) (fun h => ?_) | refine goOG_b (fun h => ?_) (fun h => ?_)) <;> ((try simp only [Bool.not_eq_true', Bool.not_eq_false'] at h); (try simp only [h]); (try simp only [decide_eq_true_eq, decide_eq_false_iff_not, bne_iff_ne, bne_eq_false_iff_eq, beq_iff_eq, beq_eq_false_iff_ne, ne_eq, Int.not_lt, Int.not_le, Bool.and_eq_true, Bool.and_eq_false_iff, Bool.or_eq_true, Bool.or_eq_false_iff] at h))))
  · rw [lnW, if_neg h]
    generalize gcM l c ws = b at h
    repeat' (first | simp -implicitDefEqProofs (maxSteps := 1000000) (disch := (first | omega | (simp only [go_sem] <;> omega) | fail)) only [go_sem, ints, bools, mat, reduceIte, Nat.reduceEqDiff, Nat.reduceAdd, Nat.reduceBEq, Nat.reduceMul, Nat.reduceLeDiff, Nat.reduceLT, Nat.reduceMod, Nat.reduceDiv, Nat.reduceSub, reduceCtorEq] | ((first | refine goIf_b (fun h => ?_) (fun h => ?_) | refine goG_b (fun h => ?_) (fun h => ?_) | refine goTG_b (fun h => ?_) (fun h => ?_) | refine goOG_b (fun h => ?_) (fun h => ?_)) <;> ((try simp only [Bool.not_eq_true', Bool.not_eq_false'] at h); (try simp only [h]); (try simp only [decide_eq_true_eq, decide_eq_false_iff_not, bne_iff_ne, bne_eq_false_iff_eq, beq_iff_eq, beq_eq_false_iff_ne, ne_eq, Int.not_lt, Int.not_le, Bool.and_eq_true, Bool.and_eq_false_iff, Bool.or_eq_true, Bool.or_eq_false_iff] at h))))
    all_goals (exfalso; omega)
theorem les_get (l c : List Int) {k : Nat} (h : k < (prodM l).toNat) : (lesM l c).getD k 0 = ldW l c k := by
  have h2 : k < (allW l).length := by rw [allW_len]; exact h
  have h3 : (allW l)[k] = (k : Int) := by simpa [h2] using allW_get l h
  simp [List.getD_eq_getElem?_getD, h2, h3]
theorem sum_opp {l : List Int} (hz : szs l) (w u : Int) : wordN l (sumM l (digM l w) (oppD l (digM l u))) l.length = difW l w u := by
  unfold difW sumW; rw [oppW_digs hz]
theorem dif_mem {l c : List Int} (hs : isSpaceM l = true) (hp : plainM l = true) (g : Grp l c) {w : Int} (hw : 0 ≤ w ∧ w < prodM l) : difW l w (ldW l c w) ∈ c := by
  obtain ⟨u, hu, e⟩ := shM_mem.1 (ld_ok hs g hw).1
  have hz := isSpaceM_szs hs
  have e2 : difW l w (ldW l c w) = oppW l u := by
    refine word_eq hz (sumW_bnd hs _ _) (oppW_bnd hs _) fun i hi => ?_
    rw [← e]
    simp only [sumW_dig hz _ _ hi, oppW_dig hz _ hi]
    have h1 := dig_lt hz u hi
    have h2 := dig_lt hz w hi
    rcases q_cases hz hi with hq | hq | hq <;> rw [hq] at h1 h2 ⊢ <;> omega
  rw [e2]; exact grp_opp hs hp g hu
abbrev nwR (l c : List Int) (w : Int) : R := .tup [.d (di (if lnW l c [w] = 0 then difW l w (ldW l c w) else 0)), .d (di (lnW l c [w]))]
theorem d_impl_NearestWord (l c : List Int) (w : Int) (hl : l.length < 1048577) (hc : c.length < 1048577) : Den PA f_impl_NearestWord [.d (.agg [ints l]), .d (ints c), .d (di w)] [.any, .any, .any] (nwR l c w) := by
  refine den_go [] l_impl_NearestWord ?_
  repeat' (first | simp -implicitDefEqProofs (maxSteps := 1000000) (disch := (first | omega | (simp only [go_sem] <;> omega) | fail)) only [go_sem, ints, bools, mat, reduceIte, Nat.reduceEqDiff, Nat.reduceAdd, Nat.reduceBEq, Nat.reduceMul, Nat.reduceLeDiff, Nat.reduceLT, Nat.reduceMod, Nat.reduceDiv, Nat.reduceSub, reduceCtorEq, c_impl_NearestWord] | ((first | refine goIf_b (fun h => ?_) (fun h => ?_) | refine goG_b (fun h => ?_) (fun h => ?_) | refine goTG_b (fun h => ?_) (fun h => ?_) | refine goOG_b (fun h => ?_) (fun h => ?_)) <;> ((try simp only [Bool.not_eq_true', Bool.not_eq_false'] at h); (try simp only [h]); (try simp only [decide_eq_true_eq, decide_eq_false_iff_not, bne_iff_ne, bne_eq_false_iff_eq, beq_iff_eq, beq_eq_false_iff_ne, ne_eq, Int.not_lt, Int.not_le, Bool.and_eq_true, Bool.and_eq_false_iff, Bool.or_eq_true, Bool.or_eq_false_iff] at h))))
  first | refine goC_call [.r, .r, .r] (d_impl_linearCode l c [w] hl hc (by simp)) ?_ | refine goOC_call [.r, .r, .r] (d_impl_linearCode l c [w] hl hc (by simp)) ?_
  by_cases h : lnW l c [w] = 0
  · rw [nwR, if_pos h, h]
    obtain ⟨hs, hcc, hlin, hww⟩ := lnW_ok h
    have g := lin_grp hs hcc hlin
    have hn := isSpaceM_n hs
    have hz := isSpaceM_szs hs
    have hpr := isSpaceM_prod hs
    have hw : 0 ≤ w ∧ w < prodM l := hww w (by simp)
    have hal : (lesM l c).length = (prodM l).toNat := by rw [List.length_map, allW_len]
    have hlg := les_get l c (k := w.toNat) (by omega)
    rw [Int.toNat_of_nonneg hw.1] at hlg
    have hb := ld_bnd hs g hw
    have ew := digM_len l w
    have ed := digM_len l (ldW l c w)
    have eo := oppD_len l (digM l (ldW l c w))
    repeat' (first | simp -implicitDefEqProofs (maxSteps := 1000000) (disch := (first | omega | (simp only [go_sem] <;> omega) | fail)) only [go_sem, ints, bools, mat, reduceIte, Nat.reduceEqDiff, Nat.reduceAdd, Nat.reduceBEq, Nat.reduceMul, Nat.reduceLeDiff, Nat.reduceLT, Nat.reduceMod, Nat.reduceDiv, Nat.reduceSub, reduceCtorEq, hlg] | ((first | refine goIf_b (fun h => ?_) (fun h => ?_) | refine goG_b (fun h => ?_) (fun h => ?_) | refine goTG_b (fun h => ?_) (fun h => ?_) | refine goOG_b (fun h => ?_) (fun h => ?_)) <;> ((try simp only [Bool.not_eq_true', Bool.not_eq_false'] at h); (try simp only [h]); (try simp only [decide_eq_true_eq, decide_eq_false_iff_not, bne_iff_ne, bne_eq_false_iff_eq, beq_iff_eq, beq_eq_false_iff_ne, ne_eq, Int.not_lt, Int.not_le, Bool.and_eq_true, Bool.and_eq_false_iff, Bool.or_eq_true, Bool.or_eq_false_iff] at h)) <;> (try (exfalso; omega))) | ((first | refine goC_call [.r, .r] (d_impl_leaders l c hs (lin_plain hlin) (lin_grp hs hcc hlin)) ?_ | refine goOC_call [.r, .r] (d_impl_leaders l c hs (lin_plain hlin) (lin_grp hs hcc hlin)) ?_); simp -implicitDefEqProofs (maxSteps := 1000000) (disch := (first | omega | (simp only [go_sem] <;> omega) | fail)) only [go_sem, ints, bools, mat, reduceIte, Nat.reduceEqDiff, Nat.reduceAdd, Nat.reduceBEq, Nat.reduceMul, Nat.reduceLeDiff, Nat.reduceLT, Nat.reduceMod, Nat.reduceDiv, Nat.reduceSub, reduceCtorEq, hlg]; fail_if_success (with_reducible show chk _ _)) | ((first | refine goC_call [.r, .r] (d_impl_digitsOf l hs (ldW l c w) hb.1 (by omega)) ?_ | refine goOC_call [.r, .r] (d_impl_digitsOf l hs (ldW l c w) hb.1 (by omega)) ?_); simp -implicitDefEqProofs (maxSteps := 1000000) (disch := (first | omega | (simp only [go_sem] <;> omega) | fail)) only [go_sem, ints, bools, mat, reduceIte, Nat.reduceEqDiff, Nat.reduceAdd, Nat.reduceBEq, Nat.reduceMul, Nat.reduceLeDiff, Nat.reduceLT, Nat.reduceMod, Nat.reduceDiv, Nat.reduceSub, reduceCtorEq, hlg]; fail_if_success (with_reducible show chk _ _)) | ((first | refine goC_call [.r, .r] (d_impl_digitsOf l hs w hw.1 (by omega)) ?_ | refine goOC_call [.r, .r] (d_impl_digitsOf l hs w hw.1 (by omega)) ?_); simp -implicitDefEqProofs (maxSteps := 1000000) (disch := (first | omega | (simp only [go_sem] <;> omega) | fail)) only [go_sem, ints, bools, mat, reduceIte, Nat.reduceEqDiff, Nat.reduceAdd, Nat.reduceBEq, Nat.reduceMul, Nat.reduceLeDiff, Nat.reduceLT, Nat.reduceMod, Nat.reduceDiv, Nat.reduceSub, reduceCtorEq, hlg]; fail_if_success (with_reducible show chk _ _)) | ((first | refine goC_call [.r, .r] (d_impl_oppositeOf l (digM l (ldW l c w)) hs (by omega) (digM_bnd _ hz) (fun i hi => (dig_lt hz _ hi).2)) ?_ | refine goOC_call [.r, .r] (d_impl_oppositeOf l (digM l (ldW l c w)) hs (by omega) (digM_bnd _ hz) (fun i hi => (dig_lt hz _ hi).2)) ?_); simp -implicitDefEqProofs (maxSteps := 1000000) (disch := (first | omega | (simp only [go_sem] <;> omega) | fail)) only [go_sem, ints, bools, mat, reduceIte, Nat.reduceEqDiff, Nat.reduceAdd, Nat.reduceBEq, Nat.reduceMul, Nat.reduceLeDiff, Nat.reduceLT, Nat.reduceMod, Nat.reduceDiv, Nat.reduceSub, reduceCtorEq, hlg]; fail_if_success (with_reducible show chk _ _)) | ((first | refine goC_call [.r, .r, .r] (d_impl_sumOf l (digM l w) (oppD l (digM l (ldW l c w))) hs (by omega) (by omega) (digM_bnd _ hz) (oppD_bnd hz _)) ?_ | refine goOC_call [.r, .r, .r] (d_impl_sumOf l (digM l w) (oppD l (digM l (ldW l c w))) hs (by omega) (by omega) (digM_bnd _ hz) (oppD_bnd hz _)) ?_); simp -implicitDefEqProofs (maxSteps := 1000000) (disch := (first | omega | (simp only [go_sem] <;> omega) | fail)) only [go_sem, ints, bools, mat, reduceIte, Nat.reduceEqDiff, Nat.reduceAdd, Nat.reduceBEq, Nat.reduceMul, Nat.reduceLeDiff, Nat.reduceLT, Nat.reduceMod, Nat.reduceDiv, Nat.reduceSub, reduceCtorEq, hlg]; fail_if_success (with_reducible show chk _ _)) | ((first | refine goC_call [.r, .r] (d_impl_wordOf l (sumM l (digM l w) (oppD l (digM l (ldW l c w)))) hs (by rw [sumM_len]; omega) (sumM_lt hz _ _)) ?_ | refine goOC_call [.r, .r] (d_impl_wordOf l (sumM l (digM l w) (oppD l (digM l (ldW l c w)))) hs (by rw [sumM_len]; omega) (sumM_lt hz _ _)) ?_); simp -implicitDefEqProofs (maxSteps := 1000000) (disch := (first | omega | (simp only [go_sem] <;> omega) | fail)) only [go_sem, ints, bools, mat, reduceIte, Nat.reduceEqDiff, Nat.reduceAdd, Nat.reduceBEq, Nat.reduceMul, Nat.reduceLeDiff, Nat.reduceLT, Nat.reduceMod, Nat.reduceDiv, Nat.reduceSub, reduceCtorEq, hlg]; fail_if_success (with_reducible show chk _ _)) | (rw [goS_two]; refine ⟨?_, ?_⟩))
    all_goals (rw [sum_opp hz])
  · rw [nwR, if_neg h]
    generalize lnW l c [w] = b at h
    repeat' (first | simp -implicitDefEqProofs (maxSteps := 1000000) (disch := (first | omega | (simp only [go_sem] <;> omega) | fail)) only [go_sem, ints, bools, mat, reduceIte, Nat.reduceEqDiff, Nat.reduceAdd, Nat.reduceBEq, Nat.reduceMul, Nat.reduceLeDiff, Nat.reduceLT, Nat.reduceMod, Nat.reduceDiv, Nat.reduceSub, reduceCtorEq] | ((first | refine goIf_b (fun h => ?_) (fun h => ?_) | refine goG_b (fun h => ?_) (fun h => ?_) | refine goTG_b (fun h => ?_) (fun h => ?_) | refine goOG_b (fun h => ?_) (fun h => ?_)) <;> ((try simp only [Bool.not_eq_true', Bool.not_eq_false'] at h); (try simp only [h]); (try simp only [decide_eq_true_eq, decide_eq_false_iff_not, bne_iff_ne, bne_eq_false_iff_eq, beq_iff_eq, beq_eq_false_iff_ne, ne_eq, Int.not_lt, Int.not_le, Bool.and_eq_true, Bool.and_eq_false_iff, Bool.or_eq_true, Bool.or_eq_false_iff] at h)) <;> (try (exfalso; omega))))
    all_goals (exfalso; omega)
theorem d_spec_NearestWord (l c : List Int) (w : Int) (hl : l.length < 1048577) (hc : c.length < 1048577) : Den PA f_spec_NearestWord [.d (.agg [ints l]), .d (ints c), .d (di w)] [.any, .any, .any] (nwR l c w) := by
  refine den_go [] l_spec_NearestWord ?_
  repeat' (first | simp -implicitDefEqProofs (maxSteps := 1000000) (disch := (first | omega | (simp only [go_sem] <;> omega) | fail)) only [go_sem, ints, bools, mat, reduceIte, Nat.reduceEqDiff, Nat.reduceAdd, Nat.reduceBEq, Nat.reduceMul, Nat.reduceLeDiff, Nat.reduceLT, Nat.reduceMod, Nat.reduceDiv, Nat.reduceSub, reduceCtorEq, c_spec_NearestWord] | ((first | refine goIf_b (fun h => ?_) (fun h => ?_) | refine goG_b (fun h => ?_) (fun h => ?_) | refine goTG_b (fun h => ?_) (fun h => ?_) | refine goOG_b (fun h => ?_) (fun h => ?_)) <;> ((try simp only [Bool.not_eq_true', Bool.not_eq_false'] at h); (try simp only [h]); (try simp only [decide_eq_true_eq, decide_eq_false_iff_not, bne_iff_ne, bne_eq_false_iff_eq, beq_iff_eq, beq_eq_false_iff_ne, ne_eq, Int.not_lt, Int.not_le, Bool.and_eq_true, Bool.and_eq_false_iff, Bool.or_eq_true, Bool.or_eq_false_iff] at h))))
  first | refine goC_call [.r, .r] (d_spec_l01Words l hl [w] (by simp)) ?_ | refine goOC_call [.r, .r] (d_spec_l01Words l hl [w] (by simp)) ?_
  have e := lnW_eq l c [w]
  by_cases h1 : wcM l [w] = 0
  · rw [if_pos h1] at e
    rw [h1]
    repeat' (first | simp -implicitDefEqProofs (maxSteps := 1000000) (disch := (first | omega | (simp only [go_sem] <;> omega) | fail)) only [go_sem, ints, bools, mat, reduceIte, Nat.reduceEqDiff, Nat.reduceAdd, Nat.reduceBEq, Nat.reduceMul, Nat.reduceLeDiff, Nat.reduceLT, Nat.reduceMod, Nat.reduceDiv, Nat.reduceSub, reduceCtorEq] | ((first | refine goIf_b (fun h => ?_) (fun h => ?_) | refine goG_b (fun h => ?_) (fun h => ?_) | refine goTG_b (fun h => ?_) (fun h => ?_) | refine goOG_b (fun h => ?_) (fun h => ?_)) <;> ((try simp only [Bool.not_eq_true', Bool.not_eq_false'] at h); (try simp only [h]); (try simp only [decide_eq_true_eq, decide_eq_false_iff_not, bne_iff_ne, bne_eq_false_iff_eq, beq_iff_eq, beq_eq_false_iff_ne, ne_eq, Int.not_lt, Int.not_le, Bool.and_eq_true, Bool.and_eq_false_iff, Bool.or_eq_true, Bool.or_eq_false_iff] at h)) <;> (try (exfalso; omega))))
    first | refine goC_call [.r, .r] (d_spec_l05Given l c hl hc) ?_ | refine goOC_call [.r, .r] (d_spec_l05Given l c hl hc) ?_
    rw [← e]
    by_cases h : lnW l c [w] = 0
    · rw [nwR, if_pos h, h]
      obtain ⟨hs, hcc, hlin, hww⟩ := lnW_ok h
      have g := lin_grp hs hcc hlin
      have hn := isSpaceM_n hs
      have hpr := isSpaceM_prod hs
      have hw : 0 ≤ w ∧ w < prodM l := hww w (by simp)
      have hb := ld_bnd hs g hw
      have hcb := inC_get (inC_code hcc)
      repeat' (first | simp -implicitDefEqProofs (maxSteps := 1000000) (disch := (first | omega | (simp only [go_sem] <;> omega) | fail)) only [go_sem, ints, bools, mat, reduceIte, Nat.reduceEqDiff, Nat.reduceAdd, Nat.reduceBEq, Nat.reduceMul, Nat.reduceLeDiff, Nat.reduceLT, Nat.reduceMod, Nat.reduceDiv, Nat.reduceSub, reduceCtorEq] | ((first | refine goIf_b (fun h => ?_) (fun h => ?_) | refine goG_b (fun h => ?_) (fun h => ?_) | refine goTG_b (fun h => ?_) (fun h => ?_) | refine goOG_b (fun h => ?_) (fun h => ?_)) <;> ((try simp only [Bool.not_eq_true', Bool.not_eq_false'] at h); (try simp only [h]); (try simp only [decide_eq_true_eq, decide_eq_false_iff_not, bne_iff_ne, bne_eq_false_iff_eq, beq_iff_eq, beq_eq_false_iff_ne, ne_eq, Int.not_lt, Int.not_le, Bool.and_eq_true, Bool.and_eq_false_iff, Bool.or_eq_true, Bool.or_eq_false_iff] at h)) <;> (try (exfalso; omega))))
      first | refine goC_call [.r, .r, .r] (d_spec_l05Leader l c hs g w hw) ?_ | refine goOC_call [.r, .r, .r] (d_spec_l05Leader l c hs g w hw) ?_
      repeat' (first | simp -implicitDefEqProofs (maxSteps := 1000000) (disch := (first | omega | (simp only [go_sem] <;> omega) | fail)) only [go_sem, ints, bools, mat, reduceIte, Nat.reduceEqDiff, Nat.reduceAdd, Nat.reduceBEq, Nat.reduceMul, Nat.reduceLeDiff, Nat.reduceLT, Nat.reduceMod, Nat.reduceDiv, Nat.reduceSub, reduceCtorEq] | ((first | refine goIf_b (fun h => ?_) (fun h => ?_) | refine goG_b (fun h => ?_) (fun h => ?_) | refine goTG_b (fun h => ?_) (fun h => ?_) | refine goOG_b (fun h => ?_) (fun h => ?_)) <;> ((try simp only [Bool.not_eq_true', Bool.not_eq_false'] at h); (try simp only [h]); (try simp only [decide_eq_true_eq, decide_eq_false_iff_not, bne_iff_ne, bne_eq_false_iff_eq, beq_iff_eq, beq_eq_false_iff_ne, ne_eq, Int.not_lt, Int.not_le, Bool.and_eq_true, Bool.and_eq_false_iff, Bool.or_eq_true, Bool.or_eq_false_iff] at h)) <;> (try (exfalso; omega))))
      refine go_loop (fun (k : Nat) => ⟨[(1, .d (ints c)), (2, .d (di w)), (3, .ref 0 0), (9, .d (di (ldW l c w))), (28, .d (di c.length)), (29, .d (di k))], [some (.var [ints l])]⟩) (fun k => k ≤ c.length ∧ ∀ i, i < k → sumW l (c.getD i 0) (ldW l c w) ≠ w) (fun k => c.length - k) 0 ?_ ?_ ?_
      · (simp -implicitDefEqProofs (maxSteps := 1000000) (disch := (first | omega | (simp only [go_sem] <;> omega) | fail)) only [go_sem, ints, bools, mat, reduceIte, Nat.reduceEqDiff, Nat.reduceAdd, Nat.reduceBEq, Nat.reduceMul, Nat.reduceLeDiff, Nat.reduceLT, Nat.reduceMod, Nat.reduceDiv, Nat.reduceSub, reduceCtorEq] <;> rfl)
      · exact ⟨Nat.zero_le _, fun i hi => by omega⟩
      · rintro k ⟨hk, hi⟩ J hJ
        have hck := hcb k
        by_cases hkl : k < c.length
        · repeat' (first | simp -implicitDefEqProofs (maxSteps := 1000000) (disch := (first | omega | (simp only [go_sem] <;> omega) | fail)) only [go_sem, ints, bools, mat, reduceIte, Nat.reduceEqDiff, Nat.reduceAdd, Nat.reduceBEq, Nat.reduceMul, Nat.reduceLeDiff, Nat.reduceLT, Nat.reduceMod, Nat.reduceDiv, Nat.reduceSub, reduceCtorEq] | ((first | refine goIf_b (fun h => ?_) (fun h => ?_) | refine goG_b (fun h => ?_) (fun h => ?_) | refine goTG_b (fun h => ?_) (fun h => ?_) | refine goOG_b (fun h => ?_) (fun h => ?_)) <;> ((try simp only [Bool.not_eq_true', Bool.not_eq_false'] at h); (try simp only [h]); (try simp only [decide_eq_true_eq, decide_eq_false_iff_not, bne_iff_ne, bne_eq_false_iff_eq, beq_iff_eq, beq_eq_false_iff_ne, ne_eq, Int.not_lt, Int.not_le, Bool.and_eq_true, Bool.and_eq_false_iff, Bool.or_eq_true, Bool.or_eq_false_iff] at h)) <;> (try (exfalso; omega))))
          first | refine goC_call [.r, .r, .r] (d_spec_l01Sum l hs (c.getD k 0) (ldW l c w) (by omega) (by omega) (by omega) (by omega)) ?_ | refine goOC_call [.r, .r, .r] (d_spec_l01Sum l hs (c.getD k 0) (ldW l c w) (by omega) (by omega) (by omega) (by omega)) ?_
          repeat' (first | simp -implicitDefEqProofs (maxSteps := 1000000) (disch := (first | omega | (simp only [go_sem] <;> omega) | fail)) only [go_sem, ints, bools, mat, reduceIte, Nat.reduceEqDiff, Nat.reduceAdd, Nat.reduceBEq, Nat.reduceMul, Nat.reduceLeDiff, Nat.reduceLT, Nat.reduceMod, Nat.reduceDiv, Nat.reduceSub, reduceCtorEq] | ((first | refine goIf_b (fun h => ?_) (fun h => ?_) | refine goG_b (fun h => ?_) (fun h => ?_) | refine goTG_b (fun h => ?_) (fun h => ?_) | refine goOG_b (fun h => ?_) (fun h => ?_)) <;> ((try simp only [Bool.not_eq_true', Bool.not_eq_false'] at h); (try simp only [h]); (try simp only [decide_eq_true_eq, decide_eq_false_iff_not, bne_iff_ne, bne_eq_false_iff_eq, beq_iff_eq, beq_eq_false_iff_ne, ne_eq, Int.not_lt, Int.not_le, Bool.and_eq_true, Bool.and_eq_false_iff, Bool.or_eq_true, Bool.or_eq_false_iff] at h)) <;> (try (exfalso; omega))))
          · have e3 := dif_sum hs hw (ldW l c w)
            have hbd := difW_bnd hs w (ldW l c w)
            rw [sumW_inj hs (hck hkl) hbd (ldW l c w) (by rw [e3]; assumption)]
          · refine hJ (k + 1) ⟨by omega, all_ext hi (by assumption)⟩ (by omega) _ (by (simp -implicitDefEqProofs (maxSteps := 1000000) (disch := (first | omega | (simp only [go_sem] <;> omega) | fail)) only [go_sem, ints, bools, mat, reduceIte, Nat.reduceEqDiff, Nat.reduceAdd, Nat.reduceBEq, Nat.reduceMul, Nat.reduceLeDiff, Nat.reduceLT, Nat.reduceMod, Nat.reduceDiv, Nat.reduceSub, reduceCtorEq] <;> rfl))
        · exfalso
          obtain ⟨i, hi2, e2⟩ := List.mem_iff_getElem.1 (dif_mem hs (lin_plain hlin) g hw)
          refine hi i (by omega) ?_
          rw [show c.getD i 0 = difW l w (ldW l c w) by rw [← e2]; simp [hi2]]
          exact dif_sum hs hw _
    · rw [nwR, if_neg h]
      generalize lnW l c [w] = b at h
      repeat' (first | simp -implicitDefEqProofs (maxSteps := 1000000) (disch := (first | omega | (simp only [go_sem] <;> omega) | fail)) only [go_sem, ints, bools, mat, reduceIte, Nat.reduceEqDiff, Nat.reduceAdd, Nat.reduceBEq, Nat.reduceMul, Nat.reduceLeDiff, Nat.reduceLT, Nat.reduceMod, Nat.reduceDiv, Nat.reduceSub, reduceCtorEq] | ((first | refine goIf_b (fun h => ?_) (fun h => ?_) | refine goG_b (fun h => ?_) (fun h => ?_) | refine goTG_b (fun h => ?_) (fun h => ?_) | refine goOG_b (fun h => ?_) (fun h => ?_)) <;> ((try simp only [Bool.not_eq_true', Bool.not_eq_false'] at h); (try simp only [h]); (try simp only [decide_eq_true_eq, decide_eq_false_iff_not, bne_iff_ne, bne_eq_false_iff_eq, beq_iff_eq, beq_eq_false_iff_ne, ne_eq, Int.not_lt, Int.not_le, Bool.and_eq_true, Bool.and_eq_false_iff, Bool.or_eq_true, Bool.or_eq_false_iff] at h)) <;> (try (exfalso; omega))))
      all_goals (exfalso; omega)
  · rw [if_neg h1] at e
    rw [nwR, e, if_neg h1]
    generalize wcM l [w] = b at h1
    repeat' (first | simp -implicitDefEqProofs (maxSteps := 1000000) (disch := (first | omega | (simp only [go_sem] <;> omega) | fail)) only [go_sem, ints, bools, mat, reduceIte, Nat.reduceEqDiff, Nat.reduceAdd, Nat.reduceBEq, Nat.reduceMul, Nat.reduceLeDiff, Nat.reduceLT, Nat.reduceMod, Nat.reduceDiv, Nat.reduceSub, reduceCtorEq] | ((first | refine goIf_b (fun h => ?_) (fun h => ?_) | refine goG_b (fun h => ?_) (fun h => ?_) | refine goTG_b (fun h => ?_) (fun h => ?_) | refine goOG_b (fun h => ?_) (fun h => ?_)) <;> ((try simp only [Bool.not_eq_true', Bool.not_eq_false'] at h); (try simp only [h]); (try simp only [decide_eq_true_eq, decide_eq_false_iff_not, bne_iff_ne, bne_eq_false_iff_eq, beq_iff_eq, beq_eq_false_iff_ne, ne_eq, Int.not_lt, Int.not_le, Bool.and_eq_true, Bool.and_eq_false_iff, Bool.or_eq_true, Bool.or_eq_false_iff] at h)) <;> (try (exfalso; omega))))
    all_goals (exfalso; omega)
theorem d_laws_FnExactNearestWord (x0 : D) (l0 : List Int) (hx0 : IsInts x0 l0) (hl0 : l0.length ≤ maxLen) (hi0 : ∀ n, n ∈ l0 → in64 n) (x1 : D) (l1 : List Int) (hx1 : IsInts x1 l1) (hl1 : l1.length ≤ maxLen) (hi1 : ∀ n, n ∈ l1 → in64 n) (n2 : Int) (hn2 : in64 n2) :
    Den PA f_laws_FnExactNearestWord [.d (.agg [x0]), .d x1, .d (di n2)] [.any, .any, .any] (.d (db true)) := by
  have ly1 := lenA_is hx1
  refine den_go [] l_laws_FnExactNearestWord ?_
  repeat' (first | simp -implicitDefEqProofs (maxSteps := 1000000) (disch := (first | omega | (simp only [go_sem] <;> omega) | fail)) only [go_sem, ints, bools, mat, reduceIte, Nat.reduceEqDiff, Nat.reduceAdd, Nat.reduceBEq, Nat.reduceMul, Nat.reduceLeDiff, Nat.reduceLT, Nat.reduceMod, Nat.reduceDiv, Nat.reduceSub, reduceCtorEq, c_laws_FnExactNearestWord, ly1] | ((first | refine goIf_b (fun h => ?_) (fun h => ?_) | refine goG_b (fun h => ?_) (fun h => ?_) | refine goTG_b (fun h => ?_) (fun h => ?_) | refine goOG_b (fun h => ?_) (fun h => ?_)) <;> ((try simp only [Bool.not_eq_true', Bool.not_eq_false'] at h); (try simp only [h]); (try simp only [decide_eq_true_eq, decide_eq_false_iff_not, bne_iff_ne, bne_eq_false_iff_eq, beq_iff_eq, beq_eq_false_iff_ne, ne_eq, Int.not_lt, Int.not_le, Bool.and_eq_true, Bool.and_eq_false_iff, Bool.or_eq_true, Bool.or_eq_false_iff] at h))))
  first | refine goC_call [.r, .r] (d_laws_szSpace x0 l0 hx0 1048576 hl0 (by omega) (by omega)) ?_ | refine goOC_call [.r, .r] (d_laws_szSpace x0 l0 hx0 1048576 hl0 (by omega) (by omega)) ?_
  repeat' (first | simp -implicitDefEqProofs (maxSteps := 1000000) (disch := (first | omega | (simp only [go_sem] <;> omega) | fail)) only [go_sem, ints, bools, mat, reduceIte, Nat.reduceEqDiff, Nat.reduceAdd, Nat.reduceBEq, Nat.reduceMul, Nat.reduceLeDiff, Nat.reduceLT, Nat.reduceMod, Nat.reduceDiv, Nat.reduceSub, reduceCtorEq] | ((first | refine goIf_b (fun h => ?_) (fun h => ?_) | refine goG_b (fun h => ?_) (fun h => ?_) | refine goTG_b (fun h => ?_) (fun h => ?_) | refine goOG_b (fun h => ?_) (fun h => ?_)) <;> ((try simp only [Bool.not_eq_true', Bool.not_eq_false'] at h); (try simp only [h]); (try simp only [decide_eq_true_eq, decide_eq_false_iff_not, bne_iff_ne, bne_eq_false_iff_eq, beq_iff_eq, beq_eq_false_iff_ne, ne_eq, Int.not_lt, Int.not_le, Bool.and_eq_true, Bool.and_eq_false_iff, Bool.or_eq_true, Bool.or_eq_false_iff] at h))))
  have hz0 := sz_ok h
  repeat' (first | simp -implicitDefEqProofs (maxSteps := 1000000) (disch := (first | omega | (simp only [go_sem] <;> omega) | fail)) only [go_sem, ints, bools, mat, reduceIte, Nat.reduceEqDiff, Nat.reduceAdd, Nat.reduceBEq, Nat.reduceMul, Nat.reduceLeDiff, Nat.reduceLT, Nat.reduceMod, Nat.reduceDiv, Nat.reduceSub, reduceCtorEq, nwR] | ((first | refine goIf_b (fun h => ?_) (fun h => ?_) | refine goG_b (fun h => ?_) (fun h => ?_) | refine goTG_b (fun h => ?_) (fun h => ?_) | refine goOG_b (fun h => ?_) (fun h => ?_)) <;> ((try simp only [Bool.not_eq_true', Bool.not_eq_false'] at h); (try simp only [h]); (try simp only [decide_eq_true_eq, decide_eq_false_iff_not, bne_iff_ne, bne_eq_false_iff_eq, beq_iff_eq, beq_eq_false_iff_ne, ne_eq, Int.not_lt, Int.not_le, Bool.and_eq_true, Bool.and_eq_false_iff, Bool.or_eq_true, Bool.or_eq_false_iff] at h)) <;> (try (exfalso; omega))) | ((first | refine goC_call [.r] (d_laws_toSpace x0 l0 hx0 (by omega)) ?_ | refine goOC_call [.r] (d_laws_toSpace x0 l0 hx0 (by omega)) ?_); simp -implicitDefEqProofs (maxSteps := 1000000) (disch := (first | omega | (simp only [go_sem] <;> omega) | fail)) only [go_sem, ints, bools, mat, reduceIte, Nat.reduceEqDiff, Nat.reduceAdd, Nat.reduceBEq, Nat.reduceMul, Nat.reduceLeDiff, Nat.reduceLT, Nat.reduceMod, Nat.reduceDiv, Nat.reduceSub, reduceCtorEq, nwR]; fail_if_success (with_reducible show chk _ _)) | ((first | refine goC_call [.r, .r] (d_laws_eqSpace l0 l0 (by omega)) ?_ | refine goOC_call [.r, .r] (d_laws_eqSpace l0 l0 (by omega)) ?_); simp -implicitDefEqProofs (maxSteps := 1000000) (disch := (first | omega | (simp only [go_sem] <;> omega) | fail)) only [go_sem, ints, bools, mat, reduceIte, Nat.reduceEqDiff, Nat.reduceAdd, Nat.reduceBEq, Nat.reduceMul, Nat.reduceLeDiff, Nat.reduceLT, Nat.reduceMod, Nat.reduceDiv, Nat.reduceSub, reduceCtorEq, nwR]; fail_if_success (with_reducible show chk _ _)) | ((first | refine goC_call [.r] (d_laws_toInt64S x1 l1 hx1 (by omega)) ?_ | refine goOC_call [.r] (d_laws_toInt64S x1 l1 hx1 (by omega)) ?_); simp -implicitDefEqProofs (maxSteps := 1000000) (disch := (first | omega | (simp only [go_sem] <;> omega) | fail)) only [go_sem, ints, bools, mat, reduceIte, Nat.reduceEqDiff, Nat.reduceAdd, Nat.reduceBEq, Nat.reduceMul, Nat.reduceLeDiff, Nat.reduceLT, Nat.reduceMod, Nat.reduceDiv, Nat.reduceSub, reduceCtorEq, nwR]; fail_if_success (with_reducible show chk _ _)) | ((first | refine goC_call [.r, .r] (d_laws_eqInt64S l1 l1 (by omega)) ?_ | refine goOC_call [.r, .r] (d_laws_eqInt64S l1 l1 (by omega)) ?_); simp -implicitDefEqProofs (maxSteps := 1000000) (disch := (first | omega | (simp only [go_sem] <;> omega) | fail)) only [go_sem, ints, bools, mat, reduceIte, Nat.reduceEqDiff, Nat.reduceAdd, Nat.reduceBEq, Nat.reduceMul, Nat.reduceLeDiff, Nat.reduceLT, Nat.reduceMod, Nat.reduceDiv, Nat.reduceSub, reduceCtorEq, nwR]; fail_if_success (with_reducible show chk _ _)) | ((first | refine goC_call [.r, .r, .r] (d_spec_NearestWord l0 l1 n2 (by omega) (by omega)) ?_ | refine goOC_call [.r, .r, .r] (d_spec_NearestWord l0 l1 n2 (by omega) (by omega)) ?_); simp -implicitDefEqProofs (maxSteps := 1000000) (disch := (first | omega | (simp only [go_sem] <;> omega) | fail)) only [go_sem, ints, bools, mat, reduceIte, Nat.reduceEqDiff, Nat.reduceAdd, Nat.reduceBEq, Nat.reduceMul, Nat.reduceLeDiff, Nat.reduceLT, Nat.reduceMod, Nat.reduceDiv, Nat.reduceSub, reduceCtorEq, nwR]; fail_if_success (with_reducible show chk _ _)) | ((first | refine goC_call [.r, .r, .r] (d_impl_NearestWord l0 l1 n2 (by omega) (by omega)) ?_ | refine goOC_call [.r, .r, .r] (d_impl_NearestWord l0 l1 n2 (by omega) (by omega)) ?_); simp -implicitDefEqProofs (maxSteps := 1000000) (disch := (first | omega | (simp only [go_sem] <;> omega) | fail)) only [go_sem, ints, bools, mat, reduceIte, Nat.reduceEqDiff, Nat.reduceAdd, Nat.reduceBEq, Nat.reduceMul, Nat.reduceLeDiff, Nat.reduceLT, Nat.reduceMod, Nat.reduceDiv, Nat.reduceSub, reduceCtorEq, nwR]; fail_if_success (with_reducible show chk _ _)))
end Go.Proofs.Ytmaipkohkfikeaa.Va
