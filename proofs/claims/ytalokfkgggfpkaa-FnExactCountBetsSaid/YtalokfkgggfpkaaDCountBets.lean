/- Contracts of the functions that FnExactCountBets reaches, and the law's own. Condition: none. -/
import Derived.Test.YtalokfkgggfpkaaCCountBets
set_option linter.all false
set_option linter.unusedSimpArgs false
set_option linter.unusedVariables false
namespace Go.Proofs.Ytalokfkgggfpkaa.Va
open Go
set_option maxHeartbeats 1000000
theorem d_spec_l01In (a lo hi : Int) : Den PA f_spec_l01In [.d (di a), .d (di lo), .d (di hi)] [.any, .any, .any] (.d (db (decide (lo ≤ a) && decide (a ≤ hi)))) := by
  refine den_go [] l_spec_l01In ?_
  repeat' (first | simp (maxSteps := 1000000) (disch := (first | omega | (simp only [List.length_map, List.length_append, List.length_set, List.length_replicate, List.length_cons, List.length_nil, List.length_take, List.length_drop] <;> omega) | fail)) only [go_sem, ints, bools, mat, reduceIte, Nat.reduceEqDiff, Nat.reduceAdd, Nat.reduceBEq, Nat.reduceMul, Nat.reduceLeDiff, Nat.reduceLT, Nat.reduceMod, Nat.reduceDiv, Nat.reduceSub, reduceCtorEq, c_spec_l01In] | ((first | refine goIf_b (fun h => ?_) (fun h => ?_) | refine goG_b (fun h => ?_) (fun h => ?_) | refine goTG_b (fun h => ?_) (fun h => ?_) | refine goOG_b (fun h => ?_) (fun h => ?_)) <;> ((try simp only [Bool.not_eq_true', Bool.not_eq_false'] at h); (try simp only [h]); (try simp only [decide_eq_true_eq, decide_eq_false_iff_not, bne_iff_ne, bne_eq_false_iff_eq, beq_iff_eq, beq_eq_false_iff_ne, ne_eq, Int.not_lt, Int.not_le, Bool.and_eq_true, Bool.and_eq_false_iff, Bool.or_eq_true, Bool.or_eq_false_iff] at h))))
theorem d_laws_szInt64S (x : D) (l : List Int) (hx : IsInts x l) (left : Int) (hl : l.length ≤ maxLen) (h0 : 0 ≤ left) (h1 : left ≤ 1048576) :
    Den PA f_laws_szInt64S [.d x, .d (di left)] [.any, .any] (.d (di (if left < l.length then -1 else left - l.length))) := by
  have hm : maxLen = 9223372036854775807 := rfl
  refine den_go [] l_laws_szInt64S ?_
  rcases hx with rfl | ⟨rfl, rfl⟩
  all_goals repeat' (first | simp (maxSteps := 1000000) (disch := (first | omega | (simp only [List.length_map, List.length_append, List.length_set, List.length_replicate, List.length_cons, List.length_nil, List.length_take, List.length_drop] <;> omega) | fail)) only [go_sem, ints, bools, mat, reduceIte, Nat.reduceEqDiff, Nat.reduceAdd, Nat.reduceBEq, Nat.reduceMul, Nat.reduceLeDiff, Nat.reduceLT, Nat.reduceMod, Nat.reduceDiv, Nat.reduceSub, reduceCtorEq, c_laws_szInt64S] | ((first | refine goIf_b (fun h => ?_) (fun h => ?_) | refine goG_b (fun h => ?_) (fun h => ?_) | refine goTG_b (fun h => ?_) (fun h => ?_) | refine goOG_b (fun h => ?_) (fun h => ?_)) <;> ((try simp only [Bool.not_eq_true', Bool.not_eq_false'] at h); (try simp only [h]); (try simp only [decide_eq_true_eq, decide_eq_false_iff_not, bne_iff_ne, bne_eq_false_iff_eq, beq_iff_eq, beq_eq_false_iff_ne, ne_eq, Int.not_lt, Int.not_le, Bool.and_eq_true, Bool.and_eq_false_iff, Bool.or_eq_true, Bool.or_eq_false_iff] at h))))
  · rw [if_pos (by omega)]
  · rw [if_neg (by omega)]
  · exfalso; omega
  · refine div ?_
    rw [if_neg (by simp; omega)]; rfl
theorem d_laws_eqInt64S (l m : List Int) (hl : l.length < 1048577) :
    Den PA f_laws_eqInt64S [.d (ints l), .d (ints m)] [.any, .any] (.d (db (decide (l = m)))) := by
  refine den_go [] l_laws_eqInt64S ?_
  repeat' (first | simp (maxSteps := 1000000) (disch := (first | omega | (simp only [List.length_map, List.length_append, List.length_set, List.length_replicate, List.length_cons, List.length_nil, List.length_take, List.length_drop] <;> omega) | fail)) only [go_sem, ints, bools, mat, reduceIte, Nat.reduceEqDiff, Nat.reduceAdd, Nat.reduceBEq, Nat.reduceMul, Nat.reduceLeDiff, Nat.reduceLT, Nat.reduceMod, Nat.reduceDiv, Nat.reduceSub, reduceCtorEq, c_laws_eqInt64S] | ((first | refine goIf_b (fun h => ?_) (fun h => ?_) | refine goG_b (fun h => ?_) (fun h => ?_) | refine goTG_b (fun h => ?_) (fun h => ?_) | refine goOG_b (fun h => ?_) (fun h => ?_)) <;> ((try simp only [Bool.not_eq_true', Bool.not_eq_false'] at h); (try simp only [h]); (try simp only [decide_eq_true_eq, decide_eq_false_iff_not, bne_iff_ne, bne_eq_false_iff_eq, beq_iff_eq, beq_eq_false_iff_ne, ne_eq, Int.not_lt, Int.not_le, Bool.and_eq_true, Bool.and_eq_false_iff, Bool.or_eq_true, Bool.or_eq_false_iff] at h))))
  · exact dbF fun e => by have := of_decide_eq_true e; subst this; exact h rfl
  refine go_loop (fun (j : Nat) => ⟨[(0, .d (ints l)), (1, .d (ints m)), (5, .d (di j))], []⟩) (fun j => j ≤ l.length ∧ ∀ i, i < j → l.getD i 0 = m.getD i 0) (fun j => l.length - j) 0 ?_ ?_ ?_
  · simp (maxSteps := 1000000) (disch := (first | omega | (simp only [List.length_map, List.length_append, List.length_set, List.length_replicate, List.length_cons, List.length_nil, List.length_take, List.length_drop] <;> omega) | fail)) only [go_sem, ints, bools, mat, reduceIte, Nat.reduceEqDiff, Nat.reduceAdd, Nat.reduceBEq, Nat.reduceMul, Nat.reduceLeDiff, Nat.reduceLT, Nat.reduceMod, Nat.reduceDiv, Nat.reduceSub, reduceCtorEq]; rfl
  · simp
  · rintro j ⟨hj, hi⟩ J hJ
    repeat' (first | simp (maxSteps := 1000000) (disch := (first | omega | (simp only [List.length_map, List.length_append, List.length_set, List.length_replicate, List.length_cons, List.length_nil, List.length_take, List.length_drop] <;> omega) | fail)) only [go_sem, ints, bools, mat, reduceIte, Nat.reduceEqDiff, Nat.reduceAdd, Nat.reduceBEq, Nat.reduceMul, Nat.reduceLeDiff, Nat.reduceLT, Nat.reduceMod, Nat.reduceDiv, Nat.reduceSub, reduceCtorEq] | ((first | refine goIf_b (fun h => ?_) (fun h => ?_) | refine goG_b (fun h => ?_) (fun h => ?_) | refine goTG_b (fun h => ?_) (fun h => ?_) | refine goOG_b (fun h => ?_) (fun h => ?_)) <;> ((try simp only [Bool.not_eq_true', Bool.not_eq_false'] at h); (try simp only [h]); (try simp only [decide_eq_true_eq, decide_eq_false_iff_not, bne_iff_ne, bne_eq_false_iff_eq, beq_iff_eq, beq_eq_false_iff_ne, ne_eq, Int.not_lt, Int.not_le, Bool.and_eq_true, Bool.and_eq_false_iff, Bool.or_eq_true, Bool.or_eq_false_iff] at h))))
    · exact dbF fun e => by have := of_decide_eq_true e; subst this; exact h rfl
    · refine hJ (j + 1) ⟨by omega, fun i hi' => ?_⟩ (by omega) _ (by simp (maxSteps := 1000000) (disch := (first | omega | (simp only [List.length_map, List.length_append, List.length_set, List.length_replicate, List.length_cons, List.length_nil, List.length_take, List.length_drop] <;> omega) | fail)) only [go_sem, ints, bools, mat, reduceIte, Nat.reduceEqDiff, Nat.reduceAdd, Nat.reduceBEq, Nat.reduceMul, Nat.reduceLeDiff, Nat.reduceLT, Nat.reduceMod, Nat.reduceDiv, Nat.reduceSub, reduceCtorEq]; rfl)
      rcases Nat.lt_or_ge i j with h' | h'
      · exact hi i h'
      · have : i = j := by omega
        subst this; assumption
    · exact dbT (decide_eq_true (eq_getD (by omega) fun i hi' => hi i (by omega)))
theorem d_laws_toInt64S (x : D) (l : List Int) (hx : IsInts x l) (hl : l.length < 1048577) :
    Den PA f_laws_toInt64S [.d x] [.any] (.own 1 (l.map di)) := by
  refine den_go [] l_laws_toInt64S ?_
  rcases hx with rfl | ⟨rfl, rfl⟩
  rotate_left
  · repeat' (first | simp (maxSteps := 1000000) (disch := (first | omega | (simp only [List.length_map, List.length_append, List.length_set, List.length_replicate, List.length_cons, List.length_nil, List.length_take, List.length_drop] <;> omega) | fail)) only [go_sem, ints, bools, mat, reduceIte, Nat.reduceEqDiff, Nat.reduceAdd, Nat.reduceBEq, Nat.reduceMul, Nat.reduceLeDiff, Nat.reduceLT, Nat.reduceMod, Nat.reduceDiv, Nat.reduceSub, reduceCtorEq, c_laws_toInt64S] | ((first | refine goIf_b (fun h => ?_) (fun h => ?_) | refine goG_b (fun h => ?_) (fun h => ?_) | refine goTG_b (fun h => ?_) (fun h => ?_) | refine goOG_b (fun h => ?_) (fun h => ?_)) <;> ((try simp only [Bool.not_eq_true', Bool.not_eq_false'] at h); (try simp only [h]); (try simp only [decide_eq_true_eq, decide_eq_false_iff_not, bne_iff_ne, bne_eq_false_iff_eq, beq_iff_eq, beq_eq_false_iff_ne, ne_eq, Int.not_lt, Int.not_le, Bool.and_eq_true, Bool.and_eq_false_iff, Bool.or_eq_true, Bool.or_eq_false_iff] at h))))
    refine go_loop (fun (_ : Unit) => ⟨[(0, .d (.v (.slice none 0 0))), (3, .sl 0 0 0 1), (4, .d (di 0))], [some (.dat 1 [])]⟩) (fun _ => True) (fun _ => 0) () ?_ trivial ?_
    · simp (maxSteps := 1000000) (disch := (first | omega | (simp only [List.length_map, List.length_append, List.length_set, List.length_replicate, List.length_cons, List.length_nil, List.length_take, List.length_drop] <;> omega) | fail)) only [go_sem, ints, bools, mat, reduceIte, Nat.reduceEqDiff, Nat.reduceAdd, Nat.reduceBEq, Nat.reduceMul, Nat.reduceLeDiff, Nat.reduceLT, Nat.reduceMod, Nat.reduceDiv, Nat.reduceSub, reduceCtorEq]; rfl
    · intro _ _ J _
      repeat' (first | simp (maxSteps := 1000000) (disch := (first | omega | (simp only [List.length_map, List.length_append, List.length_set, List.length_replicate, List.length_cons, List.length_nil, List.length_take, List.length_drop] <;> omega) | fail)) only [go_sem, ints, bools, mat, reduceIte, Nat.reduceEqDiff, Nat.reduceAdd, Nat.reduceBEq, Nat.reduceMul, Nat.reduceLeDiff, Nat.reduceLT, Nat.reduceMod, Nat.reduceDiv, Nat.reduceSub, reduceCtorEq] | ((first | refine goIf_b (fun h => ?_) (fun h => ?_) | refine goG_b (fun h => ?_) (fun h => ?_) | refine goTG_b (fun h => ?_) (fun h => ?_) | refine goOG_b (fun h => ?_) (fun h => ?_)) <;> ((try simp only [Bool.not_eq_true', Bool.not_eq_false'] at h); (try simp only [h]); (try simp only [decide_eq_true_eq, decide_eq_false_iff_not, bne_iff_ne, bne_eq_false_iff_eq, beq_iff_eq, beq_eq_false_iff_ne, ne_eq, Int.not_lt, Int.not_le, Bool.and_eq_true, Bool.and_eq_false_iff, Bool.or_eq_true, Bool.or_eq_false_iff] at h))))
  repeat' (first | simp (maxSteps := 1000000) (disch := (first | omega | (simp only [List.length_map, List.length_append, List.length_set, List.length_replicate, List.length_cons, List.length_nil, List.length_take, List.length_drop] <;> omega) | fail)) only [go_sem, ints, bools, mat, reduceIte, Nat.reduceEqDiff, Nat.reduceAdd, Nat.reduceBEq, Nat.reduceMul, Nat.reduceLeDiff, Nat.reduceLT, Nat.reduceMod, Nat.reduceDiv, Nat.reduceSub, reduceCtorEq, c_laws_toInt64S] | ((first | refine goIf_b (fun h => ?_) (fun h => ?_) | refine goG_b (fun h => ?_) (fun h => ?_) | refine goTG_b (fun h => ?_) (fun h => ?_) | refine goOG_b (fun h => ?_) (fun h => ?_)) <;> ((try simp only [Bool.not_eq_true', Bool.not_eq_false'] at h); (try simp only [h]); (try simp only [decide_eq_true_eq, decide_eq_false_iff_not, bne_iff_ne, bne_eq_false_iff_eq, beq_iff_eq, beq_eq_false_iff_ne, ne_eq, Int.not_lt, Int.not_le, Bool.and_eq_true, Bool.and_eq_false_iff, Bool.or_eq_true, Bool.or_eq_false_iff] at h))))
  refine go_loop (fun (j : Nat) => ⟨[(0, .d (ints l)), (3, .sl 0 0 l.length 1), (4, .d (di j))], [some (.dat 1 ((l.take j ++ List.replicate (l.length - j) 0).map di))]⟩) (fun j => j ≤ l.length) (fun j => l.length - j) 0 ?_ ?_ ?_
  · simp (maxSteps := 1000000) (disch := (first | omega | (simp only [List.length_map, List.length_append, List.length_set, List.length_replicate, List.length_cons, List.length_nil, List.length_take, List.length_drop] <;> omega) | fail)) only [go_sem, ints, bools, mat, reduceIte, Nat.reduceEqDiff, Nat.reduceAdd, Nat.reduceBEq, Nat.reduceMul, Nat.reduceLeDiff, Nat.reduceLT, Nat.reduceMod, Nat.reduceDiv, Nat.reduceSub, reduceCtorEq]; rfl
  · simp
  · rintro j hj J hJ
    repeat' (first | simp (maxSteps := 1000000) (disch := (first | omega | (simp only [List.length_map, List.length_append, List.length_set, List.length_replicate, List.length_cons, List.length_nil, List.length_take, List.length_drop] <;> omega) | fail)) only [go_sem, ints, bools, mat, reduceIte, Nat.reduceEqDiff, Nat.reduceAdd, Nat.reduceBEq, Nat.reduceMul, Nat.reduceLeDiff, Nat.reduceLT, Nat.reduceMod, Nat.reduceDiv, Nat.reduceSub, reduceCtorEq] | ((first | refine goIf_b (fun h => ?_) (fun h => ?_) | refine goG_b (fun h => ?_) (fun h => ?_) | refine goTG_b (fun h => ?_) (fun h => ?_) | refine goOG_b (fun h => ?_) (fun h => ?_)) <;> ((try simp only [Bool.not_eq_true', Bool.not_eq_false'] at h); (try simp only [h]); (try simp only [decide_eq_true_eq, decide_eq_false_iff_not, bne_iff_ne, bne_eq_false_iff_eq, beq_iff_eq, beq_eq_false_iff_ne, ne_eq, Int.not_lt, Int.not_le, Bool.and_eq_true, Bool.and_eq_false_iff, Bool.or_eq_true, Bool.or_eq_false_iff] at h))))
    · refine hJ (j + 1) (by omega) (by omega) _ ?_
      simp (maxSteps := 1000000) (disch := (first | omega | (simp only [List.length_map, List.length_append, List.length_set, List.length_replicate, List.length_cons, List.length_nil, List.length_take, List.length_drop] <;> omega) | fail)) only [go_sem, ints, bools, mat, reduceIte, Nat.reduceEqDiff, Nat.reduceAdd, Nat.reduceBEq, Nat.reduceMul, Nat.reduceLeDiff, Nat.reduceLT, Nat.reduceMod, Nat.reduceDiv, Nat.reduceSub, reduceCtorEq]
      rw [fill_step l 0 0 (by omega) rfl]; rfl
    · have : j = l.length := by omega
      subst this; simp
theorem d_laws_szSpace (x : D) (l : List Int) (hx : IsInts x l) (left : Int) (hl : l.length ≤ maxLen) (h0 : 0 ≤ left) (h1 : left ≤ 1048576) :
    Den PA f_laws_szSpace [.d (.agg [x]), .d (di left)] [.any, .any] (.d (di (if left < l.length then -1 else left - l.length))) := by
  refine den_go [] l_laws_szSpace ?_
  simp (maxSteps := 1000000) (disch := (first | omega | (simp only [List.length_map, List.length_append, List.length_set, List.length_replicate, List.length_cons, List.length_nil, List.length_take, List.length_drop] <;> omega) | fail)) only [go_sem, ints, bools, mat, reduceIte, Nat.reduceEqDiff, Nat.reduceAdd, Nat.reduceBEq, Nat.reduceMul, Nat.reduceLeDiff, Nat.reduceLT, Nat.reduceMod, Nat.reduceDiv, Nat.reduceSub, reduceCtorEq, c_laws_szSpace]
  first | refine goC_call [.r, .r] (d_laws_szInt64S x l hx left hl h0 h1) ?_ | refine goOC_call [.r, .r] (d_laws_szInt64S x l hx left hl h0 h1) ?_
  repeat' (first | simp (maxSteps := 1000000) (disch := (first | omega | (simp only [List.length_map, List.length_append, List.length_set, List.length_replicate, List.length_cons, List.length_nil, List.length_take, List.length_drop] <;> omega) | fail)) only [go_sem, ints, bools, mat, reduceIte, Nat.reduceEqDiff, Nat.reduceAdd, Nat.reduceBEq, Nat.reduceMul, Nat.reduceLeDiff, Nat.reduceLT, Nat.reduceMod, Nat.reduceDiv, Nat.reduceSub, reduceCtorEq] | ((first | refine goIf_b (fun h => ?_) (fun h => ?_) | refine goG_b (fun h => ?_) (fun h => ?_) | refine goTG_b (fun h => ?_) (fun h => ?_) | refine goOG_b (fun h => ?_) (fun h => ?_)) <;> ((try simp only [Bool.not_eq_true', Bool.not_eq_false'] at h); (try simp only [h]); (try simp only [decide_eq_true_eq, decide_eq_false_iff_not, bne_iff_ne, bne_eq_false_iff_eq, beq_iff_eq, beq_eq_false_iff_ne, ne_eq, Int.not_lt, Int.not_le, Bool.and_eq_true, Bool.and_eq_false_iff, Bool.or_eq_true, Bool.or_eq_false_iff] at h))))
  by_cases hh : left < (l.length : Int)
  · rw [if_pos hh]
  · rw [if_neg hh] at h; omega
theorem d_laws_eqSpace (l m : List Int) (hl : l.length < 1048577) :
    Den PA f_laws_eqSpace [.d (.agg [ints l]), .d (.agg [ints m])] [.any, .any] (.d (db (decide (l = m)))) := by
  refine den_go [] l_laws_eqSpace ?_
  simp (maxSteps := 1000000) (disch := (first | omega | (simp only [List.length_map, List.length_append, List.length_set, List.length_replicate, List.length_cons, List.length_nil, List.length_take, List.length_drop] <;> omega) | fail)) only [go_sem, ints, bools, mat, reduceIte, Nat.reduceEqDiff, Nat.reduceAdd, Nat.reduceBEq, Nat.reduceMul, Nat.reduceLeDiff, Nat.reduceLT, Nat.reduceMod, Nat.reduceDiv, Nat.reduceSub, reduceCtorEq, c_laws_eqSpace]
  first | refine goC_call [.r, .r] (d_laws_eqInt64S l m hl) ?_ | refine goOC_call [.r, .r] (d_laws_eqInt64S l m hl) ?_
  repeat' (first | simp (maxSteps := 1000000) (disch := (first | omega | (simp only [List.length_map, List.length_append, List.length_set, List.length_replicate, List.length_cons, List.length_nil, List.length_take, List.length_drop] <;> omega) | fail)) only [go_sem, ints, bools, mat, reduceIte, Nat.reduceEqDiff, Nat.reduceAdd, Nat.reduceBEq, Nat.reduceMul, Nat.reduceLeDiff, Nat.reduceLT, Nat.reduceMod, Nat.reduceDiv, Nat.reduceSub, reduceCtorEq] | ((first | refine goIf_b (fun h => ?_) (fun h => ?_) | refine goG_b (fun h => ?_) (fun h => ?_) | refine goTG_b (fun h => ?_) (fun h => ?_) | refine goOG_b (fun h => ?_) (fun h => ?_)) <;> ((try simp only [Bool.not_eq_true', Bool.not_eq_false'] at h); (try simp only [h]); (try simp only [decide_eq_true_eq, decide_eq_false_iff_not, bne_iff_ne, bne_eq_false_iff_eq, beq_iff_eq, beq_eq_false_iff_ne, ne_eq, Int.not_lt, Int.not_le, Bool.and_eq_true, Bool.and_eq_false_iff, Bool.or_eq_true, Bool.or_eq_false_iff] at h))))
theorem d_laws_toSpace (x : D) (l : List Int) (hx : IsInts x l) (hl : l.length < 1048577) :
    Den PA f_laws_toSpace [.d (.agg [x])] [.any] (.agg [.own 1 (l.map di)]) := by
  refine den_go [] l_laws_toSpace ?_
  simp (maxSteps := 1000000) (disch := (first | omega | (simp only [List.length_map, List.length_append, List.length_set, List.length_replicate, List.length_cons, List.length_nil, List.length_take, List.length_drop] <;> omega) | fail)) only [go_sem, ints, bools, mat, reduceIte, Nat.reduceEqDiff, Nat.reduceAdd, Nat.reduceBEq, Nat.reduceMul, Nat.reduceLeDiff, Nat.reduceLT, Nat.reduceMod, Nat.reduceDiv, Nat.reduceSub, reduceCtorEq, c_laws_toSpace]
  first | refine goC_call [.r] (d_laws_toInt64S x l hx hl) ?_ | refine goOC_call [.r] (d_laws_toInt64S x l hx hl) ?_
  repeat' (first | simp (maxSteps := 1000000) (disch := (first | omega | (simp only [List.length_map, List.length_append, List.length_set, List.length_replicate, List.length_cons, List.length_nil, List.length_take, List.length_drop] <;> omega) | fail)) only [go_sem, ints, bools, mat, reduceIte, Nat.reduceEqDiff, Nat.reduceAdd, Nat.reduceBEq, Nat.reduceMul, Nat.reduceLeDiff, Nat.reduceLT, Nat.reduceMod, Nat.reduceDiv, Nat.reduceSub, reduceCtorEq] | ((first | refine goIf_b (fun h => ?_) (fun h => ?_) | refine goG_b (fun h => ?_) (fun h => ?_) | refine goTG_b (fun h => ?_) (fun h => ?_) | refine goOG_b (fun h => ?_) (fun h => ?_)) <;> ((try simp only [Bool.not_eq_true', Bool.not_eq_false'] at h); (try simp only [h]); (try simp only [decide_eq_true_eq, decide_eq_false_iff_not, bne_iff_ne, bne_eq_false_iff_eq, beq_iff_eq, beq_eq_false_iff_ne, ne_eq, Int.not_lt, Int.not_le, Bool.and_eq_true, Bool.and_eq_false_iff, Bool.or_eq_true, Bool.or_eq_false_iff] at h))))
def prodM (l : List Int) : Int := l.foldl (· * ·) 1
theorem take_one (l : List Int) {j : Nat} (h : j < l.length) : l.take (j + 1) = l.take j ++ [l.getD j 0] := by
  rw [List.take_add_one]; simp [h]
theorem prodM_step (l : List Int) {j : Nat} (h : j < l.length) : prodM (l.take (j + 1)) = prodM (l.take j) * l.getD j 0 := by
  rw [take_one l h]; simp [prodM]
theorem prodM_bnd (l : List Int) : ∀ j, j ≤ l.length → (∀ i, i < j → 2 ≤ l.getD i 0 ∧ l.getD i 0 ≤ 4) → 1 ≤ prodM (l.take j) ∧ prodM (l.take j) ≤ 4 ^ j
  | 0, _, _ => by simp [prodM]
  | j + 1, hj, h => by
    obtain ⟨h1, h2⟩ := prodM_bnd l j (by omega) (fun i hi => h i (by omega))
    obtain ⟨h3, h4⟩ := h j (by omega)
    rw [prodM_step l (by omega)]
    constructor
    · have := Int.mul_le_mul h1 (show (1 : Int) ≤ l.getD j 0 by omega) (by omega) (by omega)
      simpa using this
    · rw [Int.pow_succ]
      exact Int.mul_le_mul h2 h4 (by omega) (by omega)
theorem pow4 {j : Nat} (h : j ≤ 8) : (4 : Int) ^ j ≤ 65536 := by
  exact (by decide : ∀ j : Fin 9, (4 : Int) ^ (j : Nat) ≤ 65536) ⟨j, by omega⟩
theorem prodM_small (l : List Int) {j : Nat} (h8 : j ≤ 8) (hj : j ≤ l.length) (h : ∀ i, i < j → 2 ≤ l.getD i 0 ∧ l.getD i 0 ≤ 4) : 1 ≤ prodM (l.take j) ∧ prodM (l.take j) ≤ 65536 := by
  obtain ⟨h1, h2⟩ := prodM_bnd l j hj h
  exact ⟨h1, Int.le_trans h2 (pow4 h8)⟩
/-- A space: one to eight places, two to four digits each, at most 1024 words. -/
def isSpaceM (l : List Int) : Bool := decide (1 ≤ l.length) && decide (l.length ≤ 8) && l.all (fun n => decide (2 ≤ n) && decide (n ≤ 4)) && decide (prodM l ≤ 1024)
theorem isSpaceM_ok (l : List Int) : isSpaceM l = true ↔ (1 ≤ l.length ∧ l.length ≤ 8) ∧ (∀ j, j < l.length → 2 ≤ l.getD j 0 ∧ l.getD j 0 ≤ 4) ∧ prodM l ≤ 1024 := by
  simp only [isSpaceM, Bool.and_eq_true, decide_eq_true_eq, all_getD, and_assoc]
theorem d_spec_l01N (l : List Int) (h8 : l.length ≤ 8) (h : ∀ i, i < l.length → 2 ≤ l.getD i 0 ∧ l.getD i 0 ≤ 4) :
    Den PA f_spec_l01N [.d (.agg [ints l])] [.any] (.d (di (prodM l))) := by
  refine den_go [] l_spec_l01N ?_
  simp (maxSteps := 1000000) (disch := (first | omega | (simp only [List.length_map, List.length_append, List.length_set, List.length_replicate, List.length_cons, List.length_nil, List.length_take, List.length_drop] <;> omega) | fail)) only [go_sem, ints, bools, mat, reduceIte, Nat.reduceEqDiff, Nat.reduceAdd, Nat.reduceBEq, Nat.reduceMul, Nat.reduceLeDiff, Nat.reduceLT, Nat.reduceMod, Nat.reduceDiv, Nat.reduceSub, reduceCtorEq, c_spec_l01N]
  refine go_loop (fun (j : Nat) => ⟨[(1, .ref 0 0), (3, .d (di (prodM (l.take j)))), (4, .d (di j))], [some (.var [ints l])]⟩) (fun j => j ≤ l.length) (fun j => l.length - j) 0 ?_ ?_ ?_
  · simp (maxSteps := 1000000) (disch := (first | omega | (simp only [List.length_map, List.length_append, List.length_set, List.length_replicate, List.length_cons, List.length_nil, List.length_take, List.length_drop] <;> omega) | fail)) only [go_sem, ints, bools, mat, reduceIte, Nat.reduceEqDiff, Nat.reduceAdd, Nat.reduceBEq, Nat.reduceMul, Nat.reduceLeDiff, Nat.reduceLT, Nat.reduceMod, Nat.reduceDiv, Nat.reduceSub, reduceCtorEq]; rfl
  · simp
  · rintro j hj J hJ
    have hb := prodM_small l (j := j) (by omega) hj (fun i hi => h i (by omega))
    have hb' := fun hj' => prodM_small l (j := j + 1) (by omega) hj' (fun i hi => h i (by omega))
    have hs := fun hj' => prodM_step l (j := j) hj'
    repeat' (first | simp (maxSteps := 1000000) (disch := (first | omega | (simp only [List.length_map, List.length_append, List.length_set, List.length_replicate, List.length_cons, List.length_nil, List.length_take, List.length_drop] <;> omega) | fail)) only [go_sem, ints, bools, mat, reduceIte, Nat.reduceEqDiff, Nat.reduceAdd, Nat.reduceBEq, Nat.reduceMul, Nat.reduceLeDiff, Nat.reduceLT, Nat.reduceMod, Nat.reduceDiv, Nat.reduceSub, reduceCtorEq] | ((first | refine goIf_b (fun h => ?_) (fun h => ?_) | refine goG_b (fun h => ?_) (fun h => ?_) | refine goTG_b (fun h => ?_) (fun h => ?_) | refine goOG_b (fun h => ?_) (fun h => ?_)) <;> ((try simp only [Bool.not_eq_true', Bool.not_eq_false'] at h); (try simp only [h]); (try simp only [decide_eq_true_eq, decide_eq_false_iff_not, bne_iff_ne, bne_eq_false_iff_eq, beq_iff_eq, beq_eq_false_iff_ne, ne_eq, Int.not_lt, Int.not_le, Bool.and_eq_true, Bool.and_eq_false_iff, Bool.or_eq_true, Bool.or_eq_false_iff] at h))))
    · rename_i hlt
      have hlt : j < l.length := by omega
      have h1 := hb' (by omega)
      rw [hs hlt] at h1
      refine hJ (j + 1) (by omega) (by omega) _ ?_
      simp (maxSteps := 1000000) (disch := (first | omega | (simp only [List.length_map, List.length_append, List.length_set, List.length_replicate, List.length_cons, List.length_nil, List.length_take, List.length_drop] <;> omega) | fail)) only [go_sem, ints, bools, mat, reduceIte, Nat.reduceEqDiff, Nat.reduceAdd, Nat.reduceBEq, Nat.reduceMul, Nat.reduceLeDiff, Nat.reduceLT, Nat.reduceMod, Nat.reduceDiv, Nat.reduceSub, reduceCtorEq]
      rw [hs hlt]; rfl
theorem d_spec_l01Is (l : List Int) (hl : l.length < 1048577) :
    Den PA f_spec_l01Is [.d (.agg [ints l])] [.any] (.d (db (isSpaceM l))) := by
  have e := isSpaceM_ok l
  refine den_go [] l_spec_l01Is ?_
  simp (maxSteps := 1000000) (disch := (first | omega | (simp only [List.length_map, List.length_append, List.length_set, List.length_replicate, List.length_cons, List.length_nil, List.length_take, List.length_drop] <;> omega) | fail)) only [go_sem, ints, bools, mat, reduceIte, Nat.reduceEqDiff, Nat.reduceAdd, Nat.reduceBEq, Nat.reduceMul, Nat.reduceLeDiff, Nat.reduceLT, Nat.reduceMod, Nat.reduceDiv, Nat.reduceSub, reduceCtorEq, c_spec_l01Is]
  first | refine goC_call [.r, .r, .r] (d_spec_l01In l.length 1 8) ?_ | refine goOC_call [.r, .r, .r] (d_spec_l01In l.length 1 8) ?_
  repeat' (first | simp (maxSteps := 1000000) (disch := (first | omega | (simp only [List.length_map, List.length_append, List.length_set, List.length_replicate, List.length_cons, List.length_nil, List.length_take, List.length_drop] <;> omega) | fail)) only [go_sem, ints, bools, mat, reduceIte, Nat.reduceEqDiff, Nat.reduceAdd, Nat.reduceBEq, Nat.reduceMul, Nat.reduceLeDiff, Nat.reduceLT, Nat.reduceMod, Nat.reduceDiv, Nat.reduceSub, reduceCtorEq] | ((first | refine goIf_b (fun h => ?_) (fun h => ?_) | refine goG_b (fun h => ?_) (fun h => ?_) | refine goTG_b (fun h => ?_) (fun h => ?_) | refine goOG_b (fun h => ?_) (fun h => ?_)) <;> ((try simp only [Bool.not_eq_true', Bool.not_eq_false'] at h); (try simp only [h]); (try simp only [decide_eq_true_eq, decide_eq_false_iff_not, bne_iff_ne, bne_eq_false_iff_eq, beq_iff_eq, beq_eq_false_iff_ne, ne_eq, Int.not_lt, Int.not_le, Bool.and_eq_true, Bool.and_eq_false_iff, Bool.or_eq_true, Bool.or_eq_false_iff] at h))))
  rotate_left
  · exact dbF fun h' => by have := (e.1 h').1; omega
  refine go_loop (fun (j : Nat) => ⟨[(1, .ref 0 0), (3, .d (di j))], [some (.var [ints l])]⟩) (fun j => j ≤ l.length ∧ ∀ i, i < j → 2 ≤ l.getD i 0 ∧ l.getD i 0 ≤ 4) (fun j => l.length - j) 0 ?_ ?_ ?_
  · simp (maxSteps := 1000000) (disch := (first | omega | (simp only [List.length_map, List.length_append, List.length_set, List.length_replicate, List.length_cons, List.length_nil, List.length_take, List.length_drop] <;> omega) | fail)) only [go_sem, ints, bools, mat, reduceIte, Nat.reduceEqDiff, Nat.reduceAdd, Nat.reduceBEq, Nat.reduceMul, Nat.reduceLeDiff, Nat.reduceLT, Nat.reduceMod, Nat.reduceDiv, Nat.reduceSub, reduceCtorEq]; rfl
  · simp
  · rintro j ⟨hj, hi⟩ J hJ
    repeat' (first | simp (maxSteps := 1000000) (disch := (first | omega | (simp only [List.length_map, List.length_append, List.length_set, List.length_replicate, List.length_cons, List.length_nil, List.length_take, List.length_drop] <;> omega) | fail)) only [go_sem, ints, bools, mat, reduceIte, Nat.reduceEqDiff, Nat.reduceAdd, Nat.reduceBEq, Nat.reduceMul, Nat.reduceLeDiff, Nat.reduceLT, Nat.reduceMod, Nat.reduceDiv, Nat.reduceSub, reduceCtorEq] | ((first | refine goIf_b (fun h => ?_) (fun h => ?_) | refine goG_b (fun h => ?_) (fun h => ?_) | refine goTG_b (fun h => ?_) (fun h => ?_) | refine goOG_b (fun h => ?_) (fun h => ?_)) <;> ((try simp only [Bool.not_eq_true', Bool.not_eq_false'] at h); (try simp only [h]); (try simp only [decide_eq_true_eq, decide_eq_false_iff_not, bne_iff_ne, bne_eq_false_iff_eq, beq_iff_eq, beq_eq_false_iff_ne, ne_eq, Int.not_lt, Int.not_le, Bool.and_eq_true, Bool.and_eq_false_iff, Bool.or_eq_true, Bool.or_eq_false_iff] at h))))
    · first | refine goC_call [.r, .r, .r] (d_spec_l01In (l.getD j 0) 2 4) ?_ | refine goOC_call [.r, .r, .r] (d_spec_l01In (l.getD j 0) 2 4) ?_
      repeat' (first | simp (maxSteps := 1000000) (disch := (first | omega | (simp only [List.length_map, List.length_append, List.length_set, List.length_replicate, List.length_cons, List.length_nil, List.length_take, List.length_drop] <;> omega) | fail)) only [go_sem, ints, bools, mat, reduceIte, Nat.reduceEqDiff, Nat.reduceAdd, Nat.reduceBEq, Nat.reduceMul, Nat.reduceLeDiff, Nat.reduceLT, Nat.reduceMod, Nat.reduceDiv, Nat.reduceSub, reduceCtorEq] | ((first | refine goIf_b (fun h => ?_) (fun h => ?_) | refine goG_b (fun h => ?_) (fun h => ?_) | refine goTG_b (fun h => ?_) (fun h => ?_) | refine goOG_b (fun h => ?_) (fun h => ?_)) <;> ((try simp only [Bool.not_eq_true', Bool.not_eq_false'] at h); (try simp only [h]); (try simp only [decide_eq_true_eq, decide_eq_false_iff_not, bne_iff_ne, bne_eq_false_iff_eq, beq_iff_eq, beq_eq_false_iff_ne, ne_eq, Int.not_lt, Int.not_le, Bool.and_eq_true, Bool.and_eq_false_iff, Bool.or_eq_true, Bool.or_eq_false_iff] at h))))
      · refine hJ (j + 1) ⟨by omega, fun i hi' => ?_⟩ (by omega) _ (by simp (maxSteps := 1000000) (disch := (first | omega | (simp only [List.length_map, List.length_append, List.length_set, List.length_replicate, List.length_cons, List.length_nil, List.length_take, List.length_drop] <;> omega) | fail)) only [go_sem, ints, bools, mat, reduceIte, Nat.reduceEqDiff, Nat.reduceAdd, Nat.reduceBEq, Nat.reduceMul, Nat.reduceLeDiff, Nat.reduceLT, Nat.reduceMod, Nat.reduceDiv, Nat.reduceSub, reduceCtorEq]; rfl)
        rcases Nat.lt_or_ge i j with h' | h'
        · exact hi i h'
        · have : i = j := by omega
          subst this; assumption
      · exact dbF fun h' => by have := (e.1 h').2.1 j (by omega); omega
    · have hj' : j = l.length := by omega
      subst hj'
      first | refine goC_call [.r] (d_spec_l01N l (by omega) hi) ?_ | refine goOC_call [.r] (d_spec_l01N l (by omega) hi) ?_
      repeat' (first | simp (maxSteps := 1000000) (disch := (first | omega | (simp only [List.length_map, List.length_append, List.length_set, List.length_replicate, List.length_cons, List.length_nil, List.length_take, List.length_drop] <;> omega) | fail)) only [go_sem, ints, bools, mat, reduceIte, Nat.reduceEqDiff, Nat.reduceAdd, Nat.reduceBEq, Nat.reduceMul, Nat.reduceLeDiff, Nat.reduceLT, Nat.reduceMod, Nat.reduceDiv, Nat.reduceSub, reduceCtorEq] | ((first | refine goIf_b (fun h => ?_) (fun h => ?_) | refine goG_b (fun h => ?_) (fun h => ?_) | refine goTG_b (fun h => ?_) (fun h => ?_) | refine goOG_b (fun h => ?_) (fun h => ?_)) <;> ((try simp only [Bool.not_eq_true', Bool.not_eq_false'] at h); (try simp only [h]); (try simp only [decide_eq_true_eq, decide_eq_false_iff_not, bne_iff_ne, bne_eq_false_iff_eq, beq_iff_eq, beq_eq_false_iff_ne, ne_eq, Int.not_lt, Int.not_le, Bool.and_eq_true, Bool.and_eq_false_iff, Bool.or_eq_true, Bool.or_eq_false_iff] at h))))
      refine dbv ?_
      cases hm : isSpaceM l with
      | true => exact decide_eq_true (e.1 hm).2.2
      | false =>
        refine decide_eq_false fun hp => ?_
        have := e.2 ⟨by omega, hi, hp⟩
        rw [hm] at this; cases this
theorem d_impl_IsSpace (l : List Int) (hl : l.length < 1048577) :
    Den PA f_impl_IsSpace [.d (.agg [ints l])] [.any] (.d (db (isSpaceM l))) := by
  have e := isSpaceM_ok l
  refine den_go [] l_impl_IsSpace ?_
  repeat' (first | simp (maxSteps := 1000000) (disch := (first | omega | (simp only [List.length_map, List.length_append, List.length_set, List.length_replicate, List.length_cons, List.length_nil, List.length_take, List.length_drop] <;> omega) | fail)) only [go_sem, ints, bools, mat, reduceIte, Nat.reduceEqDiff, Nat.reduceAdd, Nat.reduceBEq, Nat.reduceMul, Nat.reduceLeDiff, Nat.reduceLT, Nat.reduceMod, Nat.reduceDiv, Nat.reduceSub, reduceCtorEq, c_impl_IsSpace] | ((first | refine goIf_b (fun h => ?_) (fun h => ?_) | refine goG_b (fun h => ?_) (fun h => ?_) | refine goTG_b (fun h => ?_) (fun h => ?_) | refine goOG_b (fun h => ?_) (fun h => ?_)) <;> ((try simp only [Bool.not_eq_true', Bool.not_eq_false'] at h); (try simp only [h]); (try simp only [decide_eq_true_eq, decide_eq_false_iff_not, bne_iff_ne, bne_eq_false_iff_eq, beq_iff_eq, beq_eq_false_iff_ne, ne_eq, Int.not_lt, Int.not_le, Bool.and_eq_true, Bool.and_eq_false_iff, Bool.or_eq_true, Bool.or_eq_false_iff] at h))))
  · exact dbF fun h' => by have := (e.1 h').1; omega
  · refine go_loop (fun (j : Nat) => ⟨[(3, .d (di (prodM (l.take j)))), (17, .d (ints l)), (18, .d (di l.length)), (19, .d (di j))], []⟩) (fun j => j ≤ l.length ∧ ∀ i, i < j → 2 ≤ l.getD i 0 ∧ l.getD i 0 ≤ 4) (fun j => l.length - j) 0 ?_ ?_ ?_
    · simp (maxSteps := 1000000) (disch := (first | omega | (simp only [List.length_map, List.length_append, List.length_set, List.length_replicate, List.length_cons, List.length_nil, List.length_take, List.length_drop] <;> omega) | fail)) only [go_sem, ints, bools, mat, reduceIte, Nat.reduceEqDiff, Nat.reduceAdd, Nat.reduceBEq, Nat.reduceMul, Nat.reduceLeDiff, Nat.reduceLT, Nat.reduceMod, Nat.reduceDiv, Nat.reduceSub, reduceCtorEq]; rfl
    · simp
    · rintro j ⟨hj, hi⟩ J hJ
      have hb := prodM_small l (j := j) (by omega) hj hi
      repeat' (first | simp (maxSteps := 1000000) (disch := (first | omega | (simp only [List.length_map, List.length_append, List.length_set, List.length_replicate, List.length_cons, List.length_nil, List.length_take, List.length_drop] <;> omega) | fail)) only [go_sem, ints, bools, mat, reduceIte, Nat.reduceEqDiff, Nat.reduceAdd, Nat.reduceBEq, Nat.reduceMul, Nat.reduceLeDiff, Nat.reduceLT, Nat.reduceMod, Nat.reduceDiv, Nat.reduceSub, reduceCtorEq] | ((first | refine goIf_b (fun h => ?_) (fun h => ?_) | refine goG_b (fun h => ?_) (fun h => ?_) | refine goTG_b (fun h => ?_) (fun h => ?_) | refine goOG_b (fun h => ?_) (fun h => ?_)) <;> ((try simp only [Bool.not_eq_true', Bool.not_eq_false'] at h); (try simp only [h]); (try simp only [decide_eq_true_eq, decide_eq_false_iff_not, bne_iff_ne, bne_eq_false_iff_eq, beq_iff_eq, beq_eq_false_iff_ne, ne_eq, Int.not_lt, Int.not_le, Bool.and_eq_true, Bool.and_eq_false_iff, Bool.or_eq_true, Bool.or_eq_false_iff] at h))))
      · exact dbF fun h' => by have := (e.1 h').2.1 j (by omega); omega
      · have hi' : ∀ i, i < j + 1 → 2 ≤ l.getD i 0 ∧ l.getD i 0 ≤ 4 := fun i hi' => by
          rcases Nat.lt_or_ge i j with h' | h'
          · exact hi i h'
          · have : i = j := by omega
            subst this; exact ⟨by assumption, by assumption⟩
        have hb' := prodM_small l (j := j + 1) (by omega) (by omega) hi'
        have hs := prodM_step l (j := j) (by omega)
        rw [hs] at hb'
        refine hJ (j + 1) ⟨by omega, hi'⟩ (by omega) _ ?_
        simp (maxSteps := 1000000) (disch := (first | omega | (simp only [List.length_map, List.length_append, List.length_set, List.length_replicate, List.length_cons, List.length_nil, List.length_take, List.length_drop] <;> omega) | fail)) only [go_sem, ints, bools, mat, reduceIte, Nat.reduceEqDiff, Nat.reduceAdd, Nat.reduceBEq, Nat.reduceMul, Nat.reduceLeDiff, Nat.reduceLT, Nat.reduceMod, Nat.reduceDiv, Nat.reduceSub, reduceCtorEq]
        rw [hs]; rfl
      · exact dbF fun h' => by have := (e.1 h').2.1 j (by omega); omega
      · have hj' : j = l.length := by omega
        subst hj'
        refine dbv ?_
        cases hm : isSpaceM l with
        | true => exact decide_eq_true (e.1 hm).2.2
        | false =>
          refine decide_eq_false fun hp => ?_
          have := e.2 ⟨by omega, hi, hp⟩
          rw [hm] at this; cases this
  · exact dbF fun h' => by have := (e.1 h').1; omega
/-- A slip: for each place a set of signs that is not empty. -/
def isSlipM (l t : List Int) : Bool := decide (t.length = l.length) && (List.range t.length).all fun j => decide (1 ≤ t.getD j 0) && decide (t.getD j 0 < 2 ^ (l.getD j 0).toNat)
theorem isSlipM_ok (l t : List Int) : isSlipM l t = true ↔ t.length = l.length ∧ ∀ j, j < t.length → 1 ≤ t.getD j 0 ∧ t.getD j 0 < 2 ^ (l.getD j 0).toNat := by
  simp only [isSlipM, Bool.and_eq_true, decide_eq_true_eq, List.all_eq_true, List.mem_range]
theorem d_spec_l07Is (l t : List Int) (ht : t.length < 1048577) (hl : ∀ j, j < l.length → 2 ≤ l.getD j 0 ∧ l.getD j 0 ≤ 4) :
    Den PA f_spec_l07Is [.d (.agg [ints l]), .d (ints t)] [.any, .any] (.d (db (isSlipM l t))) := by
  have e := isSlipM_ok l t
  refine den_go [] l_spec_l07Is ?_
  repeat' (first | simp (maxSteps := 1000000) (disch := (first | omega | (simp only [List.length_map, List.length_append, List.length_set, List.length_replicate, List.length_cons, List.length_nil, List.length_take, List.length_drop] <;> omega) | fail)) only [go_sem, ints, bools, mat, reduceIte, Nat.reduceEqDiff, Nat.reduceAdd, Nat.reduceBEq, Nat.reduceMul, Nat.reduceLeDiff, Nat.reduceLT, Nat.reduceMod, Nat.reduceDiv, Nat.reduceSub, reduceCtorEq, c_spec_l07Is] | ((first | refine goIf_b (fun h => ?_) (fun h => ?_) | refine goG_b (fun h => ?_) (fun h => ?_) | refine goTG_b (fun h => ?_) (fun h => ?_) | refine goOG_b (fun h => ?_) (fun h => ?_)) <;> ((try simp only [Bool.not_eq_true', Bool.not_eq_false'] at h); (try simp only [h]); (try simp only [decide_eq_true_eq, decide_eq_false_iff_not, bne_iff_ne, bne_eq_false_iff_eq, beq_iff_eq, beq_eq_false_iff_ne, ne_eq, Int.not_lt, Int.not_le, Bool.and_eq_true, Bool.and_eq_false_iff, Bool.or_eq_true, Bool.or_eq_false_iff] at h))))
  · exact dbF fun h' => by have := (e.1 h').1; omega
  refine go_loop (fun (j : Nat) => ⟨[(1, .d (ints t)), (2, .ref 0 0), (13, .d (di t.length)), (14, .d (di j))], [some (.var [ints l])]⟩) (fun j => j ≤ t.length ∧ ∀ i, i < j → 1 ≤ t.getD i 0 ∧ t.getD i 0 < 2 ^ (l.getD i 0).toNat) (fun j => t.length - j) 0 ?_ ?_ ?_
  · (simp (maxSteps := 1000000) (disch := (first | omega | (simp only [List.length_map, List.length_append, List.length_set, List.length_replicate, List.length_cons, List.length_nil, List.length_take, List.length_drop] <;> omega) | fail)) only [go_sem, ints, bools, mat, reduceIte, Nat.reduceEqDiff, Nat.reduceAdd, Nat.reduceBEq, Nat.reduceMul, Nat.reduceLeDiff, Nat.reduceLT, Nat.reduceMod, Nat.reduceDiv, Nat.reduceSub, reduceCtorEq] <;> rfl)
  · simp
  · rintro j ⟨hj, hi⟩ J hJ
    have hq := hl j
    have hp := two_pow_lt (b := (l.getD j 0).toNat)
    repeat' (first | simp (maxSteps := 1000000) (disch := (first | omega | (simp only [List.length_map, List.length_append, List.length_set, List.length_replicate, List.length_cons, List.length_nil, List.length_take, List.length_drop] <;> omega) | fail)) only [go_sem, ints, bools, mat, reduceIte, Nat.reduceEqDiff, Nat.reduceAdd, Nat.reduceBEq, Nat.reduceMul, Nat.reduceLeDiff, Nat.reduceLT, Nat.reduceMod, Nat.reduceDiv, Nat.reduceSub, reduceCtorEq] | ((first | refine goIf_b (fun h => ?_) (fun h => ?_) | refine goG_b (fun h => ?_) (fun h => ?_) | refine goTG_b (fun h => ?_) (fun h => ?_) | refine goOG_b (fun h => ?_) (fun h => ?_)) <;> ((try simp only [Bool.not_eq_true', Bool.not_eq_false'] at h); (try simp only [h]); (try simp only [decide_eq_true_eq, decide_eq_false_iff_not, bne_iff_ne, bne_eq_false_iff_eq, beq_iff_eq, beq_eq_false_iff_ne, ne_eq, Int.not_lt, Int.not_le, Bool.and_eq_true, Bool.and_eq_false_iff, Bool.or_eq_true, Bool.or_eq_false_iff] at h))))
    · first | refine goC_call [.r, .r, .r] (d_spec_l01In (t.getD j 0) 1 (2 ^ (l.getD j 0).toNat - 1)) ?_ | refine goOC_call [.r, .r, .r] (d_spec_l01In (t.getD j 0) 1 (2 ^ (l.getD j 0).toNat - 1)) ?_
      repeat' (first | simp (maxSteps := 1000000) (disch := (first | omega | (simp only [List.length_map, List.length_append, List.length_set, List.length_replicate, List.length_cons, List.length_nil, List.length_take, List.length_drop] <;> omega) | fail)) only [go_sem, ints, bools, mat, reduceIte, Nat.reduceEqDiff, Nat.reduceAdd, Nat.reduceBEq, Nat.reduceMul, Nat.reduceLeDiff, Nat.reduceLT, Nat.reduceMod, Nat.reduceDiv, Nat.reduceSub, reduceCtorEq] | ((first | refine goIf_b (fun h => ?_) (fun h => ?_) | refine goG_b (fun h => ?_) (fun h => ?_) | refine goTG_b (fun h => ?_) (fun h => ?_) | refine goOG_b (fun h => ?_) (fun h => ?_)) <;> ((try simp only [Bool.not_eq_true', Bool.not_eq_false'] at h); (try simp only [h]); (try simp only [decide_eq_true_eq, decide_eq_false_iff_not, bne_iff_ne, bne_eq_false_iff_eq, beq_iff_eq, beq_eq_false_iff_ne, ne_eq, Int.not_lt, Int.not_le, Bool.and_eq_true, Bool.and_eq_false_iff, Bool.or_eq_true, Bool.or_eq_false_iff] at h))))
      · refine hJ (j + 1) ⟨by omega, all_ext hi (by omega)⟩ (by omega) _ (by (simp (maxSteps := 1000000) (disch := (first | omega | (simp only [List.length_map, List.length_append, List.length_set, List.length_replicate, List.length_cons, List.length_nil, List.length_take, List.length_drop] <;> omega) | fail)) only [go_sem, ints, bools, mat, reduceIte, Nat.reduceEqDiff, Nat.reduceAdd, Nat.reduceBEq, Nat.reduceMul, Nat.reduceLeDiff, Nat.reduceLT, Nat.reduceMod, Nat.reduceDiv, Nat.reduceSub, reduceCtorEq] <;> rfl))
      · exact dbF fun h' => by have := (e.1 h').2 j (by omega); omega
    · exact dbT (e.2 ⟨by omega, fun i hi' => hi i (by omega)⟩)
theorem d_impl_isSlip (l t : List Int) (ht : t.length < 1048577) (hl : ∀ j, j < l.length → 2 ≤ l.getD j 0 ∧ l.getD j 0 ≤ 4) :
    Den PA f_impl_isSlip [.d (.agg [ints l]), .d (ints t)] [.any, .any] (.d (db (isSlipM l t))) := by
  have e := isSlipM_ok l t
  refine den_go [] l_impl_isSlip ?_
  repeat' (first | simp (maxSteps := 1000000) (disch := (first | omega | (simp only [List.length_map, List.length_append, List.length_set, List.length_replicate, List.length_cons, List.length_nil, List.length_take, List.length_drop] <;> omega) | fail)) only [go_sem, ints, bools, mat, reduceIte, Nat.reduceEqDiff, Nat.reduceAdd, Nat.reduceBEq, Nat.reduceMul, Nat.reduceLeDiff, Nat.reduceLT, Nat.reduceMod, Nat.reduceDiv, Nat.reduceSub, reduceCtorEq, c_impl_isSlip] | ((first | refine goIf_b (fun h => ?_) (fun h => ?_) | refine goG_b (fun h => ?_) (fun h => ?_) | refine goTG_b (fun h => ?_) (fun h => ?_) | refine goOG_b (fun h => ?_) (fun h => ?_)) <;> ((try simp only [Bool.not_eq_true', Bool.not_eq_false'] at h); (try simp only [h]); (try simp only [decide_eq_true_eq, decide_eq_false_iff_not, bne_iff_ne, bne_eq_false_iff_eq, beq_iff_eq, beq_eq_false_iff_ne, ne_eq, Int.not_lt, Int.not_le, Bool.and_eq_true, Bool.and_eq_false_iff, Bool.or_eq_true, Bool.or_eq_false_iff] at h))))
  · exact dbF fun h' => by have := (e.1 h').1; omega
  refine go_loop (fun (j : Nat) => ⟨[(2, .ref 0 0), (13, .d (ints t)), (14, .d (di t.length)), (15, .d (di j))], [some (.var [ints l])]⟩) (fun j => j ≤ t.length ∧ ∀ i, i < j → 1 ≤ t.getD i 0 ∧ t.getD i 0 < 2 ^ (l.getD i 0).toNat) (fun j => t.length - j) 0 ?_ ?_ ?_
  · (simp (maxSteps := 1000000) (disch := (first | omega | (simp only [List.length_map, List.length_append, List.length_set, List.length_replicate, List.length_cons, List.length_nil, List.length_take, List.length_drop] <;> omega) | fail)) only [go_sem, ints, bools, mat, reduceIte, Nat.reduceEqDiff, Nat.reduceAdd, Nat.reduceBEq, Nat.reduceMul, Nat.reduceLeDiff, Nat.reduceLT, Nat.reduceMod, Nat.reduceDiv, Nat.reduceSub, reduceCtorEq] <;> rfl)
  · simp
  · rintro j ⟨hj, hi⟩ J hJ
    have hq := hl j
    have hp := two_pow_lt (b := (l.getD j 0).toNat)
    repeat' (first | simp (maxSteps := 1000000) (disch := (first | omega | (simp only [List.length_map, List.length_append, List.length_set, List.length_replicate, List.length_cons, List.length_nil, List.length_take, List.length_drop] <;> omega) | fail)) only [go_sem, ints, bools, mat, reduceIte, Nat.reduceEqDiff, Nat.reduceAdd, Nat.reduceBEq, Nat.reduceMul, Nat.reduceLeDiff, Nat.reduceLT, Nat.reduceMod, Nat.reduceDiv, Nat.reduceSub, reduceCtorEq] | ((first | refine goIf_b (fun h => ?_) (fun h => ?_) | refine goG_b (fun h => ?_) (fun h => ?_) | refine goTG_b (fun h => ?_) (fun h => ?_) | refine goOG_b (fun h => ?_) (fun h => ?_)) <;> ((try simp only [Bool.not_eq_true', Bool.not_eq_false'] at h); (try simp only [h]); (try simp only [decide_eq_true_eq, decide_eq_false_iff_not, bne_iff_ne, bne_eq_false_iff_eq, beq_iff_eq, beq_eq_false_iff_ne, ne_eq, Int.not_lt, Int.not_le, Bool.and_eq_true, Bool.and_eq_false_iff, Bool.or_eq_true, Bool.or_eq_false_iff] at h))))
    · exact dbF fun h' => by have := (e.1 h').2 j (by omega); omega
    · refine hJ (j + 1) ⟨by omega, all_ext hi (by omega)⟩ (by omega) _ (by (simp (maxSteps := 1000000) (disch := (first | omega | (simp only [List.length_map, List.length_append, List.length_set, List.length_replicate, List.length_cons, List.length_nil, List.length_take, List.length_drop] <;> omega) | fail)) only [go_sem, ints, bools, mat, reduceIte, Nat.reduceEqDiff, Nat.reduceAdd, Nat.reduceBEq, Nat.reduceMul, Nat.reduceLeDiff, Nat.reduceLT, Nat.reduceMod, Nat.reduceDiv, Nat.reduceSub, reduceCtorEq] <;> rfl))
    · exact dbF fun h' => by have := (e.1 h').2 j (by omega); omega
    · exact dbT (e.2 ⟨by omega, fun i hi' => hi i (by omega)⟩)
theorem isSpaceM_q {l : List Int} (h : isSpaceM l = true) : ∀ j, j < l.length → 2 ≤ l.getD j 0 ∧ l.getD j 0 ≤ 4 := ((isSpaceM_ok l).1 h).2.1
theorem isSpaceM_n {l : List Int} (h : isSpaceM l = true) : 1 ≤ l.length ∧ l.length ≤ 8 := ((isSpaceM_ok l).1 h).1
theorem d_laws_eqSlip (l m : List Int) (hl : l.length < 1048577) :
    Den PA f_laws_eqSlip [.d (ints l), .d (ints m)] [.any, .any] (.d (db (decide (l = m)))) := by
  refine den_go [] l_laws_eqSlip ?_
  repeat' (first | simp (maxSteps := 1000000) (disch := (first | omega | (simp only [List.length_map, List.length_append, List.length_set, List.length_replicate, List.length_cons, List.length_nil, List.length_take, List.length_drop] <;> omega) | fail)) only [go_sem, ints, bools, mat, reduceIte, Nat.reduceEqDiff, Nat.reduceAdd, Nat.reduceBEq, Nat.reduceMul, Nat.reduceLeDiff, Nat.reduceLT, Nat.reduceMod, Nat.reduceDiv, Nat.reduceSub, reduceCtorEq, c_laws_eqSlip] | ((first | refine goIf_b (fun h => ?_) (fun h => ?_) | refine goG_b (fun h => ?_) (fun h => ?_) | refine goTG_b (fun h => ?_) (fun h => ?_) | refine goOG_b (fun h => ?_) (fun h => ?_)) <;> ((try simp only [Bool.not_eq_true', Bool.not_eq_false'] at h); (try simp only [h]); (try simp only [decide_eq_true_eq, decide_eq_false_iff_not, bne_iff_ne, bne_eq_false_iff_eq, beq_iff_eq, beq_eq_false_iff_ne, ne_eq, Int.not_lt, Int.not_le, Bool.and_eq_true, Bool.and_eq_false_iff, Bool.or_eq_true, Bool.or_eq_false_iff] at h))))
  · exact dbF fun e => by have := of_decide_eq_true e; subst this; exact h rfl
  refine go_loop (fun (j : Nat) => ⟨[(0, .d (ints l)), (1, .d (ints m)), (5, .d (di j))], []⟩) (fun j => j ≤ l.length ∧ ∀ i, i < j → l.getD i 0 = m.getD i 0) (fun j => l.length - j) 0 ?_ ?_ ?_
  · (simp (maxSteps := 1000000) (disch := (first | omega | (simp only [List.length_map, List.length_append, List.length_set, List.length_replicate, List.length_cons, List.length_nil, List.length_take, List.length_drop] <;> omega) | fail)) only [go_sem, ints, bools, mat, reduceIte, Nat.reduceEqDiff, Nat.reduceAdd, Nat.reduceBEq, Nat.reduceMul, Nat.reduceLeDiff, Nat.reduceLT, Nat.reduceMod, Nat.reduceDiv, Nat.reduceSub, reduceCtorEq] <;> rfl)
  · simp
  · rintro j ⟨hj, hi⟩ J hJ
    repeat' (first | simp (maxSteps := 1000000) (disch := (first | omega | (simp only [List.length_map, List.length_append, List.length_set, List.length_replicate, List.length_cons, List.length_nil, List.length_take, List.length_drop] <;> omega) | fail)) only [go_sem, ints, bools, mat, reduceIte, Nat.reduceEqDiff, Nat.reduceAdd, Nat.reduceBEq, Nat.reduceMul, Nat.reduceLeDiff, Nat.reduceLT, Nat.reduceMod, Nat.reduceDiv, Nat.reduceSub, reduceCtorEq] | ((first | refine goIf_b (fun h => ?_) (fun h => ?_) | refine goG_b (fun h => ?_) (fun h => ?_) | refine goTG_b (fun h => ?_) (fun h => ?_) | refine goOG_b (fun h => ?_) (fun h => ?_)) <;> ((try simp only [Bool.not_eq_true', Bool.not_eq_false'] at h); (try simp only [h]); (try simp only [decide_eq_true_eq, decide_eq_false_iff_not, bne_iff_ne, bne_eq_false_iff_eq, beq_iff_eq, beq_eq_false_iff_ne, ne_eq, Int.not_lt, Int.not_le, Bool.and_eq_true, Bool.and_eq_false_iff, Bool.or_eq_true, Bool.or_eq_false_iff] at h))))
    · exact dbF fun e => by have := of_decide_eq_true e; subst this; exact h rfl
    · refine hJ (j + 1) ⟨by omega, all_ext hi (by omega)⟩ (by omega) _ (by (simp (maxSteps := 1000000) (disch := (first | omega | (simp only [List.length_map, List.length_append, List.length_set, List.length_replicate, List.length_cons, List.length_nil, List.length_take, List.length_drop] <;> omega) | fail)) only [go_sem, ints, bools, mat, reduceIte, Nat.reduceEqDiff, Nat.reduceAdd, Nat.reduceBEq, Nat.reduceMul, Nat.reduceLeDiff, Nat.reduceLT, Nat.reduceMod, Nat.reduceDiv, Nat.reduceSub, reduceCtorEq] <;> rfl))
    · exact dbT (decide_eq_true (eq_getD (by omega) fun i hi' => hi i (by omega)))
theorem d_laws_toSlip (x : D) (l : List Int) (hx : IsInts x l) (hl : l.length < 1048577) :
    Den PA f_laws_toSlip [.d x] [.any] (.own 1 (l.map di)) := by
  refine den_go [] l_laws_toSlip ?_
  rcases hx with rfl | ⟨rfl, rfl⟩
  rotate_left
  · repeat' (first | simp (maxSteps := 1000000) (disch := (first | omega | (simp only [List.length_map, List.length_append, List.length_set, List.length_replicate, List.length_cons, List.length_nil, List.length_take, List.length_drop] <;> omega) | fail)) only [go_sem, ints, bools, mat, reduceIte, Nat.reduceEqDiff, Nat.reduceAdd, Nat.reduceBEq, Nat.reduceMul, Nat.reduceLeDiff, Nat.reduceLT, Nat.reduceMod, Nat.reduceDiv, Nat.reduceSub, reduceCtorEq, c_laws_toSlip] | ((first | refine goIf_b (fun h => ?_) (fun h => ?_) | refine goG_b (fun h => ?_) (fun h => ?_) | refine goTG_b (fun h => ?_) (fun h => ?_) | refine goOG_b (fun h => ?_) (fun h => ?_)) <;> ((try simp only [Bool.not_eq_true', Bool.not_eq_false'] at h); (try simp only [h]); (try simp only [decide_eq_true_eq, decide_eq_false_iff_not, bne_iff_ne, bne_eq_false_iff_eq, beq_iff_eq, beq_eq_false_iff_ne, ne_eq, Int.not_lt, Int.not_le, Bool.and_eq_true, Bool.and_eq_false_iff, Bool.or_eq_true, Bool.or_eq_false_iff] at h))))
    refine go_loop (fun (_ : Unit) => ⟨[(0, .d (.v (.slice none 0 0))), (3, .sl 0 0 0 1), (4, .d (di 0))], [some (.dat 1 [])]⟩) (fun _ => True) (fun _ => 0) () ?_ trivial ?_
    · (simp (maxSteps := 1000000) (disch := (first | omega | (simp only [List.length_map, List.length_append, List.length_set, List.length_replicate, List.length_cons, List.length_nil, List.length_take, List.length_drop] <;> omega) | fail)) only [go_sem, ints, bools, mat, reduceIte, Nat.reduceEqDiff, Nat.reduceAdd, Nat.reduceBEq, Nat.reduceMul, Nat.reduceLeDiff, Nat.reduceLT, Nat.reduceMod, Nat.reduceDiv, Nat.reduceSub, reduceCtorEq] <;> rfl)
    · intro _ _ J _
      repeat' (first | simp (maxSteps := 1000000) (disch := (first | omega | (simp only [List.length_map, List.length_append, List.length_set, List.length_replicate, List.length_cons, List.length_nil, List.length_take, List.length_drop] <;> omega) | fail)) only [go_sem, ints, bools, mat, reduceIte, Nat.reduceEqDiff, Nat.reduceAdd, Nat.reduceBEq, Nat.reduceMul, Nat.reduceLeDiff, Nat.reduceLT, Nat.reduceMod, Nat.reduceDiv, Nat.reduceSub, reduceCtorEq] | ((first | refine goIf_b (fun h => ?_) (fun h => ?_) | refine goG_b (fun h => ?_) (fun h => ?_) | refine goTG_b (fun h => ?_) (fun h => ?_) | refine goOG_b (fun h => ?_) (fun h => ?_)) <;> ((try simp only [Bool.not_eq_true', Bool.not_eq_false'] at h); (try simp only [h]); (try simp only [decide_eq_true_eq, decide_eq_false_iff_not, bne_iff_ne, bne_eq_false_iff_eq, beq_iff_eq, beq_eq_false_iff_ne, ne_eq, Int.not_lt, Int.not_le, Bool.and_eq_true, Bool.and_eq_false_iff, Bool.or_eq_true, Bool.or_eq_false_iff] at h))))
  repeat' (first | simp (maxSteps := 1000000) (disch := (first | omega | (simp only [List.length_map, List.length_append, List.length_set, List.length_replicate, List.length_cons, List.length_nil, List.length_take, List.length_drop] <;> omega) | fail)) only [go_sem, ints, bools, mat, reduceIte, Nat.reduceEqDiff, Nat.reduceAdd, Nat.reduceBEq, Nat.reduceMul, Nat.reduceLeDiff, Nat.reduceLT, Nat.reduceMod, Nat.reduceDiv, Nat.reduceSub, reduceCtorEq, c_laws_toSlip] | ((first | refine goIf_b (fun h => ?_) (fun h => ?_) | refine goG_b (fun h => ?_) (fun h => ?_) | refine goTG_b (fun h => ?_) (fun h => ?_) | refine goOG_b (fun h => ?_) (fun h => ?_)) <;> ((try simp only [Bool.not_eq_true', Bool.not_eq_false'] at h); (try simp only [h]); (try simp only [decide_eq_true_eq, decide_eq_false_iff_not, bne_iff_ne, bne_eq_false_iff_eq, beq_iff_eq, beq_eq_false_iff_ne, ne_eq, Int.not_lt, Int.not_le, Bool.and_eq_true, Bool.and_eq_false_iff, Bool.or_eq_true, Bool.or_eq_false_iff] at h))))
  refine go_loop (fun (j : Nat) => ⟨[(0, .d (ints l)), (3, .sl 0 0 l.length 1), (4, .d (di j))], [some (.dat 1 ((l.take j ++ List.replicate (l.length - j) 0).map di))]⟩) (fun j => j ≤ l.length) (fun j => l.length - j) 0 ?_ ?_ ?_
  · (simp (maxSteps := 1000000) (disch := (first | omega | (simp only [List.length_map, List.length_append, List.length_set, List.length_replicate, List.length_cons, List.length_nil, List.length_take, List.length_drop] <;> omega) | fail)) only [go_sem, ints, bools, mat, reduceIte, Nat.reduceEqDiff, Nat.reduceAdd, Nat.reduceBEq, Nat.reduceMul, Nat.reduceLeDiff, Nat.reduceLT, Nat.reduceMod, Nat.reduceDiv, Nat.reduceSub, reduceCtorEq] <;> rfl)
  · simp
  · rintro j hj J hJ
    repeat' (first | simp (maxSteps := 1000000) (disch := (first | omega | (simp only [List.length_map, List.length_append, List.length_set, List.length_replicate, List.length_cons, List.length_nil, List.length_take, List.length_drop] <;> omega) | fail)) only [go_sem, ints, bools, mat, reduceIte, Nat.reduceEqDiff, Nat.reduceAdd, Nat.reduceBEq, Nat.reduceMul, Nat.reduceLeDiff, Nat.reduceLT, Nat.reduceMod, Nat.reduceDiv, Nat.reduceSub, reduceCtorEq] | ((first | refine goIf_b (fun h => ?_) (fun h => ?_) | refine goG_b (fun h => ?_) (fun h => ?_) | refine goTG_b (fun h => ?_) (fun h => ?_) | refine goOG_b (fun h => ?_) (fun h => ?_)) <;> ((try simp only [Bool.not_eq_true', Bool.not_eq_false'] at h); (try simp only [h]); (try simp only [decide_eq_true_eq, decide_eq_false_iff_not, bne_iff_ne, bne_eq_false_iff_eq, beq_iff_eq, beq_eq_false_iff_ne, ne_eq, Int.not_lt, Int.not_le, Bool.and_eq_true, Bool.and_eq_false_iff, Bool.or_eq_true, Bool.or_eq_false_iff] at h))))
    · refine hJ (j + 1) (by omega) (by omega) _ ?_
      simp (maxSteps := 1000000) (disch := (first | omega | (simp only [List.length_map, List.length_append, List.length_set, List.length_replicate, List.length_cons, List.length_nil, List.length_take, List.length_drop] <;> omega) | fail)) only [go_sem, ints, bools, mat, reduceIte, Nat.reduceEqDiff, Nat.reduceAdd, Nat.reduceBEq, Nat.reduceMul, Nat.reduceLeDiff, Nat.reduceLT, Nat.reduceMod, Nat.reduceDiv, Nat.reduceSub, reduceCtorEq]
      rw [fill_step l 0 0 (by omega) rfl]; rfl
    · have : j = l.length := by omega
      subst this; simp
theorem sz_ok {l : List Int} {left : Int} (h : 0 ≤ (if left < (l.length : Int) then (-1 : Int) else left - l.length)) : (l.length : Int) ≤ left := by
  by_cases hh : left < (l.length : Int)
  · rw [if_pos hh] at h; omega
  · omega
def markL (n : Nat) (k : Int) : List Int := (List.range n).map fun (i : Nat) => k + (i : Int)
@[go_sem] theorem markL_len (n : Nat) (k : Int) : (markL n k).length = n := by simp [markL]
@[go_sem] theorem take_markL (n : Nat) (k : Int) : (markL n k).take n = markL n k := List.take_of_length_le (by rw [markL_len]; exact Nat.le_refl _)
@[go_sem] theorem cast_succ_sub (i : Nat) : ((i + 1 : Nat) : Int) - 1 = (i : Int) := by omega
@[go_sem] theorem cast_zero0 : ((0 : Nat) : Int) = 0 := rfl
theorem div_le_self {w p : Int} (h : 0 ≤ w) (hp : 1 ≤ p) : 0 ≤ w / p ∧ w / p ≤ w := by
  refine ⟨Int.ediv_nonneg h (by omega), Int.ediv_le_self _ h⟩
def pad8 (ds : List Int) : List Int := (ds ++ List.replicate 8 0).take 8
@[go_sem] theorem pad8_len (ds : List Int) : (pad8 ds).length = 8 := by simp [pad8]
abbrev scM (l : List Int) (ts : List (List Int)) : Int := if isSpaceM l then (if ts.all (isSlipM l) then 0 else 2) else 1
theorem allR {ts : List (List Int)} {p : List Int → Bool} : ts.all p = true ↔ ∀ j, j < ts.length → p (ts.getD j []) = true := by
  rw [List.all_eq_true]
  constructor
  · intro h j hj
    have e : ts.getD j [] = ts[j] := by simp [hj]
    rw [e]; exact h _ (List.getElem_mem hj)
  · intro h x hx
    obtain ⟨j, hj, rfl⟩ := List.mem_iff_getElem.1 hx
    have := h j hj
    have e : ts.getD j [] = ts[j] := by simp [hj]
    rwa [e] at this
theorem d_spec_l07Code (l : List Int) (hl : l.length < 1048577) (ts : List (List Int)) (hk : ts.length < 1048577) (ht : ∀ j, j < ts.length → (ts.getD j []).length < 1048577) :
    Den PA f_spec_l07Code [.d (.agg [ints l]), .d (mat ts)] [.any, .any] (.d (di (scM l ts))) := by
  have e := allR (ts := ts) (p := isSlipM l)
  refine den_go [] l_spec_l07Code ?_
  simp (maxSteps := 1000000) (disch := (first | omega | (simp only [List.length_map, List.length_append, List.length_set, List.length_replicate, List.length_cons, List.length_nil, List.length_take, List.length_drop] <;> omega) | fail)) only [go_sem, ints, bools, mat, reduceIte, Nat.reduceEqDiff, Nat.reduceAdd, Nat.reduceBEq, Nat.reduceMul, Nat.reduceLeDiff, Nat.reduceLT, Nat.reduceMod, Nat.reduceDiv, Nat.reduceSub, reduceCtorEq, c_spec_l07Code, scM]
  first | refine goC_call [.r] (d_spec_l01Is l hl) ?_ | refine goOC_call [.r] (d_spec_l01Is l hl) ?_
  repeat' (first | simp (maxSteps := 1000000) (disch := (first | omega | (simp only [List.length_map, List.length_append, List.length_set, List.length_replicate, List.length_cons, List.length_nil, List.length_take, List.length_drop] <;> omega) | fail)) only [go_sem, ints, bools, mat, reduceIte, Nat.reduceEqDiff, Nat.reduceAdd, Nat.reduceBEq, Nat.reduceMul, Nat.reduceLeDiff, Nat.reduceLT, Nat.reduceMod, Nat.reduceDiv, Nat.reduceSub, reduceCtorEq] | ((first | refine goIf_b (fun h => ?_) (fun h => ?_) | refine goG_b (fun h => ?_) (fun h => ?_) | refine goTG_b (fun h => ?_) (fun h => ?_) | refine goOG_b (fun h => ?_) (fun h => ?_)) <;> ((try simp only [Bool.not_eq_true', Bool.not_eq_false'] at h); (try simp only [h]); (try simp only [decide_eq_true_eq, decide_eq_false_iff_not, bne_iff_ne, bne_eq_false_iff_eq, beq_iff_eq, beq_eq_false_iff_ne, ne_eq, Int.not_lt, Int.not_le, Bool.and_eq_true, Bool.and_eq_false_iff, Bool.or_eq_true, Bool.or_eq_false_iff] at h))))
  have hs := h
  refine go_loop (fun (j : Nat) => ⟨[(1, .d (mat ts)), (2, .ref 0 0), (10, .d (di ts.length)), (11, .d (di j))], [some (.var [ints l])]⟩) (fun j => j ≤ ts.length ∧ ∀ i, i < j → isSlipM l (ts.getD i []) = true) (fun j => ts.length - j) 0 ?_ ?_ ?_
  · (simp (maxSteps := 1000000) (disch := (first | omega | (simp only [List.length_map, List.length_append, List.length_set, List.length_replicate, List.length_cons, List.length_nil, List.length_take, List.length_drop] <;> omega) | fail)) only [go_sem, ints, bools, mat, reduceIte, Nat.reduceEqDiff, Nat.reduceAdd, Nat.reduceBEq, Nat.reduceMul, Nat.reduceLeDiff, Nat.reduceLT, Nat.reduceMod, Nat.reduceDiv, Nat.reduceSub, reduceCtorEq] <;> rfl)
  · simp
  · rintro j ⟨hj, hi⟩ J hJ
    repeat' (first | simp (maxSteps := 1000000) (disch := (first | omega | (simp only [List.length_map, List.length_append, List.length_set, List.length_replicate, List.length_cons, List.length_nil, List.length_take, List.length_drop] <;> omega) | fail)) only [go_sem, ints, bools, mat, reduceIte, Nat.reduceEqDiff, Nat.reduceAdd, Nat.reduceBEq, Nat.reduceMul, Nat.reduceLeDiff, Nat.reduceLT, Nat.reduceMod, Nat.reduceDiv, Nat.reduceSub, reduceCtorEq] | ((first | refine goIf_b (fun h => ?_) (fun h => ?_) | refine goG_b (fun h => ?_) (fun h => ?_) | refine goTG_b (fun h => ?_) (fun h => ?_) | refine goOG_b (fun h => ?_) (fun h => ?_)) <;> ((try simp only [Bool.not_eq_true', Bool.not_eq_false'] at h); (try simp only [h]); (try simp only [decide_eq_true_eq, decide_eq_false_iff_not, bne_iff_ne, bne_eq_false_iff_eq, beq_iff_eq, beq_eq_false_iff_ne, ne_eq, Int.not_lt, Int.not_le, Bool.and_eq_true, Bool.and_eq_false_iff, Bool.or_eq_true, Bool.or_eq_false_iff] at h))))
    · first | refine goC_call [.r, .r] (d_spec_l07Is l (ts.getD j []) (ht j (by omega)) (isSpaceM_q hs)) ?_ | refine goOC_call [.r, .r] (d_spec_l07Is l (ts.getD j []) (ht j (by omega)) (isSpaceM_q hs)) ?_
      repeat' (first | simp (maxSteps := 1000000) (disch := (first | omega | (simp only [List.length_map, List.length_append, List.length_set, List.length_replicate, List.length_cons, List.length_nil, List.length_take, List.length_drop] <;> omega) | fail)) only [go_sem, ints, bools, mat, reduceIte, Nat.reduceEqDiff, Nat.reduceAdd, Nat.reduceBEq, Nat.reduceMul, Nat.reduceLeDiff, Nat.reduceLT, Nat.reduceMod, Nat.reduceDiv, Nat.reduceSub, reduceCtorEq] | ((first | refine goIf_b (fun h => ?_) (fun h => ?_) | refine goG_b (fun h => ?_) (fun h => ?_) | refine goTG_b (fun h => ?_) (fun h => ?_) | refine goOG_b (fun h => ?_) (fun h => ?_)) <;> ((try simp only [Bool.not_eq_true', Bool.not_eq_false'] at h); (try simp only [h]); (try simp only [decide_eq_true_eq, decide_eq_false_iff_not, bne_iff_ne, bne_eq_false_iff_eq, beq_iff_eq, beq_eq_false_iff_ne, ne_eq, Int.not_lt, Int.not_le, Bool.and_eq_true, Bool.and_eq_false_iff, Bool.or_eq_true, Bool.or_eq_false_iff] at h))))
      · refine hJ (j + 1) ⟨by omega, all_ext hi h⟩ (by omega) _ (by (simp (maxSteps := 1000000) (disch := (first | omega | (simp only [List.length_map, List.length_append, List.length_set, List.length_replicate, List.length_cons, List.length_nil, List.length_take, List.length_drop] <;> omega) | fail)) only [go_sem, ints, bools, mat, reduceIte, Nat.reduceEqDiff, Nat.reduceAdd, Nat.reduceBEq, Nat.reduceMul, Nat.reduceLeDiff, Nat.reduceLT, Nat.reduceMod, Nat.reduceDiv, Nat.reduceSub, reduceCtorEq] <;> rfl))
      · rw [if_neg]
        exact fun h' => by have := e.1 h' j (by omega); rw [h] at this; cases this
    · rw [if_pos]
      exact e.2 fun i hi' => hi i (by omega)
theorem d_impl_slipCode (l : List Int) (hl : l.length < 1048577) (ts : List (List Int)) (hk : ts.length < 1048577) (ht : ∀ j, j < ts.length → (ts.getD j []).length < 1048577) :
    Den PA f_impl_slipCode [.d (.agg [ints l]), .d (mat ts)] [.any, .any] (.d (di (scM l ts))) := by
  have e := allR (ts := ts) (p := isSlipM l)
  refine den_go [] l_impl_slipCode ?_
  simp (maxSteps := 1000000) (disch := (first | omega | (simp only [List.length_map, List.length_append, List.length_set, List.length_replicate, List.length_cons, List.length_nil, List.length_take, List.length_drop] <;> omega) | fail)) only [go_sem, ints, bools, mat, reduceIte, Nat.reduceEqDiff, Nat.reduceAdd, Nat.reduceBEq, Nat.reduceMul, Nat.reduceLeDiff, Nat.reduceLT, Nat.reduceMod, Nat.reduceDiv, Nat.reduceSub, reduceCtorEq, c_impl_slipCode, scM]
  first | refine goC_call [.r] (d_impl_IsSpace l hl) ?_ | refine goOC_call [.r] (d_impl_IsSpace l hl) ?_
  repeat' (first | simp (maxSteps := 1000000) (disch := (first | omega | (simp only [List.length_map, List.length_append, List.length_set, List.length_replicate, List.length_cons, List.length_nil, List.length_take, List.length_drop] <;> omega) | fail)) only [go_sem, ints, bools, mat, reduceIte, Nat.reduceEqDiff, Nat.reduceAdd, Nat.reduceBEq, Nat.reduceMul, Nat.reduceLeDiff, Nat.reduceLT, Nat.reduceMod, Nat.reduceDiv, Nat.reduceSub, reduceCtorEq] | ((first | refine goIf_b (fun h => ?_) (fun h => ?_) | refine goG_b (fun h => ?_) (fun h => ?_) | refine goTG_b (fun h => ?_) (fun h => ?_) | refine goOG_b (fun h => ?_) (fun h => ?_)) <;> ((try simp only [Bool.not_eq_true', Bool.not_eq_false'] at h); (try simp only [h]); (try simp only [decide_eq_true_eq, decide_eq_false_iff_not, bne_iff_ne, bne_eq_false_iff_eq, beq_iff_eq, beq_eq_false_iff_ne, ne_eq, Int.not_lt, Int.not_le, Bool.and_eq_true, Bool.and_eq_false_iff, Bool.or_eq_true, Bool.or_eq_false_iff] at h))))
  have hs := h
  refine go_loop (fun (j : Nat) => ⟨[(2, .ref 0 0), (10, .d (mat ts)), (11, .d (di ts.length)), (12, .d (di j))], [some (.var [ints l])]⟩) (fun j => j ≤ ts.length ∧ ∀ i, i < j → isSlipM l (ts.getD i []) = true) (fun j => ts.length - j) 0 ?_ ?_ ?_
  · (simp (maxSteps := 1000000) (disch := (first | omega | (simp only [List.length_map, List.length_append, List.length_set, List.length_replicate, List.length_cons, List.length_nil, List.length_take, List.length_drop] <;> omega) | fail)) only [go_sem, ints, bools, mat, reduceIte, Nat.reduceEqDiff, Nat.reduceAdd, Nat.reduceBEq, Nat.reduceMul, Nat.reduceLeDiff, Nat.reduceLT, Nat.reduceMod, Nat.reduceDiv, Nat.reduceSub, reduceCtorEq] <;> rfl)
  · simp
  · rintro j ⟨hj, hi⟩ J hJ
    repeat' (first | simp (maxSteps := 1000000) (disch := (first | omega | (simp only [List.length_map, List.length_append, List.length_set, List.length_replicate, List.length_cons, List.length_nil, List.length_take, List.length_drop] <;> omega) | fail)) only [go_sem, ints, bools, mat, reduceIte, Nat.reduceEqDiff, Nat.reduceAdd, Nat.reduceBEq, Nat.reduceMul, Nat.reduceLeDiff, Nat.reduceLT, Nat.reduceMod, Nat.reduceDiv, Nat.reduceSub, reduceCtorEq] | ((first | refine goIf_b (fun h => ?_) (fun h => ?_) | refine goG_b (fun h => ?_) (fun h => ?_) | refine goTG_b (fun h => ?_) (fun h => ?_) | refine goOG_b (fun h => ?_) (fun h => ?_)) <;> ((try simp only [Bool.not_eq_true', Bool.not_eq_false'] at h); (try simp only [h]); (try simp only [decide_eq_true_eq, decide_eq_false_iff_not, bne_iff_ne, bne_eq_false_iff_eq, beq_iff_eq, beq_eq_false_iff_ne, ne_eq, Int.not_lt, Int.not_le, Bool.and_eq_true, Bool.and_eq_false_iff, Bool.or_eq_true, Bool.or_eq_false_iff] at h))))
    · first | refine goC_call [.r, .r] (d_impl_isSlip l (ts.getD j []) (ht j (by omega)) (isSpaceM_q hs)) ?_ | refine goOC_call [.r, .r] (d_impl_isSlip l (ts.getD j []) (ht j (by omega)) (isSpaceM_q hs)) ?_
      repeat' (first | simp (maxSteps := 1000000) (disch := (first | omega | (simp only [List.length_map, List.length_append, List.length_set, List.length_replicate, List.length_cons, List.length_nil, List.length_take, List.length_drop] <;> omega) | fail)) only [go_sem, ints, bools, mat, reduceIte, Nat.reduceEqDiff, Nat.reduceAdd, Nat.reduceBEq, Nat.reduceMul, Nat.reduceLeDiff, Nat.reduceLT, Nat.reduceMod, Nat.reduceDiv, Nat.reduceSub, reduceCtorEq] | ((first | refine goIf_b (fun h => ?_) (fun h => ?_) | refine goG_b (fun h => ?_) (fun h => ?_) | refine goTG_b (fun h => ?_) (fun h => ?_) | refine goOG_b (fun h => ?_) (fun h => ?_)) <;> ((try simp only [Bool.not_eq_true', Bool.not_eq_false'] at h); (try simp only [h]); (try simp only [decide_eq_true_eq, decide_eq_false_iff_not, bne_iff_ne, bne_eq_false_iff_eq, beq_iff_eq, beq_eq_false_iff_ne, ne_eq, Int.not_lt, Int.not_le, Bool.and_eq_true, Bool.and_eq_false_iff, Bool.or_eq_true, Bool.or_eq_false_iff] at h))))
      · refine hJ (j + 1) ⟨by omega, all_ext hi h⟩ (by omega) _ (by (simp (maxSteps := 1000000) (disch := (first | omega | (simp only [List.length_map, List.length_append, List.length_set, List.length_replicate, List.length_cons, List.length_nil, List.length_take, List.length_drop] <;> omega) | fail)) only [go_sem, ints, bools, mat, reduceIte, Nat.reduceEqDiff, Nat.reduceAdd, Nat.reduceBEq, Nat.reduceMul, Nat.reduceLeDiff, Nat.reduceLT, Nat.reduceMod, Nat.reduceDiv, Nat.reduceSub, reduceCtorEq] <;> rfl))
      · rw [if_neg]
        exact fun h' => by have := e.1 h' j (by omega); rw [h] at this; cases this
    · rw [if_pos]
      exact e.2 fun i hi' => hi i (by omega)
@[go_sem] theorem and1_norm {x : Int} (h : 0 ≤ x) : ((x.toNat &&& (1 : Int).toNat : Nat) : Int) = x % 2 := by
  rw [show (1 : Int).toNat = 1 from rfl, and_one_toNat]; omega
def signsN (m : Int) (j : Nat) : List Int := ((List.range j).filter fun d => m / 2 ^ d % 2 == 1).map fun (d : Nat) => (d : Int)
abbrev signsM (m : Int) : List Int := signsN m 4
theorem signsN_step (m : Int) (j : Nat) : signsN m (j + 1) = signsN m j ++ (if m / 2 ^ j % 2 = 1 then [(j : Int)] else []) := by
  simp only [signsN, List.range_succ, List.filter_append, List.map_append]
  congr 1
  by_cases h : m / 2 ^ j % 2 = 1 <;> simp [h]
theorem signsN_len (m : Int) (j : Nat) : (signsN m j).length ≤ j := by
  have := List.length_filter_le (fun d => m / 2 ^ d % 2 == 1) (List.range j)
  simpa [signsN] using this
theorem d_spec_l07Signs (m : Int) (h0 : 0 ≤ m) (h1 : m < 9223372036854775808) : Den PA f_spec_l07Signs [.d (di m)] [.any] (.own 1 ((signsM m).map di)) := by
  refine den_go [] l_spec_l07Signs ?_
  repeat' (first | simp (maxSteps := 1000000) (disch := (first | omega | (simp only [List.length_map, List.length_append, List.length_set, List.length_replicate, List.length_cons, List.length_nil, List.length_take, List.length_drop] <;> omega) | fail)) only [go_sem, ints, bools, mat, reduceIte, Nat.reduceEqDiff, Nat.reduceAdd, Nat.reduceBEq, Nat.reduceMul, Nat.reduceLeDiff, Nat.reduceLT, Nat.reduceMod, Nat.reduceDiv, Nat.reduceSub, reduceCtorEq, c_spec_l07Signs] | ((first | refine goIf_b (fun h => ?_) (fun h => ?_) | refine goG_b (fun h => ?_) (fun h => ?_) | refine goTG_b (fun h => ?_) (fun h => ?_) | refine goOG_b (fun h => ?_) (fun h => ?_)) <;> ((try simp only [Bool.not_eq_true', Bool.not_eq_false'] at h); (try simp only [h]); (try simp only [decide_eq_true_eq, decide_eq_false_iff_not, bne_iff_ne, bne_eq_false_iff_eq, beq_iff_eq, beq_eq_false_iff_ne, ne_eq, Int.not_lt, Int.not_le, Bool.and_eq_true, Bool.and_eq_false_iff, Bool.or_eq_true, Bool.or_eq_false_iff] at h))))
  refine go_loop (fun (j : Nat) => ⟨[(0, .d (di m)), (3, .sl 0 0 (signsN m j).length 1), (4, .d (di j))], [some (.dat 1 ((signsN m j).map di))]⟩) (fun j => j ≤ 4) (fun j => 4 - j) 0 ?_ ?_ ?_
  · (simp (maxSteps := 1000000) (disch := (first | omega | (simp only [List.length_map, List.length_append, List.length_set, List.length_replicate, List.length_cons, List.length_nil, List.length_take, List.length_drop] <;> omega) | fail)) only [go_sem, ints, bools, mat, reduceIte, Nat.reduceEqDiff, Nat.reduceAdd, Nat.reduceBEq, Nat.reduceMul, Nat.reduceLeDiff, Nat.reduceLT, Nat.reduceMod, Nat.reduceDiv, Nat.reduceSub, reduceCtorEq] <;> rfl)
  · simp
  · rintro j hj J hJ
    have hlen := signsN_len m j
    have hd : 0 ≤ m / 2 ^ j ∧ m / 2 ^ j < 9223372036854775808 := by
      have h2 : (1 : Int) ≤ 2 ^ j := (two_pow_lt (by omega)).2
      have := div_le_self h0 h2
      omega
    repeat' (first | simp (maxSteps := 1000000) (disch := (first | omega | (simp only [List.length_map, List.length_append, List.length_set, List.length_replicate, List.length_cons, List.length_nil, List.length_take, List.length_drop] <;> omega) | fail)) only [go_sem, ints, bools, mat, reduceIte, Nat.reduceEqDiff, Nat.reduceAdd, Nat.reduceBEq, Nat.reduceMul, Nat.reduceLeDiff, Nat.reduceLT, Nat.reduceMod, Nat.reduceDiv, Nat.reduceSub, reduceCtorEq] | ((first | refine goIf_b (fun h => ?_) (fun h => ?_) | refine goG_b (fun h => ?_) (fun h => ?_) | refine goTG_b (fun h => ?_) (fun h => ?_) | refine goOG_b (fun h => ?_) (fun h => ?_)) <;> ((try simp only [Bool.not_eq_true', Bool.not_eq_false'] at h); (try simp only [h]); (try simp only [decide_eq_true_eq, decide_eq_false_iff_not, bne_iff_ne, bne_eq_false_iff_eq, beq_iff_eq, beq_eq_false_iff_ne, ne_eq, Int.not_lt, Int.not_le, Bool.and_eq_true, Bool.and_eq_false_iff, Bool.or_eq_true, Bool.or_eq_false_iff] at h))))
    · refine hJ (j + 1) (by omega) (by omega) _ ?_
      simp (maxSteps := 1000000) (disch := (first | omega | (simp only [List.length_map, List.length_append, List.length_set, List.length_replicate, List.length_cons, List.length_nil, List.length_take, List.length_drop] <;> omega) | fail)) only [go_sem, ints, bools, mat, reduceIte, Nat.reduceEqDiff, Nat.reduceAdd, Nat.reduceBEq, Nat.reduceMul, Nat.reduceLeDiff, Nat.reduceLT, Nat.reduceMod, Nat.reduceDiv, Nat.reduceSub, reduceCtorEq]
      rw [signsN_step, if_pos (by assumption)]; simp
    · refine hJ (j + 1) (by omega) (by omega) _ ?_
      simp (maxSteps := 1000000) (disch := (first | omega | (simp only [List.length_map, List.length_append, List.length_set, List.length_replicate, List.length_cons, List.length_nil, List.length_take, List.length_drop] <;> omega) | fail)) only [go_sem, ints, bools, mat, reduceIte, Nat.reduceEqDiff, Nat.reduceAdd, Nat.reduceBEq, Nat.reduceMul, Nat.reduceLeDiff, Nat.reduceLT, Nat.reduceMod, Nat.reduceDiv, Nat.reduceSub, reduceCtorEq]
      rw [signsN_step, if_neg (by assumption)]; simp
    · have : j = 4 := by omega
      subst this; repeat' (first | simp (maxSteps := 1000000) (disch := (first | omega | (simp only [List.length_map, List.length_append, List.length_set, List.length_replicate, List.length_cons, List.length_nil, List.length_take, List.length_drop] <;> omega) | fail)) only [go_sem, ints, bools, mat, reduceIte, Nat.reduceEqDiff, Nat.reduceAdd, Nat.reduceBEq, Nat.reduceMul, Nat.reduceLeDiff, Nat.reduceLT, Nat.reduceMod, Nat.reduceDiv, Nat.reduceSub, reduceCtorEq] | ((first | refine goIf_b (fun h => ?_) (fun h => ?_) | refine goG_b (fun h => ?_) (fun h => ?_) | refine goTG_b (fun h => ?_) (fun h => ?_) | refine goOG_b (fun h => ?_) (fun h => ?_)) <;> ((try simp only [Bool.not_eq_true', Bool.not_eq_false'] at h); (try simp only [h]); (try simp only [decide_eq_true_eq, decide_eq_false_iff_not, bne_iff_ne, bne_eq_false_iff_eq, beq_iff_eq, beq_eq_false_iff_ne, ne_eq, Int.not_lt, Int.not_le, Bool.and_eq_true, Bool.and_eq_false_iff, Bool.or_eq_true, Bool.or_eq_false_iff] at h))))
theorem binA_shr_u {k : IntKind} {a b : Int} (h : 0 ≤ b) (h' : b ≤ 63) : binA .shr (.d (.v (.int .u64 a))) (.d (.v (.int k b))) = some (.d (.v (.int .u64 (a / 2 ^ b.toNat)))) := by
  have e : min b.toNat 64 = b.toNat := by omega
  have h1 : (0 : Int) ≤ 2 ^ b.toNat := Int.pow_nonneg (by omega)
  simp only [binA, binI, BinOp.isShift, true_or, if_true, if_neg (show ¬ b < 0 by omega), IntKind.bits, e, Option.map_some, Int.fdiv_eq_ediv_of_nonneg _ h1]
theorem ofInt_nat_u {a : Int} (h : 0 ≤ a) (h' : a < 18446744073709551616) : (BitVec.ofInt 64 a).toNat = a.toNat := by
  rw [BitVec.toNat_ofInt]; omega
theorem binA_and_u {a b : Int} (h : 0 ≤ a) (h1 : a < 18446744073709551616) (h2 : 0 ≤ b) (h3 : b < 18446744073709551616) :
    binA .and (.d (.v (.int .u64 a))) (.d (.v (.int .u64 b))) = some (.d (.v (.int .u64 ((a.toNat &&& b.toNat : Nat) : Int)))) := by
  have e : (BitVec.ofInt 64 a &&& BitVec.ofInt 64 b).toNat = a.toNat &&& b.toNat := by rw [BitVec.toNat_and, ofInt_nat_u h h1, ofInt_nat_u h2 h3]
  have hl : a.toNat &&& b.toNat < 18446744073709551616 := Nat.lt_of_le_of_lt Nat.and_le_left (by omega)
  have e2 : binI .and .u64 a b = some (.int .u64 (IntKind.wrap .u64 ((BitVec.ofInt 64 a &&& BitVec.ofInt 64 b).toNat : Nat))) := rfl
  simp only [binA, e2, BinOp.isShift, or_true, if_true, e, Option.map_some, wrap_u64 (x := ((a.toNat &&& b.toNat : Nat) : Int)) (by omega) (by omega)]
theorem binA_add_u {a b : Int} (h : 0 ≤ a + b) (h1 : a + b < 18446744073709551616) : binA .add (.d (.v (.int .u64 a))) (.d (.v (.int .u64 b))) = some (.d (.v (.int .u64 (a + b)))) := by
  rw [binA_add, wrap_u64 h h1]
def popM (x : Int) : Int := x % 2 + x / 2 % 2 + x / 4 % 2 + x / 8 % 2
theorem d_OnesCount64 (x : Int) (h0 : 0 ≤ x) (h1 : x < 16) : Den PA f_math_bits_OnesCount64 [.d (.v (.int .u64 x))] [.any] (.d (di (popM x))) := by
  refine den_go [] l_math_bits_OnesCount64 ?_
  have hx : x = 0 ∨ x = 1 ∨ x = 2 ∨ x = 3 ∨ x = 4 ∨ x = 5 ∨ x = 6 ∨ x = 7 ∨ x = 8 ∨ x = 9 ∨ x = 10 ∨ x = 11 ∨ x = 12 ∨ x = 13 ∨ x = 14 ∨ x = 15 := by omega
  clear h0 h1
  rcases hx with rfl | rfl | rfl | rfl | rfl | rfl | rfl | rfl | rfl | rfl | rfl | rfl | rfl | rfl | rfl | rfl
  all_goals (simp (maxSteps := 1000000) (disch := (first | omega | (simp only [List.length_map, List.length_append, List.length_set, List.length_replicate, List.length_cons, List.length_nil, List.length_take, List.length_drop] <;> omega) | fail)) only [go_sem, ints, bools, mat, reduceIte, Nat.reduceEqDiff, Nat.reduceAdd, Nat.reduceBEq, Nat.reduceMul, Nat.reduceLeDiff, Nat.reduceLT, Nat.reduceMod, Nat.reduceDiv, Nat.reduceSub, reduceCtorEq, c_math_bits_OnesCount64, popM, binA_shr_u, binA_and_u, binA_add_u, Int.reduceToNat, Int.reducePow, Int.reduceDiv, Int.reduceMod, Int.reduceAdd, Nat.reduceAnd, Int.reduceNatCast, Int.cast_ofNat_Int])
theorem popM_signs (m : Int) (h0 : 0 ≤ m) (h1 : m < 16) : ((signsM m).length : Int) = popM m := by
  have hx : m = 0 ∨ m = 1 ∨ m = 2 ∨ m = 3 ∨ m = 4 ∨ m = 5 ∨ m = 6 ∨ m = 7 ∨ m = 8 ∨ m = 9 ∨ m = 10 ∨ m = 11 ∨ m = 12 ∨ m = 13 ∨ m = 14 ∨ m = 15 := by omega
  clear h0 h1
  rcases hx with rfl | rfl | rfl | rfl | rfl | rfl | rfl | rfl | rfl | rfl | rfl | rfl | rfl | rfl | rfl | rfl <;> decide
theorem popM_bnd (m : Int) (h0 : 1 ≤ m) (h1 : m < 16) : 1 ≤ popM m ∧ popM m ≤ 4 := by
  have hx : m = 1 ∨ m = 2 ∨ m = 3 ∨ m = 4 ∨ m = 5 ∨ m = 6 ∨ m = 7 ∨ m = 8 ∨ m = 9 ∨ m = 10 ∨ m = 11 ∨ m = 12 ∨ m = 13 ∨ m = 14 ∨ m = 15 := by omega
  clear h0 h1
  rcases hx with rfl | rfl | rfl | rfl | rfl | rfl | rfl | rfl | rfl | rfl | rfl | rfl | rfl | rfl | rfl <;> decide
theorem one_len {t : List Int} (ht : t.length < 1048577) : ∀ j, j < [t].length → ([t].getD j []).length < 1048577 := by
  intro j hj
  have : j = 0 := by simp at hj; exact hj
  subst this; exact ht
/-- How many bets a slip has. -/
def cbM (t : List Int) : Int := prodM (t.map popM)
theorem isSlipM_16 {l t : List Int} (hs : isSpaceM l = true) (h : isSlipM l t = true) : t.length = l.length ∧ ∀ j, j < t.length → 1 ≤ t.getD j 0 ∧ t.getD j 0 < 16 := by
  obtain ⟨h1, h2⟩ := (isSlipM_ok l t).1 h
  refine ⟨h1, fun j hj => ⟨(h2 j hj).1, ?_⟩⟩
  have hq := isSpaceM_q hs j (by omega)
  have h3 := (h2 j hj).2
  have h4 : (2 : Int) ^ (l.getD j 0).toNat ≤ 2 ^ 4 := by
    have h5 : (2 : Nat) ^ (l.getD j 0).toNat ≤ 2 ^ 4 := Nat.pow_le_pow_right (by omega) (by omega)
    exact_mod_cast h5
  omega
theorem cbM_step (t : List Int) {j : Nat} (h : j < t.length) : cbM (t.take (j + 1)) = cbM (t.take j) * popM (t.getD j 0) := by
  rw [take_one t h]; simp [cbM, prodM]
theorem cbM_bnd (t : List Int) : ∀ j, j ≤ t.length → (∀ i, i < j → 1 ≤ t.getD i 0 ∧ t.getD i 0 < 16) → 1 ≤ cbM (t.take j) ∧ cbM (t.take j) ≤ 4 ^ j
  | 0, _, _ => by simp [cbM, prodM]
  | j + 1, hj, h => by
    obtain ⟨h1, h2⟩ := cbM_bnd t j (by omega) (fun i hi => h i (by omega))
    obtain ⟨h3, h4⟩ := h j (by omega)
    obtain ⟨h5, h6⟩ := popM_bnd _ h3 h4
    rw [cbM_step t (by omega)]
    constructor
    · have := Int.mul_le_mul h1 h5 (by omega) (by omega)
      simpa using this
    · rw [Int.pow_succ]
      exact Int.mul_le_mul h2 h6 (by omega) (by omega)
theorem cbM_small (t : List Int) {j : Nat} (h8 : j ≤ 8) (hj : j ≤ t.length) (h : ∀ i, i < t.length → 1 ≤ t.getD i 0 ∧ t.getD i 0 < 16) : 1 ≤ cbM (t.take j) ∧ cbM (t.take j) ≤ 65536 := by
  obtain ⟨h1, h2⟩ := cbM_bnd t j hj (fun i hi => h i (by omega))
  exact ⟨h1, Int.le_trans h2 (pow4 h8)⟩
theorem d_impl_countBets (t : List Int) (h8 : t.length ≤ 8) (ht : ∀ i, i < t.length → 1 ≤ t.getD i 0 ∧ t.getD i 0 < 16) : Den PA f_impl_countBets [.d (ints t)] [.any] (.d (di (cbM t))) := by
  refine den_go [] l_impl_countBets ?_
  repeat' (first | simp (maxSteps := 1000000) (disch := (first | omega | (simp only [List.length_map, List.length_append, List.length_set, List.length_replicate, List.length_cons, List.length_nil, List.length_take, List.length_drop] <;> omega) | fail)) only [go_sem, ints, bools, mat, reduceIte, Nat.reduceEqDiff, Nat.reduceAdd, Nat.reduceBEq, Nat.reduceMul, Nat.reduceLeDiff, Nat.reduceLT, Nat.reduceMod, Nat.reduceDiv, Nat.reduceSub, reduceCtorEq, c_impl_countBets] | ((first | refine goIf_b (fun h => ?_) (fun h => ?_) | refine goG_b (fun h => ?_) (fun h => ?_) | refine goTG_b (fun h => ?_) (fun h => ?_) | refine goOG_b (fun h => ?_) (fun h => ?_)) <;> ((try simp only [Bool.not_eq_true', Bool.not_eq_false'] at h); (try simp only [h]); (try simp only [decide_eq_true_eq, decide_eq_false_iff_not, bne_iff_ne, bne_eq_false_iff_eq, beq_iff_eq, beq_eq_false_iff_ne, ne_eq, Int.not_lt, Int.not_le, Bool.and_eq_true, Bool.and_eq_false_iff, Bool.or_eq_true, Bool.or_eq_false_iff] at h))))
  refine go_loop (fun (j : Nat) => ⟨[(3, .d (di (cbM (t.take j)))), (6, .d (ints t)), (7, .d (di t.length)), (8, .d (di j))], []⟩) (fun j => j ≤ t.length) (fun j => t.length - j) 0 ?_ ?_ ?_
  · (simp (maxSteps := 1000000) (disch := (first | omega | (simp only [List.length_map, List.length_append, List.length_set, List.length_replicate, List.length_cons, List.length_nil, List.length_take, List.length_drop] <;> omega) | fail)) only [go_sem, ints, bools, mat, reduceIte, Nat.reduceEqDiff, Nat.reduceAdd, Nat.reduceBEq, Nat.reduceMul, Nat.reduceLeDiff, Nat.reduceLT, Nat.reduceMod, Nat.reduceDiv, Nat.reduceSub, reduceCtorEq] <;> rfl)
  · simp
  · rintro j hj J hJ
    have hb := cbM_small t (j := j) (by omega) hj ht
    have hb' := fun hj' => cbM_small t (j := j + 1) (by omega) hj' ht
    have hst := fun hj' => cbM_step t (j := j) hj'
    repeat' (first | simp (maxSteps := 1000000) (disch := (first | omega | (simp only [List.length_map, List.length_append, List.length_set, List.length_replicate, List.length_cons, List.length_nil, List.length_take, List.length_drop] <;> omega) | fail)) only [go_sem, ints, bools, mat, reduceIte, Nat.reduceEqDiff, Nat.reduceAdd, Nat.reduceBEq, Nat.reduceMul, Nat.reduceLeDiff, Nat.reduceLT, Nat.reduceMod, Nat.reduceDiv, Nat.reduceSub, reduceCtorEq] | ((first | refine goIf_b (fun h => ?_) (fun h => ?_) | refine goG_b (fun h => ?_) (fun h => ?_) | refine goTG_b (fun h => ?_) (fun h => ?_) | refine goOG_b (fun h => ?_) (fun h => ?_)) <;> ((try simp only [Bool.not_eq_true', Bool.not_eq_false'] at h); (try simp only [h]); (try simp only [decide_eq_true_eq, decide_eq_false_iff_not, bne_iff_ne, bne_eq_false_iff_eq, beq_iff_eq, beq_eq_false_iff_ne, ne_eq, Int.not_lt, Int.not_le, Bool.and_eq_true, Bool.and_eq_false_iff, Bool.or_eq_true, Bool.or_eq_false_iff] at h))))
    · have h1 := hb' (by omega)
      have h2 := ht j (by omega)
      rw [hst (by omega)] at h1
      repeat' (first | simp (maxSteps := 1000000) (disch := (first | omega | (simp only [List.length_map, List.length_append, List.length_set, List.length_replicate, List.length_cons, List.length_nil, List.length_take, List.length_drop] <;> omega) | fail)) only [go_sem, ints, bools, mat, reduceIte, Nat.reduceEqDiff, Nat.reduceAdd, Nat.reduceBEq, Nat.reduceMul, Nat.reduceLeDiff, Nat.reduceLT, Nat.reduceMod, Nat.reduceDiv, Nat.reduceSub, reduceCtorEq] | ((first | refine goIf_b (fun h => ?_) (fun h => ?_) | refine goG_b (fun h => ?_) (fun h => ?_) | refine goTG_b (fun h => ?_) (fun h => ?_) | refine goOG_b (fun h => ?_) (fun h => ?_)) <;> ((try simp only [Bool.not_eq_true', Bool.not_eq_false'] at h); (try simp only [h]); (try simp only [decide_eq_true_eq, decide_eq_false_iff_not, bne_iff_ne, bne_eq_false_iff_eq, beq_iff_eq, beq_eq_false_iff_ne, ne_eq, Int.not_lt, Int.not_le, Bool.and_eq_true, Bool.and_eq_false_iff, Bool.or_eq_true, Bool.or_eq_false_iff] at h))))
      first | refine goC_call [.r] (d_OnesCount64 (t.getD j 0) (by omega) (by omega)) ?_ | refine goOC_call [.r] (d_OnesCount64 (t.getD j 0) (by omega) (by omega)) ?_
      repeat' (first | simp (maxSteps := 1000000) (disch := (first | omega | (simp only [List.length_map, List.length_append, List.length_set, List.length_replicate, List.length_cons, List.length_nil, List.length_take, List.length_drop] <;> omega) | fail)) only [go_sem, ints, bools, mat, reduceIte, Nat.reduceEqDiff, Nat.reduceAdd, Nat.reduceBEq, Nat.reduceMul, Nat.reduceLeDiff, Nat.reduceLT, Nat.reduceMod, Nat.reduceDiv, Nat.reduceSub, reduceCtorEq] | ((first | refine goIf_b (fun h => ?_) (fun h => ?_) | refine goG_b (fun h => ?_) (fun h => ?_) | refine goTG_b (fun h => ?_) (fun h => ?_) | refine goOG_b (fun h => ?_) (fun h => ?_)) <;> ((try simp only [Bool.not_eq_true', Bool.not_eq_false'] at h); (try simp only [h]); (try simp only [decide_eq_true_eq, decide_eq_false_iff_not, bne_iff_ne, bne_eq_false_iff_eq, beq_iff_eq, beq_eq_false_iff_ne, ne_eq, Int.not_lt, Int.not_le, Bool.and_eq_true, Bool.and_eq_false_iff, Bool.or_eq_true, Bool.or_eq_false_iff] at h))))
      refine hJ (j + 1) (by omega) (by omega) _ ?_
      simp (maxSteps := 1000000) (disch := (first | omega | (simp only [List.length_map, List.length_append, List.length_set, List.length_replicate, List.length_cons, List.length_nil, List.length_take, List.length_drop] <;> omega) | fail)) only [go_sem, ints, bools, mat, reduceIte, Nat.reduceEqDiff, Nat.reduceAdd, Nat.reduceBEq, Nat.reduceMul, Nat.reduceLeDiff, Nat.reduceLT, Nat.reduceMod, Nat.reduceDiv, Nat.reduceSub, reduceCtorEq]
      rw [hst (by omega)]; rfl
theorem scM_ok {l : List Int} {ts : List (List Int)} (h : scM l ts = 0) : isSpaceM l = true ∧ ∀ t, t ∈ ts → isSlipM l t = true := by
  unfold scM at h
  split at h
  · rename_i hs
    split at h
    · rename_i hw
      exact ⟨hs, fun t ht => List.all_eq_true.1 hw t ht⟩
    · cases h
  · cases h
abbrev cbR (l t : List Int) : R := .tup [.d (di (if scM l [t] = 0 then cbM t else 0)), .d (di (scM l [t]))]
theorem d_impl_CountBets (l t : List Int) (hl : l.length < 1048577) (ht : t.length < 1048577) : Den PA f_impl_CountBets [.d (.agg [ints l]), .d (ints t)] [.any, .any] (cbR l t) := by
  refine den_go [] l_impl_CountBets ?_
  repeat' (first | simp (maxSteps := 1000000) (disch := (first | omega | (simp only [List.length_map, List.length_append, List.length_set, List.length_replicate, List.length_cons, List.length_nil, List.length_take, List.length_drop] <;> omega) | fail)) only [go_sem, ints, bools, mat, reduceIte, Nat.reduceEqDiff, Nat.reduceAdd, Nat.reduceBEq, Nat.reduceMul, Nat.reduceLeDiff, Nat.reduceLT, Nat.reduceMod, Nat.reduceDiv, Nat.reduceSub, reduceCtorEq, c_impl_CountBets, cbR] | ((first | refine goIf_b (fun h => ?_) (fun h => ?_) | refine goG_b (fun h => ?_) (fun h => ?_) | refine goTG_b (fun h => ?_) (fun h => ?_) | refine goOG_b (fun h => ?_) (fun h => ?_)) <;> ((try simp only [Bool.not_eq_true', Bool.not_eq_false'] at h); (try simp only [h]); (try simp only [decide_eq_true_eq, decide_eq_false_iff_not, bne_iff_ne, bne_eq_false_iff_eq, beq_iff_eq, beq_eq_false_iff_ne, ne_eq, Int.not_lt, Int.not_le, Bool.and_eq_true, Bool.and_eq_false_iff, Bool.or_eq_true, Bool.or_eq_false_iff] at h))))
  first | refine goC_call [.r, .r] (d_impl_slipCode l hl [t] (by simp) (one_len ht)) ?_ | refine goOC_call [.r, .r] (d_impl_slipCode l hl [t] (by simp) (one_len ht)) ?_
  by_cases h : scM l [t] = 0
  · obtain ⟨hs, hw⟩ := scM_ok h
    obtain ⟨h1, h2⟩ := isSlipM_16 hs (hw t (by simp))
    have hn := isSpaceM_n hs
    rw [h]
    repeat' (first | simp (maxSteps := 1000000) (disch := (first | omega | (simp only [List.length_map, List.length_append, List.length_set, List.length_replicate, List.length_cons, List.length_nil, List.length_take, List.length_drop] <;> omega) | fail)) only [go_sem, ints, bools, mat, reduceIte, Nat.reduceEqDiff, Nat.reduceAdd, Nat.reduceBEq, Nat.reduceMul, Nat.reduceLeDiff, Nat.reduceLT, Nat.reduceMod, Nat.reduceDiv, Nat.reduceSub, reduceCtorEq] | ((first | refine goIf_b (fun h => ?_) (fun h => ?_) | refine goG_b (fun h => ?_) (fun h => ?_) | refine goTG_b (fun h => ?_) (fun h => ?_) | refine goOG_b (fun h => ?_) (fun h => ?_)) <;> ((try simp only [Bool.not_eq_true', Bool.not_eq_false'] at h); (try simp only [h]); (try simp only [decide_eq_true_eq, decide_eq_false_iff_not, bne_iff_ne, bne_eq_false_iff_eq, beq_iff_eq, beq_eq_false_iff_ne, ne_eq, Int.not_lt, Int.not_le, Bool.and_eq_true, Bool.and_eq_false_iff, Bool.or_eq_true, Bool.or_eq_false_iff] at h))))
    first | refine goC_call [.r] (d_impl_countBets t (by omega) h2) ?_ | refine goOC_call [.r] (d_impl_countBets t (by omega) h2) ?_
    repeat' (first | simp (maxSteps := 1000000) (disch := (first | omega | (simp only [List.length_map, List.length_append, List.length_set, List.length_replicate, List.length_cons, List.length_nil, List.length_take, List.length_drop] <;> omega) | fail)) only [go_sem, ints, bools, mat, reduceIte, Nat.reduceEqDiff, Nat.reduceAdd, Nat.reduceBEq, Nat.reduceMul, Nat.reduceLeDiff, Nat.reduceLT, Nat.reduceMod, Nat.reduceDiv, Nat.reduceSub, reduceCtorEq] | ((first | refine goIf_b (fun h => ?_) (fun h => ?_) | refine goG_b (fun h => ?_) (fun h => ?_) | refine goTG_b (fun h => ?_) (fun h => ?_) | refine goOG_b (fun h => ?_) (fun h => ?_)) <;> ((try simp only [Bool.not_eq_true', Bool.not_eq_false'] at h); (try simp only [h]); (try simp only [decide_eq_true_eq, decide_eq_false_iff_not, bne_iff_ne, bne_eq_false_iff_eq, beq_iff_eq, beq_eq_false_iff_ne, ne_eq, Int.not_lt, Int.not_le, Bool.and_eq_true, Bool.and_eq_false_iff, Bool.or_eq_true, Bool.or_eq_false_iff] at h))))
  · rw [if_neg h]
    generalize scM l [t] = c at h
    repeat' (first | simp (maxSteps := 1000000) (disch := (first | omega | (simp only [List.length_map, List.length_append, List.length_set, List.length_replicate, List.length_cons, List.length_nil, List.length_take, List.length_drop] <;> omega) | fail)) only [go_sem, ints, bools, mat, reduceIte, Nat.reduceEqDiff, Nat.reduceAdd, Nat.reduceBEq, Nat.reduceMul, Nat.reduceLeDiff, Nat.reduceLT, Nat.reduceMod, Nat.reduceDiv, Nat.reduceSub, reduceCtorEq] | ((first | refine goIf_b (fun h => ?_) (fun h => ?_) | refine goG_b (fun h => ?_) (fun h => ?_) | refine goTG_b (fun h => ?_) (fun h => ?_) | refine goOG_b (fun h => ?_) (fun h => ?_)) <;> ((try simp only [Bool.not_eq_true', Bool.not_eq_false'] at h); (try simp only [h]); (try simp only [decide_eq_true_eq, decide_eq_false_iff_not, bne_iff_ne, bne_eq_false_iff_eq, beq_iff_eq, beq_eq_false_iff_ne, ne_eq, Int.not_lt, Int.not_le, Bool.and_eq_true, Bool.and_eq_false_iff, Bool.or_eq_true, Bool.or_eq_false_iff] at h))))
    · omega
theorem d_spec_CountBets (l t : List Int) (hl : l.length < 1048577) (ht : t.length < 1048577) : Den PA f_spec_CountBets [.d (.agg [ints l]), .d (ints t)] [.any, .any] (cbR l t) := by
  refine den_go [] l_spec_CountBets ?_
  repeat' (first | simp (maxSteps := 1000000) (disch := (first | omega | (simp only [List.length_map, List.length_append, List.length_set, List.length_replicate, List.length_cons, List.length_nil, List.length_take, List.length_drop] <;> omega) | fail)) only [go_sem, ints, bools, mat, reduceIte, Nat.reduceEqDiff, Nat.reduceAdd, Nat.reduceBEq, Nat.reduceMul, Nat.reduceLeDiff, Nat.reduceLT, Nat.reduceMod, Nat.reduceDiv, Nat.reduceSub, reduceCtorEq, c_spec_CountBets, cbR] | ((first | refine goIf_b (fun h => ?_) (fun h => ?_) | refine goG_b (fun h => ?_) (fun h => ?_) | refine goTG_b (fun h => ?_) (fun h => ?_) | refine goOG_b (fun h => ?_) (fun h => ?_)) <;> ((try simp only [Bool.not_eq_true', Bool.not_eq_false'] at h); (try simp only [h]); (try simp only [decide_eq_true_eq, decide_eq_false_iff_not, bne_iff_ne, bne_eq_false_iff_eq, beq_iff_eq, beq_eq_false_iff_ne, ne_eq, Int.not_lt, Int.not_le, Bool.and_eq_true, Bool.and_eq_false_iff, Bool.or_eq_true, Bool.or_eq_false_iff] at h))))
  first | refine goC_call [.r, .r] (d_spec_l07Code l hl [t] (by simp) (one_len ht)) ?_ | refine goOC_call [.r, .r] (d_spec_l07Code l hl [t] (by simp) (one_len ht)) ?_
  by_cases h : scM l [t] = 0
  · obtain ⟨hs, hw⟩ := scM_ok h
    obtain ⟨h1, h2⟩ := isSlipM_16 hs (hw t (by simp))
    have hn := isSpaceM_n hs
    rw [h]
    repeat' (first | simp (maxSteps := 1000000) (disch := (first | omega | (simp only [List.length_map, List.length_append, List.length_set, List.length_replicate, List.length_cons, List.length_nil, List.length_take, List.length_drop] <;> omega) | fail)) only [go_sem, ints, bools, mat, reduceIte, Nat.reduceEqDiff, Nat.reduceAdd, Nat.reduceBEq, Nat.reduceMul, Nat.reduceLeDiff, Nat.reduceLT, Nat.reduceMod, Nat.reduceDiv, Nat.reduceSub, reduceCtorEq] | ((first | refine goIf_b (fun h => ?_) (fun h => ?_) | refine goG_b (fun h => ?_) (fun h => ?_) | refine goTG_b (fun h => ?_) (fun h => ?_) | refine goOG_b (fun h => ?_) (fun h => ?_)) <;> ((try simp only [Bool.not_eq_true', Bool.not_eq_false'] at h); (try simp only [h]); (try simp only [decide_eq_true_eq, decide_eq_false_iff_not, bne_iff_ne, bne_eq_false_iff_eq, beq_iff_eq, beq_eq_false_iff_ne, ne_eq, Int.not_lt, Int.not_le, Bool.and_eq_true, Bool.and_eq_false_iff, Bool.or_eq_true, Bool.or_eq_false_iff] at h))))
    refine go_loop (fun (j : Nat) => ⟨[(1, .d (ints t)), (7, .d (di (cbM (t.take j)))), (17, .d (di t.length)), (18, .d (di j))], []⟩) (fun j => j ≤ t.length) (fun j => t.length - j) 0 ?_ ?_ ?_
    · (simp (maxSteps := 1000000) (disch := (first | omega | (simp only [List.length_map, List.length_append, List.length_set, List.length_replicate, List.length_cons, List.length_nil, List.length_take, List.length_drop] <;> omega) | fail)) only [go_sem, ints, bools, mat, reduceIte, Nat.reduceEqDiff, Nat.reduceAdd, Nat.reduceBEq, Nat.reduceMul, Nat.reduceLeDiff, Nat.reduceLT, Nat.reduceMod, Nat.reduceDiv, Nat.reduceSub, reduceCtorEq] <;> rfl)
    · simp
    · rintro j hj J hJ
      have hb := cbM_small t (j := j) (by omega) hj h2
      have hb' := fun hj' => cbM_small t (j := j + 1) (by omega) hj' h2
      have hst := fun hj' => cbM_step t (j := j) hj'
      repeat' (first | simp (maxSteps := 1000000) (disch := (first | omega | (simp only [List.length_map, List.length_append, List.length_set, List.length_replicate, List.length_cons, List.length_nil, List.length_take, List.length_drop] <;> omega) | fail)) only [go_sem, ints, bools, mat, reduceIte, Nat.reduceEqDiff, Nat.reduceAdd, Nat.reduceBEq, Nat.reduceMul, Nat.reduceLeDiff, Nat.reduceLT, Nat.reduceMod, Nat.reduceDiv, Nat.reduceSub, reduceCtorEq] | ((first | refine goIf_b (fun h => ?_) (fun h => ?_) | refine goG_b (fun h => ?_) (fun h => ?_) | refine goTG_b (fun h => ?_) (fun h => ?_) | refine goOG_b (fun h => ?_) (fun h => ?_)) <;> ((try simp only [Bool.not_eq_true', Bool.not_eq_false'] at h); (try simp only [h]); (try simp only [decide_eq_true_eq, decide_eq_false_iff_not, bne_iff_ne, bne_eq_false_iff_eq, beq_iff_eq, beq_eq_false_iff_ne, ne_eq, Int.not_lt, Int.not_le, Bool.and_eq_true, Bool.and_eq_false_iff, Bool.or_eq_true, Bool.or_eq_false_iff] at h))))
      · have h1 := hb' (by omega)
        have h3 := h2 j (by omega)
        have h4 := popM_signs (t.getD j 0) (by omega) (by omega)
        rw [hst (by omega), ← h4] at h1
        repeat' (first | simp (maxSteps := 1000000) (disch := (first | omega | (simp only [List.length_map, List.length_append, List.length_set, List.length_replicate, List.length_cons, List.length_nil, List.length_take, List.length_drop] <;> omega) | fail)) only [go_sem, ints, bools, mat, reduceIte, Nat.reduceEqDiff, Nat.reduceAdd, Nat.reduceBEq, Nat.reduceMul, Nat.reduceLeDiff, Nat.reduceLT, Nat.reduceMod, Nat.reduceDiv, Nat.reduceSub, reduceCtorEq] | ((first | refine goIf_b (fun h => ?_) (fun h => ?_) | refine goG_b (fun h => ?_) (fun h => ?_) | refine goTG_b (fun h => ?_) (fun h => ?_) | refine goOG_b (fun h => ?_) (fun h => ?_)) <;> ((try simp only [Bool.not_eq_true', Bool.not_eq_false'] at h); (try simp only [h]); (try simp only [decide_eq_true_eq, decide_eq_false_iff_not, bne_iff_ne, bne_eq_false_iff_eq, beq_iff_eq, beq_eq_false_iff_ne, ne_eq, Int.not_lt, Int.not_le, Bool.and_eq_true, Bool.and_eq_false_iff, Bool.or_eq_true, Bool.or_eq_false_iff] at h))))
        first | refine goC_call [.r] (d_spec_l07Signs (t.getD j 0) (by omega) (by omega)) ?_ | refine goOC_call [.r] (d_spec_l07Signs (t.getD j 0) (by omega) (by omega)) ?_
        repeat' (first | simp (maxSteps := 1000000) (disch := (first | omega | (simp only [List.length_map, List.length_append, List.length_set, List.length_replicate, List.length_cons, List.length_nil, List.length_take, List.length_drop] <;> omega) | fail)) only [go_sem, ints, bools, mat, reduceIte, Nat.reduceEqDiff, Nat.reduceAdd, Nat.reduceBEq, Nat.reduceMul, Nat.reduceLeDiff, Nat.reduceLT, Nat.reduceMod, Nat.reduceDiv, Nat.reduceSub, reduceCtorEq] | ((first | refine goIf_b (fun h => ?_) (fun h => ?_) | refine goG_b (fun h => ?_) (fun h => ?_) | refine goTG_b (fun h => ?_) (fun h => ?_) | refine goOG_b (fun h => ?_) (fun h => ?_)) <;> ((try simp only [Bool.not_eq_true', Bool.not_eq_false'] at h); (try simp only [h]); (try simp only [decide_eq_true_eq, decide_eq_false_iff_not, bne_iff_ne, bne_eq_false_iff_eq, beq_iff_eq, beq_eq_false_iff_ne, ne_eq, Int.not_lt, Int.not_le, Bool.and_eq_true, Bool.and_eq_false_iff, Bool.or_eq_true, Bool.or_eq_false_iff] at h))))
        refine hJ (j + 1) (by omega) (by omega) _ ?_
        simp (maxSteps := 1000000) (disch := (first | omega | (simp only [List.length_map, List.length_append, List.length_set, List.length_replicate, List.length_cons, List.length_nil, List.length_take, List.length_drop] <;> omega) | fail)) only [go_sem, ints, bools, mat, reduceIte, Nat.reduceEqDiff, Nat.reduceAdd, Nat.reduceBEq, Nat.reduceMul, Nat.reduceLeDiff, Nat.reduceLT, Nat.reduceMod, Nat.reduceDiv, Nat.reduceSub, reduceCtorEq]
        rw [hst (by omega), ← h4]; rfl
  · rw [if_neg h]
    generalize scM l [t] = c at h
    repeat' (first | simp (maxSteps := 1000000) (disch := (first | omega | (simp only [List.length_map, List.length_append, List.length_set, List.length_replicate, List.length_cons, List.length_nil, List.length_take, List.length_drop] <;> omega) | fail)) only [go_sem, ints, bools, mat, reduceIte, Nat.reduceEqDiff, Nat.reduceAdd, Nat.reduceBEq, Nat.reduceMul, Nat.reduceLeDiff, Nat.reduceLT, Nat.reduceMod, Nat.reduceDiv, Nat.reduceSub, reduceCtorEq] | ((first | refine goIf_b (fun h => ?_) (fun h => ?_) | refine goG_b (fun h => ?_) (fun h => ?_) | refine goTG_b (fun h => ?_) (fun h => ?_) | refine goOG_b (fun h => ?_) (fun h => ?_)) <;> ((try simp only [Bool.not_eq_true', Bool.not_eq_false'] at h); (try simp only [h]); (try simp only [decide_eq_true_eq, decide_eq_false_iff_not, bne_iff_ne, bne_eq_false_iff_eq, beq_iff_eq, beq_eq_false_iff_ne, ne_eq, Int.not_lt, Int.not_le, Bool.and_eq_true, Bool.and_eq_false_iff, Bool.or_eq_true, Bool.or_eq_false_iff] at h))))
    · omega
theorem d_laws_FnExactCountBets (x : D) (l : List Int) (hx : IsInts x l) (hl : l.length ≤ maxLen) (_ : ∀ n, n ∈ l → in64 n) (y : D) (t : List Int) (hy : IsInts y t) (ht : t.length ≤ maxLen) (_ : ∀ n, n ∈ t → in64 n) :
    Den PA f_laws_FnExactCountBets [.d (.agg [x]), .d y] [.any, .any] (.d (db true)) := by
  have ly := lenA_is hy
  refine den_go [] l_laws_FnExactCountBets ?_
  repeat' (first | simp (maxSteps := 1000000) (disch := (first | omega | (simp only [List.length_map, List.length_append, List.length_set, List.length_replicate, List.length_cons, List.length_nil, List.length_take, List.length_drop] <;> omega) | fail)) only [go_sem, ints, bools, mat, reduceIte, Nat.reduceEqDiff, Nat.reduceAdd, Nat.reduceBEq, Nat.reduceMul, Nat.reduceLeDiff, Nat.reduceLT, Nat.reduceMod, Nat.reduceDiv, Nat.reduceSub, reduceCtorEq, c_laws_FnExactCountBets, ly] | ((first | refine goIf_b (fun h => ?_) (fun h => ?_) | refine goG_b (fun h => ?_) (fun h => ?_) | refine goTG_b (fun h => ?_) (fun h => ?_) | refine goOG_b (fun h => ?_) (fun h => ?_)) <;> ((try simp only [Bool.not_eq_true', Bool.not_eq_false'] at h); (try simp only [h]); (try simp only [decide_eq_true_eq, decide_eq_false_iff_not, bne_iff_ne, bne_eq_false_iff_eq, beq_iff_eq, beq_eq_false_iff_ne, ne_eq, Int.not_lt, Int.not_le, Bool.and_eq_true, Bool.and_eq_false_iff, Bool.or_eq_true, Bool.or_eq_false_iff] at h))))
  first | refine goC_call [.r, .r] (d_laws_szSpace x l hx 1048576 hl (by omega) (by omega)) ?_ | refine goOC_call [.r, .r] (d_laws_szSpace x l hx 1048576 hl (by omega) (by omega)) ?_
  repeat' (first | simp (maxSteps := 1000000) (disch := (first | omega | (simp only [List.length_map, List.length_append, List.length_set, List.length_replicate, List.length_cons, List.length_nil, List.length_take, List.length_drop] <;> omega) | fail)) only [go_sem, ints, bools, mat, reduceIte, Nat.reduceEqDiff, Nat.reduceAdd, Nat.reduceBEq, Nat.reduceMul, Nat.reduceLeDiff, Nat.reduceLT, Nat.reduceMod, Nat.reduceDiv, Nat.reduceSub, reduceCtorEq] | ((first | refine goIf_b (fun h => ?_) (fun h => ?_) | refine goG_b (fun h => ?_) (fun h => ?_) | refine goTG_b (fun h => ?_) (fun h => ?_) | refine goOG_b (fun h => ?_) (fun h => ?_)) <;> ((try simp only [Bool.not_eq_true', Bool.not_eq_false'] at h); (try simp only [h]); (try simp only [decide_eq_true_eq, decide_eq_false_iff_not, bne_iff_ne, bne_eq_false_iff_eq, beq_iff_eq, beq_eq_false_iff_ne, ne_eq, Int.not_lt, Int.not_le, Bool.and_eq_true, Bool.and_eq_false_iff, Bool.or_eq_true, Bool.or_eq_false_iff] at h))))
  have hl2 := sz_ok h
  repeat' (first | simp (maxSteps := 1000000) (disch := (first | omega | (simp only [List.length_map, List.length_append, List.length_set, List.length_replicate, List.length_cons, List.length_nil, List.length_take, List.length_drop] <;> omega) | fail)) only [go_sem, ints, bools, mat, reduceIte, Nat.reduceEqDiff, Nat.reduceAdd, Nat.reduceBEq, Nat.reduceMul, Nat.reduceLeDiff, Nat.reduceLT, Nat.reduceMod, Nat.reduceDiv, Nat.reduceSub, reduceCtorEq, cbR] | ((first | refine goIf_b (fun h => ?_) (fun h => ?_) | refine goG_b (fun h => ?_) (fun h => ?_) | refine goTG_b (fun h => ?_) (fun h => ?_) | refine goOG_b (fun h => ?_) (fun h => ?_)) <;> ((try simp only [Bool.not_eq_true', Bool.not_eq_false'] at h); (try simp only [h]); (try simp only [decide_eq_true_eq, decide_eq_false_iff_not, bne_iff_ne, bne_eq_false_iff_eq, beq_iff_eq, beq_eq_false_iff_ne, ne_eq, Int.not_lt, Int.not_le, Bool.and_eq_true, Bool.and_eq_false_iff, Bool.or_eq_true, Bool.or_eq_false_iff] at h)) <;> (try (exfalso; omega))) | refine goC_call [.r] (d_laws_toSpace x l hx (by omega)) ?_ | refine goOC_call [.r] (d_laws_toSpace x l hx (by omega)) ?_ | refine goC_call [.r] (d_laws_toSlip y t hy (by omega)) ?_ | refine goOC_call [.r] (d_laws_toSlip y t hy (by omega)) ?_ | refine goC_call [.r, .r] (d_spec_CountBets l t (by omega) (by omega)) ?_ | refine goOC_call [.r, .r] (d_spec_CountBets l t (by omega) (by omega)) ?_ | refine goC_call [.r, .r] (d_impl_CountBets l t (by omega) (by omega)) ?_ | refine goOC_call [.r, .r] (d_impl_CountBets l t (by omega) (by omega)) ?_ | refine goC_call [.r, .r] (d_laws_eqSpace l l (by omega)) ?_ | refine goOC_call [.r, .r] (d_laws_eqSpace l l (by omega)) ?_ | refine goC_call [.r, .r] (d_laws_eqSlip t t (by omega)) ?_ | refine goOC_call [.r, .r] (d_laws_eqSlip t t (by omega)) ?_)
end Go.Proofs.Ytalokfkgggfpkaa.Va
