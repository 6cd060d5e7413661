/- Contracts of the functions that FnExactHitsOf reaches, and the law's own. Condition: none. -/
import Derived.Test.YtalokfkgggfpkaaCHitsOf
set_option linter.all false
set_option linter.unusedSimpArgs false
set_option linter.unusedVariables false
namespace Go.Proofs.Ytalokfkgggfpkaa.Va
open Go
set_option maxHeartbeats 1000000
theorem d_spec_l01In (a lo hi : Int) : Den PA f_spec_l01In [.d (di a), .d (di lo), .d (di hi)] [.any, .any, .any] (.d (db (decide (lo ≤ a) && decide (a ≤ hi)))) := by
  refine den_go [] l_spec_l01In ?_
  repeat' (first | simp (maxSteps := 1000000) (disch := (first | omega | (simp only [List.length_map, List.length_append, List.length_set, List.length_replicate, List.length_cons, List.length_nil, List.length_take, List.length_drop] <;> omega) | fail)) only [go_sem, ints, bools, mat, reduceIte, Nat.reduceEqDiff, Nat.reduceAdd, Nat.reduceBEq, Nat.reduceMul, Nat.reduceLeDiff, Nat.reduceLT, Nat.reduceMod, Nat.reduceDiv, Nat.reduceSub, reduceCtorEq, c_spec_l01In] | ((first | refine goIf_b (fun h => ?_) (fun h => ?_) | refine goG_b (fun h => ?_) (fun h => ?_) | refine goTG_b (fun h => ?_) (fun h => ?_) | refine goOG_b (fun h => ?_) (fun h => ?_)) <;> ((try simp only [Bool.not_eq_true', Bool.not_eq_false'] at h); (try simp only [h]); (try simp only [decide_eq_true_eq, decide_eq_false_iff_not, bne_iff_ne, bne_eq_false_iff_eq, beq_iff_eq, beq_eq_false_iff_ne, ne_eq, Int.not_lt, Int.not_le, Bool.and_eq_true, Bool.and_eq_false_iff, Bool.or_eq_true, Bool.or_eq_false_iff] at h))))
theorem d_laws_szInt64S (x : D) (l : List Int) (hx : IsInts x l) (left : Int) (hl : l.length ≤ maxLen) (h0 : 0 ≤ left) (h1 : left ≤ 1048576) :
    Den PA f_laws_szInt64S [.d x, .d (di left)] [.any, .any] (.d (di (if left < l.length then -1 else left - l.length))) := by
  have hm : maxLen = 9223372036854775807 := rfl
  refine den_go [] l_laws_szInt64S ?_
  rcases hx with rfl | ⟨rfl, rfl⟩
  all_goals repeat' (first | simp (maxSteps := 1000000) (disch := (first | omega | (simp only [List.length_map, List.length_append, List.length_set, List.length_replicate, List.length_cons, List.length_nil, List.length_take, List.length_drop] <;> omega) | fail)) only [go_sem, ints, bools, mat, reduceIte, Nat.reduceEqDiff, Nat.reduceAdd, Nat.reduceBEq, Nat.reduceMul, Nat.reduceLeDiff, Nat.reduceLT, Nat.reduceMod, Nat.reduceDiv, Nat.reduceSub, reduceCtorEq, c_laws_szInt64S] | ((first | refine goIf_b (fun h => ?_) (fun h => ?_) | refine goG_b (fun h => ?_) (fun h => ?_) | refine goTG_b (fun h => ?_) (fun h => ?_) | refine goOG_b (fun h => ?_) (fun h => ?_)) <;> ((try simp only [Bool.not_eq_true', Bool.not_eq_false'] at h); (try simp only [h]); (try simp only [decide_eq_true_eq, decide_eq_false_iff_not, bne_iff_ne, bne_eq_false_iff_eq, beq_iff_eq, beq_eq_false_iff_ne, ne_eq, Int.not_lt, Int.not_le, Bool.and_eq_true, Bool.and_eq_false_iff, Bool.or_eq_true, Bool.or_eq_false_iff] at h))))
  · rw [if_pos (by omega)]
  · rw [if_neg (by omega)]
  · exfalso; omega
  · refine div ?_
    rw [if_neg (by simp; omega)]; rfl
theorem d_laws_eqInt64S (l m : List Int) (hl : l.length < 1048577) :
    Den PA f_laws_eqInt64S [.d (ints l), .d (ints m)] [.any, .any] (.d (db (decide (l = m)))) := by
  refine den_go [] l_laws_eqInt64S ?_
  repeat' (first | simp (maxSteps := 1000000) (disch := (first | omega | (simp only [List.length_map, List.length_append, List.length_set, List.length_replicate, List.length_cons, List.length_nil, List.length_take, List.length_drop] <;> omega) | fail)) only [go_sem, ints, bools, mat, reduceIte, Nat.reduceEqDiff, Nat.reduceAdd, Nat.reduceBEq, Nat.reduceMul, Nat.reduceLeDiff, Nat.reduceLT, Nat.reduceMod, Nat.reduceDiv, Nat.reduceSub, reduceCtorEq, c_laws_eqInt64S] | ((first | refine goIf_b (fun h => ?_) (fun h => ?_) | refine goG_b (fun h => ?_) (fun h => ?_) | refine goTG_b (fun h => ?_) (fun h => ?_) | refine goOG_b (fun h => ?_) (fun h => ?_)) <;> ((try simp only [Bool.not_eq_true', Bool.not_eq_false'] at h); (try simp only [h]); (try simp only [decide_eq_true_eq, decide_eq_false_iff_not, bne_iff_ne, bne_eq_false_iff_eq, beq_iff_eq, beq_eq_false_iff_ne, ne_eq, Int.not_lt, Int.not_le, Bool.and_eq_true, Bool.and_eq_false_iff, Bool.or_eq_true, Bool.or_eq_false_iff] at h))))
  · exact dbF fun e => by have := of_decide_eq_true e; subst this; exact h rfl
  refine go_loop (fun (j : Nat) => ⟨[(0, .d (ints l)), (1, .d (ints m)), (5, .d (di j))], []⟩) (fun j => j ≤ l.length ∧ ∀ i, i < j → l.getD i 0 = m.getD i 0) (fun j => l.length - j) 0 ?_ ?_ ?_
  · simp (maxSteps := 1000000) (disch := (first | omega | (simp only [List.length_map, List.length_append, List.length_set, List.length_replicate, List.length_cons, List.length_nil, List.length_take, List.length_drop] <;> omega) | fail)) only [go_sem, ints, bools, mat, reduceIte, Nat.reduceEqDiff, Nat.reduceAdd, Nat.reduceBEq, Nat.reduceMul, Nat.reduceLeDiff, Nat.reduceLT, Nat.reduceMod, Nat.reduceDiv, Nat.reduceSub, reduceCtorEq]; rfl
  · simp
  · rintro j ⟨hj, hi⟩ J hJ
    repeat' (first | simp (maxSteps := 1000000) (disch := (first | omega | (simp only [List.length_map, List.length_append, List.length_set, List.length_replicate, List.length_cons, List.length_nil, List.length_take, List.length_drop] <;> omega) | fail)) only [go_sem, ints, bools, mat, reduceIte, Nat.reduceEqDiff, Nat.reduceAdd, Nat.reduceBEq, Nat.reduceMul, Nat.reduceLeDiff, Nat.reduceLT, Nat.reduceMod, Nat.reduceDiv, Nat.reduceSub, reduceCtorEq] | ((first | refine goIf_b (fun h => ?_) (fun h => ?_) | refine goG_b (fun h => ?_) (fun h => ?_) | refine goTG_b (fun h => ?_) (fun h => ?_) | refine goOG_b (fun h => ?_) (fun h => ?_)) <;> ((try simp only [Bool.not_eq_true', Bool.not_eq_false'] at h); (try simp only [h]); (try simp only [decide_eq_true_eq, decide_eq_false_iff_not, bne_iff_ne, bne_eq_false_iff_eq, beq_iff_eq, beq_eq_false_iff_ne, ne_eq, Int.not_lt, Int.not_le, Bool.and_eq_true, Bool.and_eq_false_iff, Bool.or_eq_true, Bool.or_eq_false_iff] at h))))
    · exact dbF fun e => by have := of_decide_eq_true e; subst this; exact h rfl
    · refine hJ (j + 1) ⟨by omega, fun i hi' => ?_⟩ (by omega) _ (by simp (maxSteps := 1000000) (disch := (first | omega | (simp only [List.length_map, List.length_append, List.length_set, List.length_replicate, List.length_cons, List.length_nil, List.length_take, List.length_drop] <;> omega) | fail)) only [go_sem, ints, bools, mat, reduceIte, Nat.reduceEqDiff, Nat.reduceAdd, Nat.reduceBEq, Nat.reduceMul, Nat.reduceLeDiff, Nat.reduceLT, Nat.reduceMod, Nat.reduceDiv, Nat.reduceSub, reduceCtorEq]; rfl)
      rcases Nat.lt_or_ge i j with h' | h'
      · exact hi i h'
      · have : i = j := by omega
        subst this; assumption
    · exact dbT (decide_eq_true (eq_getD (by omega) fun i hi' => hi i (by omega)))
theorem d_laws_toInt64S (x : D) (l : List Int) (hx : IsInts x l) (hl : l.length < 1048577) :
    Den PA f_laws_toInt64S [.d x] [.any] (.own 1 (l.map di)) := by
  refine den_go [] l_laws_toInt64S ?_
  rcases hx with rfl | ⟨rfl, rfl⟩
  rotate_left
  · repeat' (first | simp (maxSteps := 1000000) (disch := (first | omega | (simp only [List.length_map, List.length_append, List.length_set, List.length_replicate, List.length_cons, List.length_nil, List.length_take, List.length_drop] <;> omega) | fail)) only [go_sem, ints, bools, mat, reduceIte, Nat.reduceEqDiff, Nat.reduceAdd, Nat.reduceBEq, Nat.reduceMul, Nat.reduceLeDiff, Nat.reduceLT, Nat.reduceMod, Nat.reduceDiv, Nat.reduceSub, reduceCtorEq, c_laws_toInt64S] | ((first | refine goIf_b (fun h => ?_) (fun h => ?_) | refine goG_b (fun h => ?_) (fun h => ?_) | refine goTG_b (fun h => ?_) (fun h => ?_) | refine goOG_b (fun h => ?_) (fun h => ?_)) <;> ((try simp only [Bool.not_eq_true', Bool.not_eq_false'] at h); (try simp only [h]); (try simp only [decide_eq_true_eq, decide_eq_false_iff_not, bne_iff_ne, bne_eq_false_iff_eq, beq_iff_eq, beq_eq_false_iff_ne, ne_eq, Int.not_lt, Int.not_le, Bool.and_eq_true, Bool.and_eq_false_iff, Bool.or_eq_true, Bool.or_eq_false_iff] at h))))
    refine go_loop (fun (_ : Unit) => ⟨[(0, .d (.v (.slice none 0 0))), (3, .sl 0 0 0 1), (4, .d (di 0))], [some (.dat 1 [])]⟩) (fun _ => True) (fun _ => 0) () ?_ trivial ?_
    · simp (maxSteps := 1000000) (disch := (first | omega | (simp only [List.length_map, List.length_append, List.length_set, List.length_replicate, List.length_cons, List.length_nil, List.length_take, List.length_drop] <;> omega) | fail)) only [go_sem, ints, bools, mat, reduceIte, Nat.reduceEqDiff, Nat.reduceAdd, Nat.reduceBEq, Nat.reduceMul, Nat.reduceLeDiff, Nat.reduceLT, Nat.reduceMod, Nat.reduceDiv, Nat.reduceSub, reduceCtorEq]; rfl
    · intro _ _ J _
      repeat' (first | simp (maxSteps := 1000000) (disch := (first | omega | (simp only [List.length_map, List.length_append, List.length_set, List.length_replicate, List.length_cons, List.length_nil, List.length_take, List.length_drop] <;> omega) | fail)) only [go_sem, ints, bools, mat, reduceIte, Nat.reduceEqDiff, Nat.reduceAdd, Nat.reduceBEq, Nat.reduceMul, Nat.reduceLeDiff, Nat.reduceLT, Nat.reduceMod, Nat.reduceDiv, Nat.reduceSub, reduceCtorEq] | ((first | refine goIf_b (fun h => ?_) (fun h => ?_) | refine goG_b (fun h => ?_) (fun h => ?_) | refine goTG_b (fun h => ?_) (fun h => ?_) | refine goOG_b (fun h => ?_) (fun h => ?_)) <;> ((try simp only [Bool.not_eq_true', Bool.not_eq_false'] at h); (try simp only [h]); (try simp only [decide_eq_true_eq, decide_eq_false_iff_not, bne_iff_ne, bne_eq_false_iff_eq, beq_iff_eq, beq_eq_false_iff_ne, ne_eq, Int.not_lt, Int.not_le, Bool.and_eq_true, Bool.and_eq_false_iff, Bool.or_eq_true, Bool.or_eq_false_iff] at h))))
  repeat' (first | simp (maxSteps := 1000000) (disch := (first | omega | (simp only [List.length_map, List.length_append, List.length_set, List.length_replicate, List.length_cons, List.length_nil, List.length_take, List.length_drop] <;> omega) | fail)) only [go_sem, ints, bools, mat, reduceIte, Nat.reduceEqDiff, Nat.reduceAdd, Nat.reduceBEq, Nat.reduceMul, Nat.reduceLeDiff, Nat.reduceLT, Nat.reduceMod, Nat.reduceDiv, Nat.reduceSub, reduceCtorEq, c_laws_toInt64S] | ((first | refine goIf_b (fun h => ?_) (fun h => ?_) | refine goG_b (fun h => ?_) (fun h => ?_) | refine goTG_b (fun h => ?_) (fun h => ?_) | refine goOG_b (fun h => ?_) (fun h => ?_)) <;> ((try simp only [Bool.not_eq_true', Bool.not_eq_false'] at h); (try simp only [h]); (try simp only [decide_eq_true_eq, decide_eq_false_iff_not, bne_iff_ne, bne_eq_false_iff_eq, beq_iff_eq, beq_eq_false_iff_ne, ne_eq, Int.not_lt, Int.not_le, Bool.and_eq_true, Bool.and_eq_false_iff, Bool.or_eq_true, Bool.or_eq_false_iff] at h))))
  refine go_loop (fun (j : Nat) => ⟨[(0, .d (ints l)), (3, .sl 0 0 l.length 1), (4, .d (di j))], [some (.dat 1 ((l.take j ++ List.replicate (l.length - j) 0).map di))]⟩) (fun j => j ≤ l.length) (fun j => l.length - j) 0 ?_ ?_ ?_
  · simp (maxSteps := 1000000) (disch := (first | omega | (simp only [List.length_map, List.length_append, List.length_set, List.length_replicate, List.length_cons, List.length_nil, List.length_take, List.length_drop] <;> omega) | fail)) only [go_sem, ints, bools, mat, reduceIte, Nat.reduceEqDiff, Nat.reduceAdd, Nat.reduceBEq, Nat.reduceMul, Nat.reduceLeDiff, Nat.reduceLT, Nat.reduceMod, Nat.reduceDiv, Nat.reduceSub, reduceCtorEq]; rfl
  · simp
  · rintro j hj J hJ
    repeat' (first | simp (maxSteps := 1000000) (disch := (first | omega | (simp only [List.length_map, List.length_append, List.length_set, List.length_replicate, List.length_cons, List.length_nil, List.length_take, List.length_drop] <;> omega) | fail)) only [go_sem, ints, bools, mat, reduceIte, Nat.reduceEqDiff, Nat.reduceAdd, Nat.reduceBEq, Nat.reduceMul, Nat.reduceLeDiff, Nat.reduceLT, Nat.reduceMod, Nat.reduceDiv, Nat.reduceSub, reduceCtorEq] | ((first | refine goIf_b (fun h => ?_) (fun h => ?_) | refine goG_b (fun h => ?_) (fun h => ?_) | refine goTG_b (fun h => ?_) (fun h => ?_) | refine goOG_b (fun h => ?_) (fun h => ?_)) <;> ((try simp only [Bool.not_eq_true', Bool.not_eq_false'] at h); (try simp only [h]); (try simp only [decide_eq_true_eq, decide_eq_false_iff_not, bne_iff_ne, bne_eq_false_iff_eq, beq_iff_eq, beq_eq_false_iff_ne, ne_eq, Int.not_lt, Int.not_le, Bool.and_eq_true, Bool.and_eq_false_iff, Bool.or_eq_true, Bool.or_eq_false_iff] at h))))
    · refine hJ (j + 1) (by omega) (by omega) _ ?_
      simp (maxSteps := 1000000) (disch := (first | omega | (simp only [List.length_map, List.length_append, List.length_set, List.length_replicate, List.length_cons, List.length_nil, List.length_take, List.length_drop] <;> omega) | fail)) only [go_sem, ints, bools, mat, reduceIte, Nat.reduceEqDiff, Nat.reduceAdd, Nat.reduceBEq, Nat.reduceMul, Nat.reduceLeDiff, Nat.reduceLT, Nat.reduceMod, Nat.reduceDiv, Nat.reduceSub, reduceCtorEq]
      rw [fill_step l 0 0 (by omega) rfl]; rfl
    · have : j = l.length := by omega
      subst this; simp
theorem d_laws_szSpace (x : D) (l : List Int) (hx : IsInts x l) (left : Int) (hl : l.length ≤ maxLen) (h0 : 0 ≤ left) (h1 : left ≤ 1048576) :
    Den PA f_laws_szSpace [.d (.agg [x]), .d (di left)] [.any, .any] (.d (di (if left < l.length then -1 else left - l.length))) := by
  refine den_go [] l_laws_szSpace ?_
  simp (maxSteps := 1000000) (disch := (first | omega | (simp only [List.length_map, List.length_append, List.length_set, List.length_replicate, List.length_cons, List.length_nil, List.length_take, List.length_drop] <;> omega) | fail)) only [go_sem, ints, bools, mat, reduceIte, Nat.reduceEqDiff, Nat.reduceAdd, Nat.reduceBEq, Nat.reduceMul, Nat.reduceLeDiff, Nat.reduceLT, Nat.reduceMod, Nat.reduceDiv, Nat.reduceSub, reduceCtorEq, c_laws_szSpace]
  first | refine goC_call [.r, .r] (d_laws_szInt64S x l hx left hl h0 h1) ?_ | refine goOC_call [.r, .r] (d_laws_szInt64S x l hx left hl h0 h1) ?_
  repeat' (first | simp (maxSteps := 1000000) (disch := (first | omega | (simp only [List.length_map, List.length_append, List.length_set, List.length_replicate, List.length_cons, List.length_nil, List.length_take, List.length_drop] <;> omega) | fail)) only [go_sem, ints, bools, mat, reduceIte, Nat.reduceEqDiff, Nat.reduceAdd, Nat.reduceBEq, Nat.reduceMul, Nat.reduceLeDiff, Nat.reduceLT, Nat.reduceMod, Nat.reduceDiv, Nat.reduceSub, reduceCtorEq] | ((first | refine goIf_b (fun h => ?_) (fun h => ?_) | refine goG_b (fun h => ?_) (fun h => ?_) | refine goTG_b (fun h => ?_) (fun h => ?_) | refine goOG_b (fun h => ?_) (fun h => ?_)) <;> ((try simp only [Bool.not_eq_true', Bool.not_eq_false'] at h); (try simp only [h]); (try simp only [decide_eq_true_eq, decide_eq_false_iff_not, bne_iff_ne, bne_eq_false_iff_eq, beq_iff_eq, beq_eq_false_iff_ne, ne_eq, Int.not_lt, Int.not_le, Bool.and_eq_true, Bool.and_eq_false_iff, Bool.or_eq_true, Bool.or_eq_false_iff] at h))))
  by_cases hh : left < (l.length : Int)
  · rw [if_pos hh]
  · rw [if_neg hh] at h; omega
theorem d_laws_eqSpace (l m : List Int) (hl : l.length < 1048577) :
    Den PA f_laws_eqSpace [.d (.agg [ints l]), .d (.agg [ints m])] [.any, .any] (.d (db (decide (l = m)))) := by
  refine den_go [] l_laws_eqSpace ?_
  simp (maxSteps := 1000000) (disch := (first | omega | (simp only [List.length_map, List.length_append, List.length_set, List.length_replicate, List.length_cons, List.length_nil, List.length_take, List.length_drop] <;> omega) | fail)) only [go_sem, ints, bools, mat, reduceIte, Nat.reduceEqDiff, Nat.reduceAdd, Nat.reduceBEq, Nat.reduceMul, Nat.reduceLeDiff, Nat.reduceLT, Nat.reduceMod, Nat.reduceDiv, Nat.reduceSub, reduceCtorEq, c_laws_eqSpace]
  first | refine goC_call [.r, .r] (d_laws_eqInt64S l m hl) ?_ | refine goOC_call [.r, .r] (d_laws_eqInt64S l m hl) ?_
  repeat' (first | simp (maxSteps := 1000000) (disch := (first | omega | (simp only [List.length_map, List.length_append, List.length_set, List.length_replicate, List.length_cons, List.length_nil, List.length_take, List.length_drop] <;> omega) | fail)) only [go_sem, ints, bools, mat, reduceIte, Nat.reduceEqDiff, Nat.reduceAdd, Nat.reduceBEq, Nat.reduceMul, Nat.reduceLeDiff, Nat.reduceLT, Nat.reduceMod, Nat.reduceDiv, Nat.reduceSub, reduceCtorEq] | ((first | refine goIf_b (fun h => ?_) (fun h => ?_) | refine goG_b (fun h => ?_) (fun h => ?_) | refine goTG_b (fun h => ?_) (fun h => ?_) | refine goOG_b (fun h => ?_) (fun h => ?_)) <;> ((try simp only [Bool.not_eq_true', Bool.not_eq_false'] at h); (try simp only [h]); (try simp only [decide_eq_true_eq, decide_eq_false_iff_not, bne_iff_ne, bne_eq_false_iff_eq, beq_iff_eq, beq_eq_false_iff_ne, ne_eq, Int.not_lt, Int.not_le, Bool.and_eq_true, Bool.and_eq_false_iff, Bool.or_eq_true, Bool.or_eq_false_iff] at h))))
theorem d_laws_toSpace (x : D) (l : List Int) (hx : IsInts x l) (hl : l.length < 1048577) :
    Den PA f_laws_toSpace [.d (.agg [x])] [.any] (.agg [.own 1 (l.map di)]) := by
  refine den_go [] l_laws_toSpace ?_
  simp (maxSteps := 1000000) (disch := (first | omega | (simp only [List.length_map, List.length_append, List.length_set, List.length_replicate, List.length_cons, List.length_nil, List.length_take, List.length_drop] <;> omega) | fail)) only [go_sem, ints, bools, mat, reduceIte, Nat.reduceEqDiff, Nat.reduceAdd, Nat.reduceBEq, Nat.reduceMul, Nat.reduceLeDiff, Nat.reduceLT, Nat.reduceMod, Nat.reduceDiv, Nat.reduceSub, reduceCtorEq, c_laws_toSpace]
  first | refine goC_call [.r] (d_laws_toInt64S x l hx hl) ?_ | refine goOC_call [.r] (d_laws_toInt64S x l hx hl) ?_
  repeat' (first | simp (maxSteps := 1000000) (disch := (first | omega | (simp only [List.length_map, List.length_append, List.length_set, List.length_replicate, List.length_cons, List.length_nil, List.length_take, List.length_drop] <;> omega) | fail)) only [go_sem, ints, bools, mat, reduceIte, Nat.reduceEqDiff, Nat.reduceAdd, Nat.reduceBEq, Nat.reduceMul, Nat.reduceLeDiff, Nat.reduceLT, Nat.reduceMod, Nat.reduceDiv, Nat.reduceSub, reduceCtorEq] | ((first | refine goIf_b (fun h => ?_) (fun h => ?_) | refine goG_b (fun h => ?_) (fun h => ?_) | refine goTG_b (fun h => ?_) (fun h => ?_) | refine goOG_b (fun h => ?_) (fun h => ?_)) <;> ((try simp only [Bool.not_eq_true', Bool.not_eq_false'] at h); (try simp only [h]); (try simp only [decide_eq_true_eq, decide_eq_false_iff_not, bne_iff_ne, bne_eq_false_iff_eq, beq_iff_eq, beq_eq_false_iff_ne, ne_eq, Int.not_lt, Int.not_le, Bool.and_eq_true, Bool.and_eq_false_iff, Bool.or_eq_true, Bool.or_eq_false_iff] at h))))
def prodM (l : List Int) : Int := l.foldl (· * ·) 1
theorem take_one (l : List Int) {j : Nat} (h : j < l.length) : l.take (j + 1) = l.take j ++ [l.getD j 0] := by
  rw [List.take_add_one]; simp [h]
theorem prodM_step (l : List Int) {j : Nat} (h : j < l.length) : prodM (l.take (j + 1)) = prodM (l.take j) * l.getD j 0 := by
  rw [take_one l h]; simp [prodM]
theorem prodM_bnd (l : List Int) : ∀ j, j ≤ l.length → (∀ i, i < j → 2 ≤ l.getD i 0 ∧ l.getD i 0 ≤ 4) → 1 ≤ prodM (l.take j) ∧ prodM (l.take j) ≤ 4 ^ j
  | 0, _, _ => by simp [prodM]
  | j + 1, hj, h => by
    obtain ⟨h1, h2⟩ := prodM_bnd l j (by omega) (fun i hi => h i (by omega))
    obtain ⟨h3, h4⟩ := h j (by omega)
    rw [prodM_step l (by omega)]
    constructor
    · have := Int.mul_le_mul h1 (show (1 : Int) ≤ l.getD j 0 by omega) (by omega) (by omega)
      simpa using this
    · rw [Int.pow_succ]
      exact Int.mul_le_mul h2 h4 (by omega) (by omega)
theorem pow4 {j : Nat} (h : j ≤ 8) : (4 : Int) ^ j ≤ 65536 := by
  exact (by decide : ∀ j : Fin 9, (4 : Int) ^ (j : Nat) ≤ 65536) ⟨j, by omega⟩
theorem prodM_small (l : List Int) {j : Nat} (h8 : j ≤ 8) (hj : j ≤ l.length) (h : ∀ i, i < j → 2 ≤ l.getD i 0 ∧ l.getD i 0 ≤ 4) : 1 ≤ prodM (l.take j) ∧ prodM (l.take j) ≤ 65536 := by
  obtain ⟨h1, h2⟩ := prodM_bnd l j hj h
  exact ⟨h1, Int.le_trans h2 (pow4 h8)⟩
/-- A space: one to eight places, two to four digits each, at most 1024 words. -/
def isSpaceM (l : List Int) : Bool := decide (1 ≤ l.length) && decide (l.length ≤ 8) && l.all (fun n => decide (2 ≤ n) && decide (n ≤ 4)) && decide (prodM l ≤ 1024)
theorem isSpaceM_ok (l : List Int) : isSpaceM l = true ↔ (1 ≤ l.length ∧ l.length ≤ 8) ∧ (∀ j, j < l.length → 2 ≤ l.getD j 0 ∧ l.getD j 0 ≤ 4) ∧ prodM l ≤ 1024 := by
  simp only [isSpaceM, Bool.and_eq_true, decide_eq_true_eq, all_getD, and_assoc]
theorem d_spec_l01N (l : List Int) (h8 : l.length ≤ 8) (h : ∀ i, i < l.length → 2 ≤ l.getD i 0 ∧ l.getD i 0 ≤ 4) :
    Den PA f_spec_l01N [.d (.agg [ints l])] [.any] (.d (di (prodM l))) := by
  refine den_go [] l_spec_l01N ?_
  simp (maxSteps := 1000000) (disch := (first | omega | (simp only [List.length_map, List.length_append, List.length_set, List.length_replicate, List.length_cons, List.length_nil, List.length_take, List.length_drop] <;> omega) | fail)) only [go_sem, ints, bools, mat, reduceIte, Nat.reduceEqDiff, Nat.reduceAdd, Nat.reduceBEq, Nat.reduceMul, Nat.reduceLeDiff, Nat.reduceLT, Nat.reduceMod, Nat.reduceDiv, Nat.reduceSub, reduceCtorEq, c_spec_l01N]
  refine go_loop (fun (j : Nat) => ⟨[(1, .ref 0 0), (3, .d (di (prodM (l.take j)))), (4, .d (di j))], [some (.var [ints l])]⟩) (fun j => j ≤ l.length) (fun j => l.length - j) 0 ?_ ?_ ?_
  · simp (maxSteps := 1000000) (disch := (first | omega | (simp only [List.length_map, List.length_append, List.length_set, List.length_replicate, List.length_cons, List.length_nil, List.length_take, List.length_drop] <;> omega) | fail)) only [go_sem, ints, bools, mat, reduceIte, Nat.reduceEqDiff, Nat.reduceAdd, Nat.reduceBEq, Nat.reduceMul, Nat.reduceLeDiff, Nat.reduceLT, Nat.reduceMod, Nat.reduceDiv, Nat.reduceSub, reduceCtorEq]; rfl
  · simp
  · rintro j hj J hJ
    have hb := prodM_small l (j := j) (by omega) hj (fun i hi => h i (by omega))
    have hb' := fun hj' => prodM_small l (j := j + 1) (by omega) hj' (fun i hi => h i (by omega))
    have hs := fun hj' => prodM_step l (j := j) hj'
    repeat' (first | simp (maxSteps := 1000000) (disch := (first | omega | (simp only [List.length_map, List.length_append, List.length_set, List.length_replicate, List.length_cons, List.length_nil, List.length_take, List.length_drop] <;> omega) | fail)) only [go_sem, ints, bools, mat, reduceIte, Nat.reduceEqDiff, Nat.reduceAdd, Nat.reduceBEq, Nat.reduceMul, Nat.reduceLeDiff, Nat.reduceLT, Nat.reduceMod, Nat.reduceDiv, Nat.reduceSub, reduceCtorEq] | ((first | refine goIf_b (fun h => ?_) (fun h => ?_) | refine goG_b (fun h => ?_) (fun h => ?_) | refine goTG_b (fun h => ?_) (fun h => ?_) | refine goOG_b (fun h => ?_) (fun h => ?_)) <;> ((try simp only [Bool.not_eq_true', Bool.not_eq_false'] at h); (try simp only [h]); (try simp only [decide_eq_true_eq, decide_eq_false_iff_not, bne_iff_ne, bne_eq_false_iff_eq, beq_iff_eq, beq_eq_false_iff_ne, ne_eq, Int.not_lt, Int.not_le, Bool.and_eq_true, Bool.and_eq_false_iff, Bool.or_eq_true, Bool.or_eq_false_iff] at h))))
    · rename_i hlt
      have hlt : j < l.length := by omega
      have h1 := hb' (by omega)
      rw [hs hlt] at h1
      refine hJ (j + 1) (by omega) (by omega) _ ?_
      simp (maxSteps := 1000000) (disch := (first | omega | (simp only [List.length_map, List.length_append, List.length_set, List.length_replicate, List.length_cons, List.length_nil, List.length_take, List.length_drop] <;> omega) | fail)) only [go_sem, ints, bools, mat, reduceIte, Nat.reduceEqDiff, Nat.reduceAdd, Nat.reduceBEq, Nat.reduceMul, Nat.reduceLeDiff, Nat.reduceLT, Nat.reduceMod, Nat.reduceDiv, Nat.reduceSub, reduceCtorEq]
      rw [hs hlt]; rfl
theorem d_spec_l01Is (l : List Int) (hl : l.length < 1048577) :
    Den PA f_spec_l01Is [.d (.agg [ints l])] [.any] (.d (db (isSpaceM l))) := by
  have e := isSpaceM_ok l
  refine den_go [] l_spec_l01Is ?_
  simp (maxSteps := 1000000) (disch := (first | omega | (simp only [List.length_map, List.length_append, List.length_set, List.length_replicate, List.length_cons, List.length_nil, List.length_take, List.length_drop] <;> omega) | fail)) only [go_sem, ints, bools, mat, reduceIte, Nat.reduceEqDiff, Nat.reduceAdd, Nat.reduceBEq, Nat.reduceMul, Nat.reduceLeDiff, Nat.reduceLT, Nat.reduceMod, Nat.reduceDiv, Nat.reduceSub, reduceCtorEq, c_spec_l01Is]
  first | refine goC_call [.r, .r, .r] (d_spec_l01In l.length 1 8) ?_ | refine goOC_call [.r, .r, .r] (d_spec_l01In l.length 1 8) ?_
  repeat' (first | simp (maxSteps := 1000000) (disch := (first | omega | (simp only [List.length_map, List.length_append, List.length_set, List.length_replicate, List.length_cons, List.length_nil, List.length_take, List.length_drop] <;> omega) | fail)) only [go_sem, ints, bools, mat, reduceIte, Nat.reduceEqDiff, Nat.reduceAdd, Nat.reduceBEq, Nat.reduceMul, Nat.reduceLeDiff, Nat.reduceLT, Nat.reduceMod, Nat.reduceDiv, Nat.reduceSub, reduceCtorEq] | ((first | refine goIf_b (fun h => ?_) (fun h => ?_) | refine goG_b (fun h => ?_) (fun h => ?_) | refine goTG_b (fun h => ?_) (fun h => ?_) | refine goOG_b (fun h => ?_) (fun h => ?_)) <;> ((try simp only [Bool.not_eq_true', Bool.not_eq_false'] at h); (try simp only [h]); (try simp only [decide_eq_true_eq, decide_eq_false_iff_not, bne_iff_ne, bne_eq_false_iff_eq, beq_iff_eq, beq_eq_false_iff_ne, ne_eq, Int.not_lt, Int.not_le, Bool.and_eq_true, Bool.and_eq_false_iff, Bool.or_eq_true, Bool.or_eq_false_iff] at h))))
  rotate_left
  · exact dbF fun h' => by have := (e.1 h').1; omega
  refine go_loop (fun (j : Nat) => ⟨[(1, .ref 0 0), (3, .d (di j))], [some (.var [ints l])]⟩) (fun j => j ≤ l.length ∧ ∀ i, i < j → 2 ≤ l.getD i 0 ∧ l.getD i 0 ≤ 4) (fun j => l.length - j) 0 ?_ ?_ ?_
  · simp (maxSteps := 1000000) (disch := (first | omega | (simp only [List.length_map, List.length_append, List.length_set, List.length_replicate, List.length_cons, List.length_nil, List.length_take, List.length_drop] <;> omega) | fail)) only [go_sem, ints, bools, mat, reduceIte, Nat.reduceEqDiff, Nat.reduceAdd, Nat.reduceBEq, Nat.reduceMul, Nat.reduceLeDiff, Nat.reduceLT, Nat.reduceMod, Nat.reduceDiv, Nat.reduceSub, reduceCtorEq]; rfl
  · simp
  · rintro j ⟨hj, hi⟩ J hJ
    repeat' (first | simp (maxSteps := 1000000) (disch := (first | omega | (simp only [List.length_map, List.length_append, List.length_set, List.length_replicate, List.length_cons, List.length_nil, List.length_take, List.length_drop] <;> omega) | fail)) only [go_sem, ints, bools, mat, reduceIte, Nat.reduceEqDiff, Nat.reduceAdd, Nat.reduceBEq, Nat.reduceMul, Nat.reduceLeDiff, Nat.reduceLT, Nat.reduceMod, Nat.reduceDiv, Nat.reduceSub, reduceCtorEq] | ((first | refine goIf_b (fun h => ?_) (fun h => ?_) | refine goG_b (fun h => ?_) (fun h => ?_) | refine goTG_b (fun h => ?_) (fun h => ?_) | refine goOG_b (fun h => ?_) (fun h => ?_)) <;> ((try simp only [Bool.not_eq_true', Bool.not_eq_false'] at h); (try simp only [h]); (try simp only [decide_eq_true_eq, decide_eq_false_iff_not, bne_iff_ne, bne_eq_false_iff_eq, beq_iff_eq, beq_eq_false_iff_ne, ne_eq, Int.not_lt, Int.not_le, Bool.and_eq_true, Bool.and_eq_false_iff, Bool.or_eq_true, Bool.or_eq_false_iff] at h))))
    · first | refine goC_call [.r, .r, .r] (d_spec_l01In (l.getD j 0) 2 4) ?_ | refine goOC_call [.r, .r, .r] (d_spec_l01In (l.getD j 0) 2 4) ?_
      repeat' (first | simp (maxSteps := 1000000) (disch := (first | omega | (simp only [List.length_map, List.length_append, List.length_set, List.length_replicate, List.length_cons, List.length_nil, List.length_take, List.length_drop] <;> omega) | fail)) only [go_sem, ints, bools, mat, reduceIte, Nat.reduceEqDiff, Nat.reduceAdd, Nat.reduceBEq, Nat.reduceMul, Nat.reduceLeDiff, Nat.reduceLT, Nat.reduceMod, Nat.reduceDiv, Nat.reduceSub, reduceCtorEq] | ((first | refine goIf_b (fun h => ?_) (fun h => ?_) | refine goG_b (fun h => ?_) (fun h => ?_) | refine goTG_b (fun h => ?_) (fun h => ?_) | refine goOG_b (fun h => ?_) (fun h => ?_)) <;> ((try simp only [Bool.not_eq_true', Bool.not_eq_false'] at h); (try simp only [h]); (try simp only [decide_eq_true_eq, decide_eq_false_iff_not, bne_iff_ne, bne_eq_false_iff_eq, beq_iff_eq, beq_eq_false_iff_ne, ne_eq, Int.not_lt, Int.not_le, Bool.and_eq_true, Bool.and_eq_false_iff, Bool.or_eq_true, Bool.or_eq_false_iff] at h))))
      · refine hJ (j + 1) ⟨by omega, fun i hi' => ?_⟩ (by omega) _ (by simp (maxSteps := 1000000) (disch := (first | omega | (simp only [List.length_map, List.length_append, List.length_set, List.length_replicate, List.length_cons, List.length_nil, List.length_take, List.length_drop] <;> omega) | fail)) only [go_sem, ints, bools, mat, reduceIte, Nat.reduceEqDiff, Nat.reduceAdd, Nat.reduceBEq, Nat.reduceMul, Nat.reduceLeDiff, Nat.reduceLT, Nat.reduceMod, Nat.reduceDiv, Nat.reduceSub, reduceCtorEq]; rfl)
        rcases Nat.lt_or_ge i j with h' | h'
        · exact hi i h'
        · have : i = j := by omega
          subst this; assumption
      · exact dbF fun h' => by have := (e.1 h').2.1 j (by omega); omega
    · have hj' : j = l.length := by omega
      subst hj'
      first | refine goC_call [.r] (d_spec_l01N l (by omega) hi) ?_ | refine goOC_call [.r] (d_spec_l01N l (by omega) hi) ?_
      repeat' (first | simp (maxSteps := 1000000) (disch := (first | omega | (simp only [List.length_map, List.length_append, List.length_set, List.length_replicate, List.length_cons, List.length_nil, List.length_take, List.length_drop] <;> omega) | fail)) only [go_sem, ints, bools, mat, reduceIte, Nat.reduceEqDiff, Nat.reduceAdd, Nat.reduceBEq, Nat.reduceMul, Nat.reduceLeDiff, Nat.reduceLT, Nat.reduceMod, Nat.reduceDiv, Nat.reduceSub, reduceCtorEq] | ((first | refine goIf_b (fun h => ?_) (fun h => ?_) | refine goG_b (fun h => ?_) (fun h => ?_) | refine goTG_b (fun h => ?_) (fun h => ?_) | refine goOG_b (fun h => ?_) (fun h => ?_)) <;> ((try simp only [Bool.not_eq_true', Bool.not_eq_false'] at h); (try simp only [h]); (try simp only [decide_eq_true_eq, decide_eq_false_iff_not, bne_iff_ne, bne_eq_false_iff_eq, beq_iff_eq, beq_eq_false_iff_ne, ne_eq, Int.not_lt, Int.not_le, Bool.and_eq_true, Bool.and_eq_false_iff, Bool.or_eq_true, Bool.or_eq_false_iff] at h))))
      refine dbv ?_
      cases hm : isSpaceM l with
      | true => exact decide_eq_true (e.1 hm).2.2
      | false =>
        refine decide_eq_false fun hp => ?_
        have := e.2 ⟨by omega, hi, hp⟩
        rw [hm] at this; cases this
theorem d_impl_IsSpace (l : List Int) (hl : l.length < 1048577) :
    Den PA f_impl_IsSpace [.d (.agg [ints l])] [.any] (.d (db (isSpaceM l))) := by
  have e := isSpaceM_ok l
  refine den_go [] l_impl_IsSpace ?_
  repeat' (first | simp (maxSteps := 1000000) (disch := (first | omega | (simp only [List.length_map, List.length_append, List.length_set, List.length_replicate, List.length_cons, List.length_nil, List.length_take, List.length_drop] <;> omega) | fail)) only [go_sem, ints, bools, mat, reduceIte, Nat.reduceEqDiff, Nat.reduceAdd, Nat.reduceBEq, Nat.reduceMul, Nat.reduceLeDiff, Nat.reduceLT, Nat.reduceMod, Nat.reduceDiv, Nat.reduceSub, reduceCtorEq, c_impl_IsSpace] | ((first | refine goIf_b (fun h => ?_) (fun h => ?_) | refine goG_b (fun h => ?_) (fun h => ?_) | refine goTG_b (fun h => ?_) (fun h => ?_) | refine goOG_b (fun h => ?_) (fun h => ?_)) <;> ((try simp only [Bool.not_eq_true', Bool.not_eq_false'] at h); (try simp only [h]); (try simp only [decide_eq_true_eq, decide_eq_false_iff_not, bne_iff_ne, bne_eq_false_iff_eq, beq_iff_eq, beq_eq_false_iff_ne, ne_eq, Int.not_lt, Int.not_le, Bool.and_eq_true, Bool.and_eq_false_iff, Bool.or_eq_true, Bool.or_eq_false_iff] at h))))
  · exact dbF fun h' => by have := (e.1 h').1; omega
  · refine go_loop (fun (j : Nat) => ⟨[(3, .d (di (prodM (l.take j)))), (17, .d (ints l)), (18, .d (di l.length)), (19, .d (di j))], []⟩) (fun j => j ≤ l.length ∧ ∀ i, i < j → 2 ≤ l.getD i 0 ∧ l.getD i 0 ≤ 4) (fun j => l.length - j) 0 ?_ ?_ ?_
    · simp (maxSteps := 1000000) (disch := (first | omega | (simp only [List.length_map, List.length_append, List.length_set, List.length_replicate, List.length_cons, List.length_nil, List.length_take, List.length_drop] <;> omega) | fail)) only [go_sem, ints, bools, mat, reduceIte, Nat.reduceEqDiff, Nat.reduceAdd, Nat.reduceBEq, Nat.reduceMul, Nat.reduceLeDiff, Nat.reduceLT, Nat.reduceMod, Nat.reduceDiv, Nat.reduceSub, reduceCtorEq]; rfl
    · simp
    · rintro j ⟨hj, hi⟩ J hJ
      have hb := prodM_small l (j := j) (by omega) hj hi
      repeat' (first | simp (maxSteps := 1000000) (disch := (first | omega | (simp only [List.length_map, List.length_append, List.length_set, List.length_replicate, List.length_cons, List.length_nil, List.length_take, List.length_drop] <;> omega) | fail)) only [go_sem, ints, bools, mat, reduceIte, Nat.reduceEqDiff, Nat.reduceAdd, Nat.reduceBEq, Nat.reduceMul, Nat.reduceLeDiff, Nat.reduceLT, Nat.reduceMod, Nat.reduceDiv, Nat.reduceSub, reduceCtorEq] | ((first | refine goIf_b (fun h => ?_) (fun h => ?_) | refine goG_b (fun h => ?_) (fun h => ?_) | refine goTG_b (fun h => ?_) (fun h => ?_) | refine goOG_b (fun h => ?_) (fun h => ?_)) <;> ((try simp only [Bool.not_eq_true', Bool.not_eq_false'] at h); (try simp only [h]); (try simp only [decide_eq_true_eq, decide_eq_false_iff_not, bne_iff_ne, bne_eq_false_iff_eq, beq_iff_eq, beq_eq_false_iff_ne, ne_eq, Int.not_lt, Int.not_le, Bool.and_eq_true, Bool.and_eq_false_iff, Bool.or_eq_true, Bool.or_eq_false_iff] at h))))
      · exact dbF fun h' => by have := (e.1 h').2.1 j (by omega); omega
      · have hi' : ∀ i, i < j + 1 → 2 ≤ l.getD i 0 ∧ l.getD i 0 ≤ 4 := fun i hi' => by
          rcases Nat.lt_or_ge i j with h' | h'
          · exact hi i h'
          · have : i = j := by omega
            subst this; exact ⟨by assumption, by assumption⟩
        have hb' := prodM_small l (j := j + 1) (by omega) (by omega) hi'
        have hs := prodM_step l (j := j) (by omega)
        rw [hs] at hb'
        refine hJ (j + 1) ⟨by omega, hi'⟩ (by omega) _ ?_
        simp (maxSteps := 1000000) (disch := (first | omega | (simp only [List.length_map, List.length_append, List.length_set, List.length_replicate, List.length_cons, List.length_nil, List.length_take, List.length_drop] <;> omega) | fail)) only [go_sem, ints, bools, mat, reduceIte, Nat.reduceEqDiff, Nat.reduceAdd, Nat.reduceBEq, Nat.reduceMul, Nat.reduceLeDiff, Nat.reduceLT, Nat.reduceMod, Nat.reduceDiv, Nat.reduceSub, reduceCtorEq]
        rw [hs]; rfl
      · exact dbF fun h' => by have := (e.1 h').2.1 j (by omega); omega
      · have hj' : j = l.length := by omega
        subst hj'
        refine dbv ?_
        cases hm : isSpaceM l with
        | true => exact decide_eq_true (e.1 hm).2.2
        | false =>
          refine decide_eq_false fun hp => ?_
          have := e.2 ⟨by omega, hi, hp⟩
          rw [hm] at this; cases this
  · exact dbF fun h' => by have := (e.1 h').1; omega
theorem isSpaceM_q {l : List Int} (h : isSpaceM l = true) : ∀ j, j < l.length → 2 ≤ l.getD j 0 ∧ l.getD j 0 ≤ 4 := ((isSpaceM_ok l).1 h).2.1
theorem isSpaceM_n {l : List Int} (h : isSpaceM l = true) : 1 ≤ l.length ∧ l.length ≤ 8 := ((isSpaceM_ok l).1 h).1
theorem sz_ok {l : List Int} {left : Int} (h : 0 ≤ (if left < (l.length : Int) then (-1 : Int) else left - l.length)) : (l.length : Int) ≤ left := by
  by_cases hh : left < (l.length : Int)
  · rw [if_pos hh] at h; omega
  · omega
abbrev nil : D := .v (.slice none 0 0)
def markL (n : Nat) (k : Int) : List Int := (List.range n).map fun (i : Nat) => k + (i : Int)
@[go_sem] theorem markL_len (n : Nat) (k : Int) : (markL n k).length = n := by simp [markL]
@[go_sem] theorem take_markL (n : Nat) (k : Int) : (markL n k).take n = markL n k := List.take_of_length_le (by rw [markL_len]; exact Nat.le_refl _)
@[go_sem] theorem cast_succ_sub (i : Nat) : ((i + 1 : Nat) : Int) - 1 = (i : Int) := by omega
@[go_sem] theorem cast_zero0 : ((0 : Nat) : Int) = 0 := rfl
theorem foldl_mul (l : List Int) : ∀ a : Int, l.foldl (· * ·) a = a * l.foldl (· * ·) 1 := by
  induction l with
  | nil => intro a; simp
  | cons q r ih => intro a; simp only [List.foldl_cons]; rw [ih (a * q), ih (1 * q), Int.one_mul, Int.mul_assoc]
theorem prodM_cons (q : Int) (r : List Int) : prodM (q :: r) = q * prodM r := by
  simp only [prodM, List.foldl_cons]; rw [foldl_mul, Int.one_mul]
theorem prodM_nil : prodM [] = 1 := rfl
/-- The digits of a word, the first one first. -/
def digM : List Int → Int → List Int
  | [], _ => []
  | q :: r, w => (w / prodM r) % q :: digM r w
theorem digM_len : ∀ (l : List Int) (w : Int), (digM l w).length = l.length
  | [], _ => rfl
  | _ :: r, w => by simp [digM, digM_len r w]
theorem drop_cons1 {l : List Int} {i : Nat} (h : i < l.length) : l.drop i = l.getD i 0 :: l.drop (i + 1) := by
  rw [List.drop_eq_getElem_cons h]; simp [h]
theorem digM_drop {l : List Int} (w : Int) {i : Nat} (h : i < l.length) : digM (l.drop i) w = (w / prodM (l.drop (i + 1))) % l.getD i 0 :: digM (l.drop (i + 1)) w := by
  rw [drop_cons1 h]; rfl
theorem prodM_drop {l : List Int} {i : Nat} (h : i < l.length) : prodM (l.drop i) = l.getD i 0 * prodM (l.drop (i + 1)) := by
  rw [drop_cons1 h, prodM_cons]
/-- All sizes are at least 2. -/
def szs (l : List Int) : Prop := ∀ j, j < l.length → 2 ≤ l.getD j 0 ∧ l.getD j 0 ≤ 4
theorem szs_tail {q : Int} {r : List Int} (h : szs (q :: r)) : szs r := fun j hj => by simpa using h (j + 1) (by simpa using hj)
theorem prodM_pos : ∀ {l : List Int}, szs l → 1 ≤ prodM l
  | [], _ => by simp [prodM]
  | q :: r, h => by
    have h1 := prodM_pos (szs_tail h)
    have h2 := h 0 (by simp)
    simp at h2
    rw [prodM_cons]
    have := Int.mul_le_mul (show (1 : Int) ≤ q by omega) h1 (by omega) (by omega)
    simpa using this
theorem szs_drop {l : List Int} (h : szs l) (k : Nat) : szs (l.drop k) := fun j hj => by
  have := h (k + j) (by simp at hj; omega)
  simpa [List.getD_eq_getElem?_getD, List.getElem?_drop] using this
theorem div_le_self {w p : Int} (h : 0 ≤ w) (hp : 1 ≤ p) : 0 ≤ w / p ∧ w / p ≤ w := by
  refine ⟨Int.ediv_nonneg h (by omega), Int.ediv_le_self _ h⟩
theorem div_step {l : List Int} {w : Int} {i : Nat} (hs : szs l) (h : i < l.length) : w / prodM (l.drop (i + 1)) / l.getD i 0 = w / prodM (l.drop i) := by
  rw [prodM_drop h, Int.mul_comm, Int.ediv_ediv_of_nonneg (by have := prodM_pos (szs_drop hs (i + 1)); omega)]
theorem mod_bnd {x q : Int} (h : 2 ≤ q ∧ q ≤ 4) : 0 ≤ x % q ∧ x % q < q ∧ x % q < 4 := by
  have h1 := Int.emod_nonneg x (show q ≠ 0 by omega)
  have h2 := Int.emod_lt_of_pos x (show 0 < q by omega)
  omega
def pad8 (ds : List Int) : List Int := (ds ++ List.replicate 8 0).take 8
@[go_sem] theorem pad8_len (ds : List Int) : (pad8 ds).length = 8 := by simp [pad8]
theorem pad8_eq {ds : List Int} (h : ds.length ≤ 8) : pad8 ds = ds ++ List.replicate (8 - ds.length) 0 := by
  rw [pad8, List.take_append, List.take_of_length_le h, List.take_replicate]
  congr 2; omega
abbrev dig (ds : List Int) : D := .agg ((pad8 ds).map dy)
theorem set_rep {i : Nat} (v : Int) (r : List Int) : (List.replicate (i + 1) 0 ++ r).set i v = List.replicate i 0 ++ v :: r := by
  rw [List.replicate_succ', List.append_assoc, List.set_append_right _ _ (by simp)]
  simp
theorem isSpaceM_szs {l : List Int} (h : isSpaceM l = true) : szs l := isSpaceM_q h
theorem isSpaceM_prod {l : List Int} (h : isSpaceM l = true) : prodM l ≤ 1024 := ((isSpaceM_ok l).1 h).2.2
theorem d_impl_count (l : List Int) (hs : isSpaceM l = true) : Den PA f_impl_count [.d (.agg [ints l])] [.any] (.d (di (prodM l))) := by
  have hn := isSpaceM_n hs
  refine den_go [] l_impl_count ?_
  repeat' (first | simp (maxSteps := 1000000) (disch := (first | omega | (simp only [List.length_map, List.length_append, List.length_set, List.length_replicate, List.length_cons, List.length_nil, List.length_take, List.length_drop] <;> omega) | fail)) only [go_sem, ints, bools, mat, reduceIte, Nat.reduceEqDiff, Nat.reduceAdd, Nat.reduceBEq, Nat.reduceMul, Nat.reduceLeDiff, Nat.reduceLT, Nat.reduceMod, Nat.reduceDiv, Nat.reduceSub, reduceCtorEq, c_impl_count] | ((first | refine goIf_b (fun h => ?_) (fun h => ?_) | refine goG_b (fun h => ?_) (fun h => ?_) | refine goTG_b (fun h => ?_) (fun h => ?_) | refine goOG_b (fun h => ?_) (fun h => ?_)) <;> ((try simp only [Bool.not_eq_true', Bool.not_eq_false'] at h); (try simp only [h]); (try simp only [decide_eq_true_eq, decide_eq_false_iff_not, bne_iff_ne, bne_eq_false_iff_eq, beq_iff_eq, beq_eq_false_iff_ne, ne_eq, Int.not_lt, Int.not_le, Bool.and_eq_true, Bool.and_eq_false_iff, Bool.or_eq_true, Bool.or_eq_false_iff] at h))))
  refine go_loop (fun (j : Nat) => ⟨[(3, .d (di (prodM (l.take j)))), (7, .d (ints l)), (8, .d (di l.length)), (9, .d (di j))], []⟩) (fun j => j ≤ l.length) (fun j => l.length - j) 0 ?_ ?_ ?_
  · (simp (maxSteps := 1000000) (disch := (first | omega | (simp only [List.length_map, List.length_append, List.length_set, List.length_replicate, List.length_cons, List.length_nil, List.length_take, List.length_drop] <;> omega) | fail)) only [go_sem, ints, bools, mat, reduceIte, Nat.reduceEqDiff, Nat.reduceAdd, Nat.reduceBEq, Nat.reduceMul, Nat.reduceLeDiff, Nat.reduceLT, Nat.reduceMod, Nat.reduceDiv, Nat.reduceSub, reduceCtorEq] <;> rfl)
  · simp
  · rintro j hj J hJ
    have hb := prodM_small l (j := j) (by omega) hj (fun i hi => isSpaceM_q hs i (by omega))
    have hb' := fun hj' => prodM_small l (j := j + 1) (by omega) hj' (fun i hi => isSpaceM_q hs i (by omega))
    have hst := fun hj' => prodM_step l (j := j) hj'
    repeat' (first | simp (maxSteps := 1000000) (disch := (first | omega | (simp only [List.length_map, List.length_append, List.length_set, List.length_replicate, List.length_cons, List.length_nil, List.length_take, List.length_drop] <;> omega) | fail)) only [go_sem, ints, bools, mat, reduceIte, Nat.reduceEqDiff, Nat.reduceAdd, Nat.reduceBEq, Nat.reduceMul, Nat.reduceLeDiff, Nat.reduceLT, Nat.reduceMod, Nat.reduceDiv, Nat.reduceSub, reduceCtorEq] | ((first | refine goIf_b (fun h => ?_) (fun h => ?_) | refine goG_b (fun h => ?_) (fun h => ?_) | refine goTG_b (fun h => ?_) (fun h => ?_) | refine goOG_b (fun h => ?_) (fun h => ?_)) <;> ((try simp only [Bool.not_eq_true', Bool.not_eq_false'] at h); (try simp only [h]); (try simp only [decide_eq_true_eq, decide_eq_false_iff_not, bne_iff_ne, bne_eq_false_iff_eq, beq_iff_eq, beq_eq_false_iff_ne, ne_eq, Int.not_lt, Int.not_le, Bool.and_eq_true, Bool.and_eq_false_iff, Bool.or_eq_true, Bool.or_eq_false_iff] at h))))
    · have h1 := hb' (by omega)
      rw [hst (by omega)] at h1
      refine hJ (j + 1) (by omega) (by omega) _ ?_
      simp (maxSteps := 1000000) (disch := (first | omega | (simp only [List.length_map, List.length_append, List.length_set, List.length_replicate, List.length_cons, List.length_nil, List.length_take, List.length_drop] <;> omega) | fail)) only [go_sem, ints, bools, mat, reduceIte, Nat.reduceEqDiff, Nat.reduceAdd, Nat.reduceBEq, Nat.reduceMul, Nat.reduceLeDiff, Nat.reduceLT, Nat.reduceMod, Nat.reduceDiv, Nat.reduceSub, reduceCtorEq]
      rw [hst (by omega)]; rfl
theorem d_impl_places (l : List Int) (hl : l.length < 1048577) : Den PA f_impl_places [.d (.agg [ints l])] [.any] (.d (di l.length)) := by
  refine den_go [] l_impl_places ?_
  repeat' (first | simp (maxSteps := 1000000) (disch := (first | omega | (simp only [List.length_map, List.length_append, List.length_set, List.length_replicate, List.length_cons, List.length_nil, List.length_take, List.length_drop] <;> omega) | fail)) only [go_sem, ints, bools, mat, reduceIte, Nat.reduceEqDiff, Nat.reduceAdd, Nat.reduceBEq, Nat.reduceMul, Nat.reduceLeDiff, Nat.reduceLT, Nat.reduceMod, Nat.reduceDiv, Nat.reduceSub, reduceCtorEq, c_impl_places] | ((first | refine goIf_b (fun h => ?_) (fun h => ?_) | refine goG_b (fun h => ?_) (fun h => ?_) | refine goTG_b (fun h => ?_) (fun h => ?_) | refine goOG_b (fun h => ?_) (fun h => ?_)) <;> ((try simp only [Bool.not_eq_true', Bool.not_eq_false'] at h); (try simp only [h]); (try simp only [decide_eq_true_eq, decide_eq_false_iff_not, bne_iff_ne, bne_eq_false_iff_eq, beq_iff_eq, beq_eq_false_iff_ne, ne_eq, Int.not_lt, Int.not_le, Bool.and_eq_true, Bool.and_eq_false_iff, Bool.or_eq_true, Bool.or_eq_false_iff] at h))))
def inW (l : List Int) (w : Int) : Bool := decide (0 ≤ w) && decide (w < prodM l)
def areW (l ws : List Int) : Bool := ws.all (inW l)
theorem areW_ok (l ws : List Int) : areW l ws = true ↔ ∀ j, j < ws.length → 0 ≤ ws.getD j 0 ∧ ws.getD j 0 < prodM l := by
  simp only [areW, all_getD, inW, Bool.and_eq_true, decide_eq_true_eq]
theorem d_impl_areWords (l : List Int) (hs : isSpaceM l = true) (x : D) (ws : List Int) (hx : IsInts x ws) (hw : ws.length < 1048577) : Den PA f_impl_areWords [.d (.agg [ints l]), .d x] [.any, .any] (.d (db (areW l ws))) := by
  have e := areW_ok l ws
  refine den_go [] l_impl_areWords ?_
  simp (maxSteps := 1000000) (disch := (first | omega | (simp only [List.length_map, List.length_append, List.length_set, List.length_replicate, List.length_cons, List.length_nil, List.length_take, List.length_drop] <;> omega) | fail)) only [go_sem, ints, bools, mat, reduceIte, Nat.reduceEqDiff, Nat.reduceAdd, Nat.reduceBEq, Nat.reduceMul, Nat.reduceLeDiff, Nat.reduceLT, Nat.reduceMod, Nat.reduceDiv, Nat.reduceSub, reduceCtorEq, c_impl_areWords]
  first | refine goC_call [.r] (d_impl_count l hs) ?_ | refine goOC_call [.r] (d_impl_count l hs) ?_
  rcases hx with rfl | ⟨rfl, rfl⟩
  · repeat' (first | simp (maxSteps := 1000000) (disch := (first | omega | (simp only [List.length_map, List.length_append, List.length_set, List.length_replicate, List.length_cons, List.length_nil, List.length_take, List.length_drop] <;> omega) | fail)) only [go_sem, ints, bools, mat, reduceIte, Nat.reduceEqDiff, Nat.reduceAdd, Nat.reduceBEq, Nat.reduceMul, Nat.reduceLeDiff, Nat.reduceLT, Nat.reduceMod, Nat.reduceDiv, Nat.reduceSub, reduceCtorEq] | ((first | refine goIf_b (fun h => ?_) (fun h => ?_) | refine goG_b (fun h => ?_) (fun h => ?_) | refine goTG_b (fun h => ?_) (fun h => ?_) | refine goOG_b (fun h => ?_) (fun h => ?_)) <;> ((try simp only [Bool.not_eq_true', Bool.not_eq_false'] at h); (try simp only [h]); (try simp only [decide_eq_true_eq, decide_eq_false_iff_not, bne_iff_ne, bne_eq_false_iff_eq, beq_iff_eq, beq_eq_false_iff_ne, ne_eq, Int.not_lt, Int.not_le, Bool.and_eq_true, Bool.and_eq_false_iff, Bool.or_eq_true, Bool.or_eq_false_iff] at h))))
    refine go_loop (fun (j : Nat) => ⟨[(5, .d (di (prodM l))), (10, .d (ints ws)), (11, .d (di ws.length)), (12, .d (di j))], []⟩) (fun j => j ≤ ws.length ∧ ∀ i, i < j → 0 ≤ ws.getD i 0 ∧ ws.getD i 0 < prodM l) (fun j => ws.length - j) 0 ?_ ?_ ?_
    · (simp (maxSteps := 1000000) (disch := (first | omega | (simp only [List.length_map, List.length_append, List.length_set, List.length_replicate, List.length_cons, List.length_nil, List.length_take, List.length_drop] <;> omega) | fail)) only [go_sem, ints, bools, mat, reduceIte, Nat.reduceEqDiff, Nat.reduceAdd, Nat.reduceBEq, Nat.reduceMul, Nat.reduceLeDiff, Nat.reduceLT, Nat.reduceMod, Nat.reduceDiv, Nat.reduceSub, reduceCtorEq] <;> rfl)
    · simp
    · rintro j ⟨hj, hi⟩ J hJ
      repeat' (first | simp (maxSteps := 1000000) (disch := (first | omega | (simp only [List.length_map, List.length_append, List.length_set, List.length_replicate, List.length_cons, List.length_nil, List.length_take, List.length_drop] <;> omega) | fail)) only [go_sem, ints, bools, mat, reduceIte, Nat.reduceEqDiff, Nat.reduceAdd, Nat.reduceBEq, Nat.reduceMul, Nat.reduceLeDiff, Nat.reduceLT, Nat.reduceMod, Nat.reduceDiv, Nat.reduceSub, reduceCtorEq] | ((first | refine goIf_b (fun h => ?_) (fun h => ?_) | refine goG_b (fun h => ?_) (fun h => ?_) | refine goTG_b (fun h => ?_) (fun h => ?_) | refine goOG_b (fun h => ?_) (fun h => ?_)) <;> ((try simp only [Bool.not_eq_true', Bool.not_eq_false'] at h); (try simp only [h]); (try simp only [decide_eq_true_eq, decide_eq_false_iff_not, bne_iff_ne, bne_eq_false_iff_eq, beq_iff_eq, beq_eq_false_iff_ne, ne_eq, Int.not_lt, Int.not_le, Bool.and_eq_true, Bool.and_eq_false_iff, Bool.or_eq_true, Bool.or_eq_false_iff] at h))))
      · exact dbF fun h' => by have := e.1 h' j (by omega); omega
      · refine hJ (j + 1) ⟨by omega, all_ext hi (by omega)⟩ (by omega) _ (by (simp (maxSteps := 1000000) (disch := (first | omega | (simp only [List.length_map, List.length_append, List.length_set, List.length_replicate, List.length_cons, List.length_nil, List.length_take, List.length_drop] <;> omega) | fail)) only [go_sem, ints, bools, mat, reduceIte, Nat.reduceEqDiff, Nat.reduceAdd, Nat.reduceBEq, Nat.reduceMul, Nat.reduceLeDiff, Nat.reduceLT, Nat.reduceMod, Nat.reduceDiv, Nat.reduceSub, reduceCtorEq] <;> rfl))
      · exact dbF fun h' => by have := e.1 h' j (by omega); omega
      · exact dbT (e.2 fun i hi' => hi i (by omega))
  · repeat' (first | simp (maxSteps := 1000000) (disch := (first | omega | (simp only [List.length_map, List.length_append, List.length_set, List.length_replicate, List.length_cons, List.length_nil, List.length_take, List.length_drop] <;> omega) | fail)) only [go_sem, ints, bools, mat, reduceIte, Nat.reduceEqDiff, Nat.reduceAdd, Nat.reduceBEq, Nat.reduceMul, Nat.reduceLeDiff, Nat.reduceLT, Nat.reduceMod, Nat.reduceDiv, Nat.reduceSub, reduceCtorEq] | ((first | refine goIf_b (fun h => ?_) (fun h => ?_) | refine goG_b (fun h => ?_) (fun h => ?_) | refine goTG_b (fun h => ?_) (fun h => ?_) | refine goOG_b (fun h => ?_) (fun h => ?_)) <;> ((try simp only [Bool.not_eq_true', Bool.not_eq_false'] at h); (try simp only [h]); (try simp only [decide_eq_true_eq, decide_eq_false_iff_not, bne_iff_ne, bne_eq_false_iff_eq, beq_iff_eq, beq_eq_false_iff_ne, ne_eq, Int.not_lt, Int.not_le, Bool.and_eq_true, Bool.and_eq_false_iff, Bool.or_eq_true, Bool.or_eq_false_iff] at h))))
    refine go_loop (fun (_ : Unit) => ⟨[(5, .d (di (prodM l))), (10, .d nil), (11, .d (di 0)), (12, .d (di 0))], []⟩) (fun _ => True) (fun _ => 0) () ?_ trivial ?_
    · (simp (maxSteps := 1000000) (disch := (first | omega | (simp only [List.length_map, List.length_append, List.length_set, List.length_replicate, List.length_cons, List.length_nil, List.length_take, List.length_drop] <;> omega) | fail)) only [go_sem, ints, bools, mat, reduceIte, Nat.reduceEqDiff, Nat.reduceAdd, Nat.reduceBEq, Nat.reduceMul, Nat.reduceLeDiff, Nat.reduceLT, Nat.reduceMod, Nat.reduceDiv, Nat.reduceSub, reduceCtorEq] <;> rfl)
    · intro _ _ J _
      repeat' (first | simp (maxSteps := 1000000) (disch := (first | omega | (simp only [List.length_map, List.length_append, List.length_set, List.length_replicate, List.length_cons, List.length_nil, List.length_take, List.length_drop] <;> omega) | fail)) only [go_sem, ints, bools, mat, reduceIte, Nat.reduceEqDiff, Nat.reduceAdd, Nat.reduceBEq, Nat.reduceMul, Nat.reduceLeDiff, Nat.reduceLT, Nat.reduceMod, Nat.reduceDiv, Nat.reduceSub, reduceCtorEq] | ((first | refine goIf_b (fun h => ?_) (fun h => ?_) | refine goG_b (fun h => ?_) (fun h => ?_) | refine goTG_b (fun h => ?_) (fun h => ?_) | refine goOG_b (fun h => ?_) (fun h => ?_)) <;> ((try simp only [Bool.not_eq_true', Bool.not_eq_false'] at h); (try simp only [h]); (try simp only [decide_eq_true_eq, decide_eq_false_iff_not, bne_iff_ne, bne_eq_false_iff_eq, beq_iff_eq, beq_eq_false_iff_ne, ne_eq, Int.not_lt, Int.not_le, Bool.and_eq_true, Bool.and_eq_false_iff, Bool.or_eq_true, Bool.or_eq_false_iff] at h))))
      exact dbT rfl
abbrev wcM (l ws : List Int) : Int := if isSpaceM l then (if areW l ws then 0 else 2) else 1
theorem d_impl_wordCode (l : List Int) (hl : l.length < 1048577) (x : D) (ws : List Int) (hx : IsInts x ws) (hw : ws.length < 1048577) : Den PA f_impl_wordCode [.d (.agg [ints l]), .d x] [.any, .any] (.d (di (wcM l ws))) := by
  refine den_go [] l_impl_wordCode ?_
  simp (maxSteps := 1000000) (disch := (first | omega | (simp only [List.length_map, List.length_append, List.length_set, List.length_replicate, List.length_cons, List.length_nil, List.length_take, List.length_drop] <;> omega) | fail)) only [go_sem, ints, bools, mat, reduceIte, Nat.reduceEqDiff, Nat.reduceAdd, Nat.reduceBEq, Nat.reduceMul, Nat.reduceLeDiff, Nat.reduceLT, Nat.reduceMod, Nat.reduceDiv, Nat.reduceSub, reduceCtorEq, c_impl_wordCode, wcM]
  first | refine goC_call [.r] (d_impl_IsSpace l hl) ?_ | refine goOC_call [.r] (d_impl_IsSpace l hl) ?_
  repeat' (first | simp (maxSteps := 1000000) (disch := (first | omega | (simp only [List.length_map, List.length_append, List.length_set, List.length_replicate, List.length_cons, List.length_nil, List.length_take, List.length_drop] <;> omega) | fail)) only [go_sem, ints, bools, mat, reduceIte, Nat.reduceEqDiff, Nat.reduceAdd, Nat.reduceBEq, Nat.reduceMul, Nat.reduceLeDiff, Nat.reduceLT, Nat.reduceMod, Nat.reduceDiv, Nat.reduceSub, reduceCtorEq] | ((first | refine goIf_b (fun h => ?_) (fun h => ?_) | refine goG_b (fun h => ?_) (fun h => ?_) | refine goTG_b (fun h => ?_) (fun h => ?_) | refine goOG_b (fun h => ?_) (fun h => ?_)) <;> ((try simp only [Bool.not_eq_true', Bool.not_eq_false'] at h); (try simp only [h]); (try simp only [decide_eq_true_eq, decide_eq_false_iff_not, bne_iff_ne, bne_eq_false_iff_eq, beq_iff_eq, beq_eq_false_iff_ne, ne_eq, Int.not_lt, Int.not_le, Bool.and_eq_true, Bool.and_eq_false_iff, Bool.or_eq_true, Bool.or_eq_false_iff] at h))))
  first | refine goC_call [.r, .r] (d_impl_areWords l h x ws hx hw) ?_ | refine goOC_call [.r, .r] (d_impl_areWords l h x ws hx hw) ?_
  repeat' (first | simp (maxSteps := 1000000) (disch := (first | omega | (simp only [List.length_map, List.length_append, List.length_set, List.length_replicate, List.length_cons, List.length_nil, List.length_take, List.length_drop] <;> omega) | fail)) only [go_sem, ints, bools, mat, reduceIte, Nat.reduceEqDiff, Nat.reduceAdd, Nat.reduceBEq, Nat.reduceMul, Nat.reduceLeDiff, Nat.reduceLT, Nat.reduceMod, Nat.reduceDiv, Nat.reduceSub, reduceCtorEq] | ((first | refine goIf_b (fun h => ?_) (fun h => ?_) | refine goG_b (fun h => ?_) (fun h => ?_) | refine goTG_b (fun h => ?_) (fun h => ?_) | refine goOG_b (fun h => ?_) (fun h => ?_)) <;> ((try simp only [Bool.not_eq_true', Bool.not_eq_false'] at h); (try simp only [h]); (try simp only [decide_eq_true_eq, decide_eq_false_iff_not, bne_iff_ne, bne_eq_false_iff_eq, beq_iff_eq, beq_eq_false_iff_ne, ne_eq, Int.not_lt, Int.not_le, Bool.and_eq_true, Bool.and_eq_false_iff, Bool.or_eq_true, Bool.or_eq_false_iff] at h))))
theorem d_spec_l01Words (l : List Int) (hl : l.length < 1048577) (ws : List Int) (hw : ws.length < 1048577) : Den PA f_spec_l01Words [.d (.agg [ints l]), .d (ints ws)] [.any, .any] (.d (di (wcM l ws))) := by
  have e := areW_ok l ws
  refine den_go [] l_spec_l01Words ?_
  simp (maxSteps := 1000000) (disch := (first | omega | (simp only [List.length_map, List.length_append, List.length_set, List.length_replicate, List.length_cons, List.length_nil, List.length_take, List.length_drop] <;> omega) | fail)) only [go_sem, ints, bools, mat, reduceIte, Nat.reduceEqDiff, Nat.reduceAdd, Nat.reduceBEq, Nat.reduceMul, Nat.reduceLeDiff, Nat.reduceLT, Nat.reduceMod, Nat.reduceDiv, Nat.reduceSub, reduceCtorEq, c_spec_l01Words, wcM]
  first | refine goC_call [.r] (d_spec_l01Is l hl) ?_ | refine goOC_call [.r] (d_spec_l01Is l hl) ?_
  repeat' (first | simp (maxSteps := 1000000) (disch := (first | omega | (simp only [List.length_map, List.length_append, List.length_set, List.length_replicate, List.length_cons, List.length_nil, List.length_take, List.length_drop] <;> omega) | fail)) only [go_sem, ints, bools, mat, reduceIte, Nat.reduceEqDiff, Nat.reduceAdd, Nat.reduceBEq, Nat.reduceMul, Nat.reduceLeDiff, Nat.reduceLT, Nat.reduceMod, Nat.reduceDiv, Nat.reduceSub, reduceCtorEq] | ((first | refine goIf_b (fun h => ?_) (fun h => ?_) | refine goG_b (fun h => ?_) (fun h => ?_) | refine goTG_b (fun h => ?_) (fun h => ?_) | refine goOG_b (fun h => ?_) (fun h => ?_)) <;> ((try simp only [Bool.not_eq_true', Bool.not_eq_false'] at h); (try simp only [h]); (try simp only [decide_eq_true_eq, decide_eq_false_iff_not, bne_iff_ne, bne_eq_false_iff_eq, beq_iff_eq, beq_eq_false_iff_ne, ne_eq, Int.not_lt, Int.not_le, Bool.and_eq_true, Bool.and_eq_false_iff, Bool.or_eq_true, Bool.or_eq_false_iff] at h))))
  have hs := h
  have hp := isSpaceM_prod hs
  have hp1 := prodM_pos (isSpaceM_szs hs)
  have hn := isSpaceM_n hs
  refine go_loop (fun (j : Nat) => ⟨[(1, .d (ints ws)), (2, .ref 0 0), (5, .d (di j))], [some (.var [ints l])]⟩) (fun j => j ≤ ws.length ∧ ∀ i, i < j → 0 ≤ ws.getD i 0 ∧ ws.getD i 0 < prodM l) (fun j => ws.length - j) 0 ?_ ?_ ?_
  · (simp (maxSteps := 1000000) (disch := (first | omega | (simp only [List.length_map, List.length_append, List.length_set, List.length_replicate, List.length_cons, List.length_nil, List.length_take, List.length_drop] <;> omega) | fail)) only [go_sem, ints, bools, mat, reduceIte, Nat.reduceEqDiff, Nat.reduceAdd, Nat.reduceBEq, Nat.reduceMul, Nat.reduceLeDiff, Nat.reduceLT, Nat.reduceMod, Nat.reduceDiv, Nat.reduceSub, reduceCtorEq] <;> rfl)
  · simp
  · rintro j ⟨hj, hi⟩ J hJ
    repeat' (first | simp (maxSteps := 1000000) (disch := (first | omega | (simp only [List.length_map, List.length_append, List.length_set, List.length_replicate, List.length_cons, List.length_nil, List.length_take, List.length_drop] <;> omega) | fail)) only [go_sem, ints, bools, mat, reduceIte, Nat.reduceEqDiff, Nat.reduceAdd, Nat.reduceBEq, Nat.reduceMul, Nat.reduceLeDiff, Nat.reduceLT, Nat.reduceMod, Nat.reduceDiv, Nat.reduceSub, reduceCtorEq] | ((first | refine goIf_b (fun h => ?_) (fun h => ?_) | refine goG_b (fun h => ?_) (fun h => ?_) | refine goTG_b (fun h => ?_) (fun h => ?_) | refine goOG_b (fun h => ?_) (fun h => ?_)) <;> ((try simp only [Bool.not_eq_true', Bool.not_eq_false'] at h); (try simp only [h]); (try simp only [decide_eq_true_eq, decide_eq_false_iff_not, bne_iff_ne, bne_eq_false_iff_eq, beq_iff_eq, beq_eq_false_iff_ne, ne_eq, Int.not_lt, Int.not_le, Bool.and_eq_true, Bool.and_eq_false_iff, Bool.or_eq_true, Bool.or_eq_false_iff] at h)) <;> (try (exfalso; omega))) | refine goC_call [.r] (d_spec_l01N l (by omega) (isSpaceM_q hs)) ?_ | refine goOC_call [.r] (d_spec_l01N l (by omega) (isSpaceM_q hs)) ?_ | refine goC_call [.r, .r, .r] (d_spec_l01In (ws.getD j 0) 0 (prodM l - 1)) ?_ | refine goOC_call [.r, .r, .r] (d_spec_l01In (ws.getD j 0) 0 (prodM l - 1)) ?_)
    · refine hJ (j + 1) ⟨by omega, all_ext hi (by omega)⟩ (by omega) _ (by (simp (maxSteps := 1000000) (disch := (first | omega | (simp only [List.length_map, List.length_append, List.length_set, List.length_replicate, List.length_cons, List.length_nil, List.length_take, List.length_drop] <;> omega) | fail)) only [go_sem, ints, bools, mat, reduceIte, Nat.reduceEqDiff, Nat.reduceAdd, Nat.reduceBEq, Nat.reduceMul, Nat.reduceLeDiff, Nat.reduceLT, Nat.reduceMod, Nat.reduceDiv, Nat.reduceSub, reduceCtorEq] <;> rfl))
    · rw [if_neg]
      exact fun h' => by have := e.1 h' j (by omega); omega
    · rw [if_pos]
      exact e.2 fun i hi' => hi i (by omega)
theorem d_impl_digitsOf (l : List Int) (hs : isSpaceM l = true) (w : Int) (hw : 0 ≤ w) (hw2 : w < 1000000000000) : Den PA f_impl_digitsOf [.d (.agg [ints l]), .d (di w)] [.any, .any] (.d (dig (digM l w))) := by
  have hn := isSpaceM_n hs
  have hz := isSpaceM_szs hs
  refine den_go [] l_impl_digitsOf ?_
  repeat' (first | simp (maxSteps := 1000000) (disch := (first | omega | (simp only [List.length_map, List.length_append, List.length_set, List.length_replicate, List.length_cons, List.length_nil, List.length_take, List.length_drop] <;> omega) | fail)) only [go_sem, ints, bools, mat, reduceIte, Nat.reduceEqDiff, Nat.reduceAdd, Nat.reduceBEq, Nat.reduceMul, Nat.reduceLeDiff, Nat.reduceLT, Nat.reduceMod, Nat.reduceDiv, Nat.reduceSub, reduceCtorEq, c_impl_digitsOf] | ((first | refine goIf_b (fun h => ?_) (fun h => ?_) | refine goG_b (fun h => ?_) (fun h => ?_) | refine goTG_b (fun h => ?_) (fun h => ?_) | refine goOG_b (fun h => ?_) (fun h => ?_)) <;> ((try simp only [Bool.not_eq_true', Bool.not_eq_false'] at h); (try simp only [h]); (try simp only [decide_eq_true_eq, decide_eq_false_iff_not, bne_iff_ne, bne_eq_false_iff_eq, beq_iff_eq, beq_eq_false_iff_ne, ne_eq, Int.not_lt, Int.not_le, Bool.and_eq_true, Bool.and_eq_false_iff, Bool.or_eq_true, Bool.or_eq_false_iff] at h))))
  refine go_loop (fun (k : Nat) => ⟨[(1, .d (di (w / prodM (l.drop k)))), (2, .ref 0 0), (4, .ref 1 0), (5, .ref 2 0), (6, .d (di ((k : Int) - 1)))], [some (.var [ints l]), some (.var [dy 0, dy 0, dy 0, dy 0, dy 0, dy 0, dy 0, dy 0]), some (.var ((List.replicate k 0 ++ (digM (l.drop k) w ++ List.replicate (8 - l.length) 0)).map dy))]⟩) (fun k => k ≤ l.length) (fun k => k) l.length ?_ ?_ ?_
  · simp (maxSteps := 1000000) (disch := (first | omega | (simp only [List.length_map, List.length_append, List.length_set, List.length_replicate, List.length_cons, List.length_nil, List.length_take, List.length_drop] <;> omega) | fail)) only [go_sem, ints, bools, mat, reduceIte, Nat.reduceEqDiff, Nat.reduceAdd, Nat.reduceBEq, Nat.reduceMul, Nat.reduceLeDiff, Nat.reduceLT, Nat.reduceMod, Nat.reduceDiv, Nat.reduceSub, reduceCtorEq]
    have e1 : l.drop l.length = [] := by simp
    have e2 : List.replicate l.length (0 : Int) ++ List.replicate (8 - l.length) 0 = List.replicate 8 0 := by
      rw [List.replicate_append_replicate]; congr 1; omega
    rw [e1, digM, List.nil_append, e2, prodM_nil, Int.ediv_one]; rfl
  · simp
  · intro k hk J hJ
    rcases k with _ | i
    · have hdl := digM_len l w
      repeat' (first | simp (maxSteps := 1000000) (disch := (first | omega | (simp only [List.length_map, List.length_append, List.length_set, List.length_replicate, List.length_cons, List.length_nil, List.length_take, List.length_drop] <;> omega) | fail)) only [go_sem, ints, bools, mat, reduceIte, Nat.reduceEqDiff, Nat.reduceAdd, Nat.reduceBEq, Nat.reduceMul, Nat.reduceLeDiff, Nat.reduceLT, Nat.reduceMod, Nat.reduceDiv, Nat.reduceSub, reduceCtorEq] | ((first | refine goIf_b (fun h => ?_) (fun h => ?_) | refine goG_b (fun h => ?_) (fun h => ?_) | refine goTG_b (fun h => ?_) (fun h => ?_) | refine goOG_b (fun h => ?_) (fun h => ?_)) <;> ((try simp only [Bool.not_eq_true', Bool.not_eq_false'] at h); (try simp only [h]); (try simp only [decide_eq_true_eq, decide_eq_false_iff_not, bne_iff_ne, bne_eq_false_iff_eq, beq_iff_eq, beq_eq_false_iff_ne, ne_eq, Int.not_lt, Int.not_le, Bool.and_eq_true, Bool.and_eq_false_iff, Bool.or_eq_true, Bool.or_eq_false_iff] at h)) <;> (try (exfalso; omega))))
      simp [dig, pad8_eq (ds := digM l w) (by rw [digM_len]; omega), digM_len]
    · have hq := hz i (by omega)
      have hp := prodM_pos (szs_drop hz (i + 1))
      have hw' := div_le_self hw hp
      have hm := mod_bnd (x := w / prodM (l.drop (i + 1))) hq
      have hd := div_step (w := w) hz (i := i) (by omega)
      have hp' := prodM_pos (szs_drop hz i)
      have hw'' := div_le_self hw hp'
      have hlen : (List.replicate (i + 1) (0 : Int) ++ (digM (l.drop (i + 1)) w ++ List.replicate (8 - l.length) 0)).length = 8 := by simp [digM_len]; omega
      rw [← hd] at hw''
      repeat' (first | simp (maxSteps := 1000000) (disch := (first | omega | (simp only [List.length_map, List.length_append, List.length_set, List.length_replicate, List.length_cons, List.length_nil, List.length_take, List.length_drop] <;> omega) | fail)) only [go_sem, ints, bools, mat, reduceIte, Nat.reduceEqDiff, Nat.reduceAdd, Nat.reduceBEq, Nat.reduceMul, Nat.reduceLeDiff, Nat.reduceLT, Nat.reduceMod, Nat.reduceDiv, Nat.reduceSub, reduceCtorEq] | ((first | refine goIf_b (fun h => ?_) (fun h => ?_) | refine goG_b (fun h => ?_) (fun h => ?_) | refine goTG_b (fun h => ?_) (fun h => ?_) | refine goOG_b (fun h => ?_) (fun h => ?_)) <;> ((try simp only [Bool.not_eq_true', Bool.not_eq_false'] at h); (try simp only [h]); (try simp only [decide_eq_true_eq, decide_eq_false_iff_not, bne_iff_ne, bne_eq_false_iff_eq, beq_iff_eq, beq_eq_false_iff_ne, ne_eq, Int.not_lt, Int.not_le, Bool.and_eq_true, Bool.and_eq_false_iff, Bool.or_eq_true, Bool.or_eq_false_iff] at h)) <;> (try (exfalso; omega))))
      refine hJ i (by omega) (by omega) _ ?_
      simp (maxSteps := 1000000) (disch := (first | omega | (simp only [List.length_map, List.length_append, List.length_set, List.length_replicate, List.length_cons, List.length_nil, List.length_take, List.length_drop] <;> omega) | fail)) only [go_sem, ints, bools, mat, reduceIte, Nat.reduceEqDiff, Nat.reduceAdd, Nat.reduceBEq, Nat.reduceMul, Nat.reduceLeDiff, Nat.reduceLT, Nat.reduceMod, Nat.reduceDiv, Nat.reduceSub, reduceCtorEq]
      rw [set_rep, hd, digM_drop w (i := i) (by omega)]; rfl
/-- At how many places two words differ. -/
def farM : List Int → List Int → Int
  | a :: r, b :: s => (if a = b then 0 else 1) + farM r s
  | _, _ => 0
def farN (a b : List Int) : Nat → Int
  | 0 => 0
  | j + 1 => farN a b j + (if a.getD j 0 = b.getD j 0 then 0 else 1)
abbrev distM (l : List Int) (u w : Int) : Int := farM (digM l u) (digM l w)
theorem farN_cons (x y : Int) (a b : List Int) : ∀ j, farN (x :: a) (y :: b) (j + 1) = (if x = y then 0 else 1) + farN a b j
  | 0 => by simp [farN]
  | j + 1 => by rw [farN, farN_cons x y a b j, farN, Int.add_assoc]; rfl
theorem farN_nn (a b : List Int) : ∀ j : Nat, 0 ≤ farN a b j ∧ farN a b j ≤ j
  | 0 => by simp [farN]
  | j + 1 => by have := farN_nn a b j; simp only [farN]; split <;> omega
theorem farN_farM : ∀ (a b z : List Int) (k : Nat), a.length = b.length → k = a.length + z.length → farN (a ++ z) (b ++ z) k = farM a b
  | [], [], z, k, _, hk => by
    simp only [List.nil_append, farM]
    clear hk
    induction k with
    | zero => rfl
    | succ k ih => simp [farN, ih]
  | x :: a, y :: b, z, k, h, hk => by
    rcases k with _ | k
    · simp only [List.length_cons] at hk; omega
    · rw [List.cons_append, List.cons_append, farN_cons, farN_farM a b z k (by simpa using h) (by simp at hk; omega)]; rfl
  | [], _ :: _, _, _, h, _ => by simp at h
  | _ :: _, [], _, _, h, _ => by simp at h
theorem farM_bnd : ∀ (a b : List Int), 0 ≤ farM a b ∧ farM a b ≤ a.length
  | [], _ => by simp [farM]
  | _ :: _, [] => by simp [farM]; omega
  | x :: a, y :: b => by have := farM_bnd a b; simp only [farM, List.length_cons]; split <;> omega
theorem distM_bnd (l : List Int) (u w : Int) : 0 ≤ distM l u w ∧ distM l u w ≤ l.length := by
  have := farM_bnd (digM l u) (digM l w); rwa [digM_len] at this
theorem d_impl_far (a b : List Int) (ha : a.length = b.length) (h8 : a.length ≤ 8) : Den PA f_impl_far [.d (dig a), .d (dig b)] [.any, .any] (.d (di (farM a b))) := by
  have e := farN_farM a b (List.replicate (8 - a.length) 0) 8 ha (by simp; omega)
  have ea := pad8_len a
  have eb := pad8_len b
  have e' : farN (pad8 a) (pad8 b) 8 = farM a b := by rw [← e, pad8_eq h8, pad8_eq (ds := b) (by omega)]; simp only [ha]
  refine den_go [] l_impl_far ?_
  repeat' (first | simp (maxSteps := 1000000) (disch := (first | omega | (simp only [List.length_map, List.length_append, List.length_set, List.length_replicate, List.length_cons, List.length_nil, List.length_take, List.length_drop] <;> omega) | fail)) only [go_sem, ints, bools, mat, reduceIte, Nat.reduceEqDiff, Nat.reduceAdd, Nat.reduceBEq, Nat.reduceMul, Nat.reduceLeDiff, Nat.reduceLT, Nat.reduceMod, Nat.reduceDiv, Nat.reduceSub, reduceCtorEq, c_impl_far] | ((first | refine goIf_b (fun h => ?_) (fun h => ?_) | refine goG_b (fun h => ?_) (fun h => ?_) | refine goTG_b (fun h => ?_) (fun h => ?_) | refine goOG_b (fun h => ?_) (fun h => ?_)) <;> ((try simp only [Bool.not_eq_true', Bool.not_eq_false'] at h); (try simp only [h]); (try simp only [decide_eq_true_eq, decide_eq_false_iff_not, bne_iff_ne, bne_eq_false_iff_eq, beq_iff_eq, beq_eq_false_iff_ne, ne_eq, Int.not_lt, Int.not_le, Bool.and_eq_true, Bool.and_eq_false_iff, Bool.or_eq_true, Bool.or_eq_false_iff] at h))))
  refine go_loop (fun (j : Nat) => ⟨[(3, .ref 0 0), (5, .d (di (farN (pad8 a) (pad8 b) j))), (8, .d (dig a)), (9, .d (di j))], [some (.var ((pad8 b).map dy))]⟩) (fun j => j ≤ 8) (fun j => 8 - j) 0 ?_ ?_ ?_
  · (simp (maxSteps := 1000000) (disch := (first | omega | (simp only [List.length_map, List.length_append, List.length_set, List.length_replicate, List.length_cons, List.length_nil, List.length_take, List.length_drop] <;> omega) | fail)) only [go_sem, ints, bools, mat, reduceIte, Nat.reduceEqDiff, Nat.reduceAdd, Nat.reduceBEq, Nat.reduceMul, Nat.reduceLeDiff, Nat.reduceLT, Nat.reduceMod, Nat.reduceDiv, Nat.reduceSub, reduceCtorEq] <;> rfl)
  · simp
  · rintro j hj J hJ
    have hb := farN_nn (pad8 a) (pad8 b) j
    repeat' (first | simp (maxSteps := 1000000) (disch := (first | omega | (simp only [List.length_map, List.length_append, List.length_set, List.length_replicate, List.length_cons, List.length_nil, List.length_take, List.length_drop] <;> omega) | fail)) only [go_sem, ints, bools, mat, reduceIte, Nat.reduceEqDiff, Nat.reduceAdd, Nat.reduceBEq, Nat.reduceMul, Nat.reduceLeDiff, Nat.reduceLT, Nat.reduceMod, Nat.reduceDiv, Nat.reduceSub, reduceCtorEq] | ((first | refine goIf_b (fun h => ?_) (fun h => ?_) | refine goG_b (fun h => ?_) (fun h => ?_) | refine goTG_b (fun h => ?_) (fun h => ?_) | refine goOG_b (fun h => ?_) (fun h => ?_)) <;> ((try simp only [Bool.not_eq_true', Bool.not_eq_false'] at h); (try simp only [h]); (try simp only [decide_eq_true_eq, decide_eq_false_iff_not, bne_iff_ne, bne_eq_false_iff_eq, beq_iff_eq, beq_eq_false_iff_ne, ne_eq, Int.not_lt, Int.not_le, Bool.and_eq_true, Bool.and_eq_false_iff, Bool.or_eq_true, Bool.or_eq_false_iff] at h)) <;> (try (exfalso; omega))))
    · refine hJ (j + 1) (by omega) (by omega) _ ?_
      simp (maxSteps := 1000000) (disch := (first | omega | (simp only [List.length_map, List.length_append, List.length_set, List.length_replicate, List.length_cons, List.length_nil, List.length_take, List.length_drop] <;> omega) | fail)) only [go_sem, ints, bools, mat, reduceIte, Nat.reduceEqDiff, Nat.reduceAdd, Nat.reduceBEq, Nat.reduceMul, Nat.reduceLeDiff, Nat.reduceLT, Nat.reduceMod, Nat.reduceDiv, Nat.reduceSub, reduceCtorEq]
      rw [farN, if_neg (by assumption)]; rfl
    · refine hJ (j + 1) (by omega) (by omega) _ ?_
      simp (maxSteps := 1000000) (disch := (first | omega | (simp only [List.length_map, List.length_append, List.length_set, List.length_replicate, List.length_cons, List.length_nil, List.length_take, List.length_drop] <;> omega) | fail)) only [go_sem, ints, bools, mat, reduceIte, Nat.reduceEqDiff, Nat.reduceAdd, Nat.reduceBEq, Nat.reduceMul, Nat.reduceLeDiff, Nat.reduceLT, Nat.reduceMod, Nat.reduceDiv, Nat.reduceSub, reduceCtorEq]
      rw [farN, if_pos (by assumption), Int.add_zero]; rfl
    · have : j = 8 := by omega
      subst this; rw [e']
theorem d_impl_distance (l : List Int) (hs : isSpaceM l = true) (u w : Int) (hu : 0 ≤ u) (hu2 : u < 1000000000000) (hw : 0 ≤ w) (hw2 : w < 1000000000000) : Den PA f_impl_distance [.d (.agg [ints l]), .d (di u), .d (di w)] [.any, .any, .any] (.d (di (distM l u w))) := by
  have hn := isSpaceM_n hs
  refine den_go [] l_impl_distance ?_
  repeat' (first | simp (maxSteps := 1000000) (disch := (first | omega | (simp only [List.length_map, List.length_append, List.length_set, List.length_replicate, List.length_cons, List.length_nil, List.length_take, List.length_drop] <;> omega) | fail)) only [go_sem, ints, bools, mat, reduceIte, Nat.reduceEqDiff, Nat.reduceAdd, Nat.reduceBEq, Nat.reduceMul, Nat.reduceLeDiff, Nat.reduceLT, Nat.reduceMod, Nat.reduceDiv, Nat.reduceSub, reduceCtorEq, c_impl_distance] | ((first | refine goIf_b (fun h => ?_) (fun h => ?_) | refine goG_b (fun h => ?_) (fun h => ?_) | refine goTG_b (fun h => ?_) (fun h => ?_) | refine goOG_b (fun h => ?_) (fun h => ?_)) <;> ((try simp only [Bool.not_eq_true', Bool.not_eq_false'] at h); (try simp only [h]); (try simp only [decide_eq_true_eq, decide_eq_false_iff_not, bne_iff_ne, bne_eq_false_iff_eq, beq_iff_eq, beq_eq_false_iff_ne, ne_eq, Int.not_lt, Int.not_le, Bool.and_eq_true, Bool.and_eq_false_iff, Bool.or_eq_true, Bool.or_eq_false_iff] at h)) <;> (try (exfalso; omega))))
  first | refine goC_call [.r, .r] (d_impl_digitsOf l hs u hu hu2) ?_ | refine goOC_call [.r, .r] (d_impl_digitsOf l hs u hu hu2) ?_
  repeat' (first | simp (maxSteps := 1000000) (disch := (first | omega | (simp only [List.length_map, List.length_append, List.length_set, List.length_replicate, List.length_cons, List.length_nil, List.length_take, List.length_drop] <;> omega) | fail)) only [go_sem, ints, bools, mat, reduceIte, Nat.reduceEqDiff, Nat.reduceAdd, Nat.reduceBEq, Nat.reduceMul, Nat.reduceLeDiff, Nat.reduceLT, Nat.reduceMod, Nat.reduceDiv, Nat.reduceSub, reduceCtorEq] | ((first | refine goIf_b (fun h => ?_) (fun h => ?_) | refine goG_b (fun h => ?_) (fun h => ?_) | refine goTG_b (fun h => ?_) (fun h => ?_) | refine goOG_b (fun h => ?_) (fun h => ?_)) <;> ((try simp only [Bool.not_eq_true', Bool.not_eq_false'] at h); (try simp only [h]); (try simp only [decide_eq_true_eq, decide_eq_false_iff_not, bne_iff_ne, bne_eq_false_iff_eq, beq_iff_eq, beq_eq_false_iff_ne, ne_eq, Int.not_lt, Int.not_le, Bool.and_eq_true, Bool.and_eq_false_iff, Bool.or_eq_true, Bool.or_eq_false_iff] at h)) <;> (try (exfalso; omega))))
  first | refine goC_call [.r, .r] (d_impl_digitsOf l hs w hw hw2) ?_ | refine goOC_call [.r, .r] (d_impl_digitsOf l hs w hw hw2) ?_
  repeat' (first | simp (maxSteps := 1000000) (disch := (first | omega | (simp only [List.length_map, List.length_append, List.length_set, List.length_replicate, List.length_cons, List.length_nil, List.length_take, List.length_drop] <;> omega) | fail)) only [go_sem, ints, bools, mat, reduceIte, Nat.reduceEqDiff, Nat.reduceAdd, Nat.reduceBEq, Nat.reduceMul, Nat.reduceLeDiff, Nat.reduceLT, Nat.reduceMod, Nat.reduceDiv, Nat.reduceSub, reduceCtorEq] | ((first | refine goIf_b (fun h => ?_) (fun h => ?_) | refine goG_b (fun h => ?_) (fun h => ?_) | refine goTG_b (fun h => ?_) (fun h => ?_) | refine goOG_b (fun h => ?_) (fun h => ?_)) <;> ((try simp only [Bool.not_eq_true', Bool.not_eq_false'] at h); (try simp only [h]); (try simp only [decide_eq_true_eq, decide_eq_false_iff_not, bne_iff_ne, bne_eq_false_iff_eq, beq_iff_eq, beq_eq_false_iff_ne, ne_eq, Int.not_lt, Int.not_le, Bool.and_eq_true, Bool.and_eq_false_iff, Bool.or_eq_true, Bool.or_eq_false_iff] at h)) <;> (try (exfalso; omega))))
  first | refine goC_call [.r, .r] (d_impl_far (digM l u) (digM l w) (by rw [digM_len, digM_len]) (by rw [digM_len]; omega)) ?_ | refine goOC_call [.r, .r] (d_impl_far (digM l u) (digM l w) (by rw [digM_len, digM_len]) (by rw [digM_len]; omega)) ?_
  repeat' (first | simp (maxSteps := 1000000) (disch := (first | omega | (simp only [List.length_map, List.length_append, List.length_set, List.length_replicate, List.length_cons, List.length_nil, List.length_take, List.length_drop] <;> omega) | fail)) only [go_sem, ints, bools, mat, reduceIte, Nat.reduceEqDiff, Nat.reduceAdd, Nat.reduceBEq, Nat.reduceMul, Nat.reduceLeDiff, Nat.reduceLT, Nat.reduceMod, Nat.reduceDiv, Nat.reduceSub, reduceCtorEq] | ((first | refine goIf_b (fun h => ?_) (fun h => ?_) | refine goG_b (fun h => ?_) (fun h => ?_) | refine goTG_b (fun h => ?_) (fun h => ?_) | refine goOG_b (fun h => ?_) (fun h => ?_)) <;> ((try simp only [Bool.not_eq_true', Bool.not_eq_false'] at h); (try simp only [h]); (try simp only [decide_eq_true_eq, decide_eq_false_iff_not, bne_iff_ne, bne_eq_false_iff_eq, beq_iff_eq, beq_eq_false_iff_ne, ne_eq, Int.not_lt, Int.not_le, Bool.and_eq_true, Bool.and_eq_false_iff, Bool.or_eq_true, Bool.or_eq_false_iff] at h)) <;> (try (exfalso; omega))))
theorem d_spec_l01Distance (l : List Int) (hs : isSpaceM l = true) (u w : Int) (hu : 0 ≤ u) (hu2 : u < 1000000000000) (hw : 0 ≤ w) (hw2 : w < 1000000000000) : Den PA f_spec_l01Distance [.d (.agg [ints l]), .d (di u), .d (di w)] [.any, .any, .any] (.d (di (distM l u w))) := by
  have hn := isSpaceM_n hs
  have hz := isSpaceM_szs hs
  refine den_go [] l_spec_l01Distance ?_
  repeat' (first | simp (maxSteps := 1000000) (disch := (first | omega | (simp only [List.length_map, List.length_append, List.length_set, List.length_replicate, List.length_cons, List.length_nil, List.length_take, List.length_drop] <;> omega) | fail)) only [go_sem, ints, bools, mat, reduceIte, Nat.reduceEqDiff, Nat.reduceAdd, Nat.reduceBEq, Nat.reduceMul, Nat.reduceLeDiff, Nat.reduceLT, Nat.reduceMod, Nat.reduceDiv, Nat.reduceSub, reduceCtorEq, c_spec_l01Distance] | ((first | refine goIf_b (fun h => ?_) (fun h => ?_) | refine goG_b (fun h => ?_) (fun h => ?_) | refine goTG_b (fun h => ?_) (fun h => ?_) | refine goOG_b (fun h => ?_) (fun h => ?_)) <;> ((try simp only [Bool.not_eq_true', Bool.not_eq_false'] at h); (try simp only [h]); (try simp only [decide_eq_true_eq, decide_eq_false_iff_not, bne_iff_ne, bne_eq_false_iff_eq, beq_iff_eq, beq_eq_false_iff_ne, ne_eq, Int.not_lt, Int.not_le, Bool.and_eq_true, Bool.and_eq_false_iff, Bool.or_eq_true, Bool.or_eq_false_iff] at h))))
  refine go_loop (fun (k : Nat) => ⟨[(1, .d (di (u / prodM (l.drop k)))), (2, .d (di (w / prodM (l.drop k)))), (3, .ref 0 0), (7, .d (di (farM (digM (l.drop k) u) (digM (l.drop k) w)))), (8, .d (di ((k : Int) - 1)))], [some (.var [ints l])]⟩) (fun k => k ≤ l.length) (fun k => k) l.length ?_ ?_ ?_
  · simp (maxSteps := 1000000) (disch := (first | omega | (simp only [List.length_map, List.length_append, List.length_set, List.length_replicate, List.length_cons, List.length_nil, List.length_take, List.length_drop] <;> omega) | fail)) only [go_sem, ints, bools, mat, reduceIte, Nat.reduceEqDiff, Nat.reduceAdd, Nat.reduceBEq, Nat.reduceMul, Nat.reduceLeDiff, Nat.reduceLT, Nat.reduceMod, Nat.reduceDiv, Nat.reduceSub, reduceCtorEq]
    have e1 : l.drop l.length = [] := by simp
    rw [e1, digM, digM, farM, prodM_nil, Int.ediv_one, Int.ediv_one]
    intros; simp_all
  · simp
  · intro k hk J hJ
    rcases k with _ | i
    · repeat' (first | simp (maxSteps := 1000000) (disch := (first | omega | (simp only [List.length_map, List.length_append, List.length_set, List.length_replicate, List.length_cons, List.length_nil, List.length_take, List.length_drop] <;> omega) | fail)) only [go_sem, ints, bools, mat, reduceIte, Nat.reduceEqDiff, Nat.reduceAdd, Nat.reduceBEq, Nat.reduceMul, Nat.reduceLeDiff, Nat.reduceLT, Nat.reduceMod, Nat.reduceDiv, Nat.reduceSub, reduceCtorEq] | ((first | refine goIf_b (fun h => ?_) (fun h => ?_) | refine goG_b (fun h => ?_) (fun h => ?_) | refine goTG_b (fun h => ?_) (fun h => ?_) | refine goOG_b (fun h => ?_) (fun h => ?_)) <;> ((try simp only [Bool.not_eq_true', Bool.not_eq_false'] at h); (try simp only [h]); (try simp only [decide_eq_true_eq, decide_eq_false_iff_not, bne_iff_ne, bne_eq_false_iff_eq, beq_iff_eq, beq_eq_false_iff_ne, ne_eq, Int.not_lt, Int.not_le, Bool.and_eq_true, Bool.and_eq_false_iff, Bool.or_eq_true, Bool.or_eq_false_iff] at h)) <;> (try (exfalso; omega))))
    · have hq := hz i (by omega)
      have hp := prodM_pos (szs_drop hz (i + 1))
      have hw' := div_le_self hw hp
      have hu' := div_le_self hu hp
      have hd := div_step (w := w) hz (i := i) (by omega)
      have hd2 := div_step (w := u) hz (i := i) (by omega)
      have hp' := prodM_pos (szs_drop hz i)
      have hw'' := div_le_self hw hp'
      have hu'' := div_le_self hu hp'
      have hf := farM_bnd (digM (l.drop (i + 1)) u) (digM (l.drop (i + 1)) w)
      rw [digM_len, List.length_drop] at hf
      rw [← hd] at hw''
      rw [← hd2] at hu''
      repeat' (first | simp (maxSteps := 1000000) (disch := (first | omega | (simp only [List.length_map, List.length_append, List.length_set, List.length_replicate, List.length_cons, List.length_nil, List.length_take, List.length_drop] <;> omega) | fail)) only [go_sem, ints, bools, mat, reduceIte, Nat.reduceEqDiff, Nat.reduceAdd, Nat.reduceBEq, Nat.reduceMul, Nat.reduceLeDiff, Nat.reduceLT, Nat.reduceMod, Nat.reduceDiv, Nat.reduceSub, reduceCtorEq] | ((first | refine goIf_b (fun h => ?_) (fun h => ?_) | refine goG_b (fun h => ?_) (fun h => ?_) | refine goTG_b (fun h => ?_) (fun h => ?_) | refine goOG_b (fun h => ?_) (fun h => ?_)) <;> ((try simp only [Bool.not_eq_true', Bool.not_eq_false'] at h); (try simp only [h]); (try simp only [decide_eq_true_eq, decide_eq_false_iff_not, bne_iff_ne, bne_eq_false_iff_eq, beq_iff_eq, beq_eq_false_iff_ne, ne_eq, Int.not_lt, Int.not_le, Bool.and_eq_true, Bool.and_eq_false_iff, Bool.or_eq_true, Bool.or_eq_false_iff] at h)) <;> (try (exfalso; omega))))
      · refine hJ i (by omega) (by omega) _ ?_
        simp (maxSteps := 1000000) (disch := (first | omega | (simp only [List.length_map, List.length_append, List.length_set, List.length_replicate, List.length_cons, List.length_nil, List.length_take, List.length_drop] <;> omega) | fail)) only [go_sem, ints, bools, mat, reduceIte, Nat.reduceEqDiff, Nat.reduceAdd, Nat.reduceBEq, Nat.reduceMul, Nat.reduceLeDiff, Nat.reduceLT, Nat.reduceMod, Nat.reduceDiv, Nat.reduceSub, reduceCtorEq]
        rw [hd, hd2, digM_drop w (i := i) (by omega), digM_drop u (i := i) (by omega), farM, if_neg h, Int.add_comm]
      · refine hJ i (by omega) (by omega) _ ?_
        simp (maxSteps := 1000000) (disch := (first | omega | (simp only [List.length_map, List.length_append, List.length_set, List.length_replicate, List.length_cons, List.length_nil, List.length_take, List.length_drop] <;> omega) | fail)) only [go_sem, ints, bools, mat, reduceIte, Nat.reduceEqDiff, Nat.reduceAdd, Nat.reduceBEq, Nat.reduceMul, Nat.reduceLeDiff, Nat.reduceLT, Nat.reduceMod, Nat.reduceDiv, Nat.reduceSub, reduceCtorEq]
        rw [hd, hd2, digM_drop w (i := i) (by omega), digM_drop u (i := i) (by omega), farM, if_pos h, Int.zero_add]
abbrev hitsR (l : List Int) (w r : Int) : R := .tup [.d (di (if wcM l [w, r] = 0 then l.length - distM l w r else 0)), .d (di (wcM l [w, r]))]
theorem wcM_two {l : List Int} {a b : Int} (h : wcM l [a, b] = 0) : isSpaceM l = true ∧ (0 ≤ a ∧ a < prodM l) ∧ 0 ≤ b ∧ b < prodM l := by
  unfold wcM at h
  split at h
  · rename_i hs
    split at h
    · rename_i hw
      simp only [areW, inW, List.all_cons, List.all_nil, Bool.and_true, Bool.and_eq_true, decide_eq_true_eq] at hw
      exact ⟨hs, hw⟩
    · cases h
  · cases h
theorem d_spec_HitsOf (l : List Int) (hl : l.length < 1048577) (w r : Int) : Den PA f_spec_HitsOf [.d (.agg [ints l]), .d (di w), .d (di r)] [.any, .any, .any] (hitsR l w r) := by
  refine den_go [] l_spec_HitsOf ?_
  repeat' (first | simp (maxSteps := 1000000) (disch := (first | omega | (simp only [List.length_map, List.length_append, List.length_set, List.length_replicate, List.length_cons, List.length_nil, List.length_take, List.length_drop] <;> omega) | fail)) only [go_sem, ints, bools, mat, reduceIte, Nat.reduceEqDiff, Nat.reduceAdd, Nat.reduceBEq, Nat.reduceMul, Nat.reduceLeDiff, Nat.reduceLT, Nat.reduceMod, Nat.reduceDiv, Nat.reduceSub, reduceCtorEq, c_spec_HitsOf, hitsR] | ((first | refine goIf_b (fun h => ?_) (fun h => ?_) | refine goG_b (fun h => ?_) (fun h => ?_) | refine goTG_b (fun h => ?_) (fun h => ?_) | refine goOG_b (fun h => ?_) (fun h => ?_)) <;> ((try simp only [Bool.not_eq_true', Bool.not_eq_false'] at h); (try simp only [h]); (try simp only [decide_eq_true_eq, decide_eq_false_iff_not, bne_iff_ne, bne_eq_false_iff_eq, beq_iff_eq, beq_eq_false_iff_ne, ne_eq, Int.not_lt, Int.not_le, Bool.and_eq_true, Bool.and_eq_false_iff, Bool.or_eq_true, Bool.or_eq_false_iff] at h))))
  first | refine goC_call [.r, .r] (d_spec_l01Words l hl [w, r] (by simp)) ?_ | refine goOC_call [.r, .r] (d_spec_l01Words l hl [w, r] (by simp)) ?_
  by_cases h : wcM l [w, r] = 0
  · obtain ⟨hs, hw, hr⟩ := wcM_two h
    have hp := isSpaceM_prod hs
    have hb := distM_bnd l w r
    have hn := isSpaceM_n hs
    rw [h]
    repeat' (first | simp (maxSteps := 1000000) (disch := (first | omega | (simp only [List.length_map, List.length_append, List.length_set, List.length_replicate, List.length_cons, List.length_nil, List.length_take, List.length_drop] <;> omega) | fail)) only [go_sem, ints, bools, mat, reduceIte, Nat.reduceEqDiff, Nat.reduceAdd, Nat.reduceBEq, Nat.reduceMul, Nat.reduceLeDiff, Nat.reduceLT, Nat.reduceMod, Nat.reduceDiv, Nat.reduceSub, reduceCtorEq] | ((first | refine goIf_b (fun h => ?_) (fun h => ?_) | refine goG_b (fun h => ?_) (fun h => ?_) | refine goTG_b (fun h => ?_) (fun h => ?_) | refine goOG_b (fun h => ?_) (fun h => ?_)) <;> ((try simp only [Bool.not_eq_true', Bool.not_eq_false'] at h); (try simp only [h]); (try simp only [decide_eq_true_eq, decide_eq_false_iff_not, bne_iff_ne, bne_eq_false_iff_eq, beq_iff_eq, beq_eq_false_iff_ne, ne_eq, Int.not_lt, Int.not_le, Bool.and_eq_true, Bool.and_eq_false_iff, Bool.or_eq_true, Bool.or_eq_false_iff] at h))))
    first | refine goC_call [.r, .r, .r] (d_spec_l01Distance l hs w r (by omega) (by omega) (by omega) (by omega)) ?_ | refine goOC_call [.r, .r, .r] (d_spec_l01Distance l hs w r (by omega) (by omega) (by omega) (by omega)) ?_
    repeat' (first | simp (maxSteps := 1000000) (disch := (first | omega | (simp only [List.length_map, List.length_append, List.length_set, List.length_replicate, List.length_cons, List.length_nil, List.length_take, List.length_drop] <;> omega) | fail)) only [go_sem, ints, bools, mat, reduceIte, Nat.reduceEqDiff, Nat.reduceAdd, Nat.reduceBEq, Nat.reduceMul, Nat.reduceLeDiff, Nat.reduceLT, Nat.reduceMod, Nat.reduceDiv, Nat.reduceSub, reduceCtorEq] | ((first | refine goIf_b (fun h => ?_) (fun h => ?_) | refine goG_b (fun h => ?_) (fun h => ?_) | refine goTG_b (fun h => ?_) (fun h => ?_) | refine goOG_b (fun h => ?_) (fun h => ?_)) <;> ((try simp only [Bool.not_eq_true', Bool.not_eq_false'] at h); (try simp only [h]); (try simp only [decide_eq_true_eq, decide_eq_false_iff_not, bne_iff_ne, bne_eq_false_iff_eq, beq_iff_eq, beq_eq_false_iff_ne, ne_eq, Int.not_lt, Int.not_le, Bool.and_eq_true, Bool.and_eq_false_iff, Bool.or_eq_true, Bool.or_eq_false_iff] at h))))
  · rw [if_neg h]
    generalize wcM l [w, r] = c at h
    repeat' (first | simp (maxSteps := 1000000) (disch := (first | omega | (simp only [List.length_map, List.length_append, List.length_set, List.length_replicate, List.length_cons, List.length_nil, List.length_take, List.length_drop] <;> omega) | fail)) only [go_sem, ints, bools, mat, reduceIte, Nat.reduceEqDiff, Nat.reduceAdd, Nat.reduceBEq, Nat.reduceMul, Nat.reduceLeDiff, Nat.reduceLT, Nat.reduceMod, Nat.reduceDiv, Nat.reduceSub, reduceCtorEq] | ((first | refine goIf_b (fun h => ?_) (fun h => ?_) | refine goG_b (fun h => ?_) (fun h => ?_) | refine goTG_b (fun h => ?_) (fun h => ?_) | refine goOG_b (fun h => ?_) (fun h => ?_)) <;> ((try simp only [Bool.not_eq_true', Bool.not_eq_false'] at h); (try simp only [h]); (try simp only [decide_eq_true_eq, decide_eq_false_iff_not, bne_iff_ne, bne_eq_false_iff_eq, beq_iff_eq, beq_eq_false_iff_ne, ne_eq, Int.not_lt, Int.not_le, Bool.and_eq_true, Bool.and_eq_false_iff, Bool.or_eq_true, Bool.or_eq_false_iff] at h))))
    · omega
theorem d_impl_HitsOf (l : List Int) (hl : l.length < 1048577) (w r : Int) : Den PA f_impl_HitsOf [.d (.agg [ints l]), .d (di w), .d (di r)] [.any, .any, .any] (hitsR l w r) := by
  refine den_go [] l_impl_HitsOf ?_
  repeat' (first | simp (maxSteps := 1000000) (disch := (first | omega | (simp only [List.length_map, List.length_append, List.length_set, List.length_replicate, List.length_cons, List.length_nil, List.length_take, List.length_drop] <;> omega) | fail)) only [go_sem, ints, bools, mat, reduceIte, Nat.reduceEqDiff, Nat.reduceAdd, Nat.reduceBEq, Nat.reduceMul, Nat.reduceLeDiff, Nat.reduceLT, Nat.reduceMod, Nat.reduceDiv, Nat.reduceSub, reduceCtorEq, c_impl_HitsOf, hitsR] | ((first | refine goIf_b (fun h => ?_) (fun h => ?_) | refine goG_b (fun h => ?_) (fun h => ?_) | refine goTG_b (fun h => ?_) (fun h => ?_) | refine goOG_b (fun h => ?_) (fun h => ?_)) <;> ((try simp only [Bool.not_eq_true', Bool.not_eq_false'] at h); (try simp only [h]); (try simp only [decide_eq_true_eq, decide_eq_false_iff_not, bne_iff_ne, bne_eq_false_iff_eq, beq_iff_eq, beq_eq_false_iff_ne, ne_eq, Int.not_lt, Int.not_le, Bool.and_eq_true, Bool.and_eq_false_iff, Bool.or_eq_true, Bool.or_eq_false_iff] at h))))
  first | refine goC_call [.r, .r] (d_impl_wordCode l hl _ [w, r] (.inl rfl) (by simp)) ?_ | refine goOC_call [.r, .r] (d_impl_wordCode l hl _ [w, r] (.inl rfl) (by simp)) ?_
  by_cases h : wcM l [w, r] = 0
  · obtain ⟨hs, hw, hr⟩ := wcM_two h
    have hp := isSpaceM_prod hs
    have hb := distM_bnd l w r
    have hn := isSpaceM_n hs
    rw [h]
    repeat' (first | simp (maxSteps := 1000000) (disch := (first | omega | (simp only [List.length_map, List.length_append, List.length_set, List.length_replicate, List.length_cons, List.length_nil, List.length_take, List.length_drop] <;> omega) | fail)) only [go_sem, ints, bools, mat, reduceIte, Nat.reduceEqDiff, Nat.reduceAdd, Nat.reduceBEq, Nat.reduceMul, Nat.reduceLeDiff, Nat.reduceLT, Nat.reduceMod, Nat.reduceDiv, Nat.reduceSub, reduceCtorEq] | ((first | refine goIf_b (fun h => ?_) (fun h => ?_) | refine goG_b (fun h => ?_) (fun h => ?_) | refine goTG_b (fun h => ?_) (fun h => ?_) | refine goOG_b (fun h => ?_) (fun h => ?_)) <;> ((try simp only [Bool.not_eq_true', Bool.not_eq_false'] at h); (try simp only [h]); (try simp only [decide_eq_true_eq, decide_eq_false_iff_not, bne_iff_ne, bne_eq_false_iff_eq, beq_iff_eq, beq_eq_false_iff_ne, ne_eq, Int.not_lt, Int.not_le, Bool.and_eq_true, Bool.and_eq_false_iff, Bool.or_eq_true, Bool.or_eq_false_iff] at h))))
    first | refine goC_call [.r] (d_impl_places l hl) ?_ | refine goOC_call [.r] (d_impl_places l hl) ?_
    repeat' (first | simp (maxSteps := 1000000) (disch := (first | omega | (simp only [List.length_map, List.length_append, List.length_set, List.length_replicate, List.length_cons, List.length_nil, List.length_take, List.length_drop] <;> omega) | fail)) only [go_sem, ints, bools, mat, reduceIte, Nat.reduceEqDiff, Nat.reduceAdd, Nat.reduceBEq, Nat.reduceMul, Nat.reduceLeDiff, Nat.reduceLT, Nat.reduceMod, Nat.reduceDiv, Nat.reduceSub, reduceCtorEq] | ((first | refine goIf_b (fun h => ?_) (fun h => ?_) | refine goG_b (fun h => ?_) (fun h => ?_) | refine goTG_b (fun h => ?_) (fun h => ?_) | refine goOG_b (fun h => ?_) (fun h => ?_)) <;> ((try simp only [Bool.not_eq_true', Bool.not_eq_false'] at h); (try simp only [h]); (try simp only [decide_eq_true_eq, decide_eq_false_iff_not, bne_iff_ne, bne_eq_false_iff_eq, beq_iff_eq, beq_eq_false_iff_ne, ne_eq, Int.not_lt, Int.not_le, Bool.and_eq_true, Bool.and_eq_false_iff, Bool.or_eq_true, Bool.or_eq_false_iff] at h))))
    first | refine goC_call [.r, .r, .r] (d_impl_distance l hs w r (by omega) (by omega) (by omega) (by omega)) ?_ | refine goOC_call [.r, .r, .r] (d_impl_distance l hs w r (by omega) (by omega) (by omega) (by omega)) ?_
    repeat' (first | simp (maxSteps := 1000000) (disch := (first | omega | (simp only [List.length_map, List.length_append, List.length_set, List.length_replicate, List.length_cons, List.length_nil, List.length_take, List.length_drop] <;> omega) | fail)) only [go_sem, ints, bools, mat, reduceIte, Nat.reduceEqDiff, Nat.reduceAdd, Nat.reduceBEq, Nat.reduceMul, Nat.reduceLeDiff, Nat.reduceLT, Nat.reduceMod, Nat.reduceDiv, Nat.reduceSub, reduceCtorEq] | ((first | refine goIf_b (fun h => ?_) (fun h => ?_) | refine goG_b (fun h => ?_) (fun h => ?_) | refine goTG_b (fun h => ?_) (fun h => ?_) | refine goOG_b (fun h => ?_) (fun h => ?_)) <;> ((try simp only [Bool.not_eq_true', Bool.not_eq_false'] at h); (try simp only [h]); (try simp only [decide_eq_true_eq, decide_eq_false_iff_not, bne_iff_ne, bne_eq_false_iff_eq, beq_iff_eq, beq_eq_false_iff_ne, ne_eq, Int.not_lt, Int.not_le, Bool.and_eq_true, Bool.and_eq_false_iff, Bool.or_eq_true, Bool.or_eq_false_iff] at h))))
  · rw [if_neg h]
    generalize wcM l [w, r] = c at h
    repeat' (first | simp (maxSteps := 1000000) (disch := (first | omega | (simp only [List.length_map, List.length_append, List.length_set, List.length_replicate, List.length_cons, List.length_nil, List.length_take, List.length_drop] <;> omega) | fail)) only [go_sem, ints, bools, mat, reduceIte, Nat.reduceEqDiff, Nat.reduceAdd, Nat.reduceBEq, Nat.reduceMul, Nat.reduceLeDiff, Nat.reduceLT, Nat.reduceMod, Nat.reduceDiv, Nat.reduceSub, reduceCtorEq] | ((first | refine goIf_b (fun h => ?_) (fun h => ?_) | refine goG_b (fun h => ?_) (fun h => ?_) | refine goTG_b (fun h => ?_) (fun h => ?_) | refine goOG_b (fun h => ?_) (fun h => ?_)) <;> ((try simp only [Bool.not_eq_true', Bool.not_eq_false'] at h); (try simp only [h]); (try simp only [decide_eq_true_eq, decide_eq_false_iff_not, bne_iff_ne, bne_eq_false_iff_eq, beq_iff_eq, beq_eq_false_iff_ne, ne_eq, Int.not_lt, Int.not_le, Bool.and_eq_true, Bool.and_eq_false_iff, Bool.or_eq_true, Bool.or_eq_false_iff] at h))))
    · omega
theorem d_laws_FnExactHitsOf (x : D) (l : List Int) (hx : IsInts x l) (hl : l.length ≤ maxLen) (_ : ∀ n, n ∈ l → in64 n) (w : Int) (_ : in64 w) (r : Int) (_ : in64 r) :
    Den PA f_laws_FnExactHitsOf [.d (.agg [x]), .d (di w), .d (di r)] [.any, .any, .any] (.d (db true)) := by
  refine den_go [] l_laws_FnExactHitsOf ?_
  simp (maxSteps := 1000000) (disch := (first | omega | (simp only [List.length_map, List.length_append, List.length_set, List.length_replicate, List.length_cons, List.length_nil, List.length_take, List.length_drop] <;> omega) | fail)) only [go_sem, ints, bools, mat, reduceIte, Nat.reduceEqDiff, Nat.reduceAdd, Nat.reduceBEq, Nat.reduceMul, Nat.reduceLeDiff, Nat.reduceLT, Nat.reduceMod, Nat.reduceDiv, Nat.reduceSub, reduceCtorEq, c_laws_FnExactHitsOf]
  first | refine goC_call [.r, .r] (d_laws_szSpace x l hx 1048576 hl (by omega) (by omega)) ?_ | refine goOC_call [.r, .r] (d_laws_szSpace x l hx 1048576 hl (by omega) (by omega)) ?_
  repeat' (first | simp (maxSteps := 1000000) (disch := (first | omega | (simp only [List.length_map, List.length_append, List.length_set, List.length_replicate, List.length_cons, List.length_nil, List.length_take, List.length_drop] <;> omega) | fail)) only [go_sem, ints, bools, mat, reduceIte, Nat.reduceEqDiff, Nat.reduceAdd, Nat.reduceBEq, Nat.reduceMul, Nat.reduceLeDiff, Nat.reduceLT, Nat.reduceMod, Nat.reduceDiv, Nat.reduceSub, reduceCtorEq] | ((first | refine goIf_b (fun h => ?_) (fun h => ?_) | refine goG_b (fun h => ?_) (fun h => ?_) | refine goTG_b (fun h => ?_) (fun h => ?_) | refine goOG_b (fun h => ?_) (fun h => ?_)) <;> ((try simp only [Bool.not_eq_true', Bool.not_eq_false'] at h); (try simp only [h]); (try simp only [decide_eq_true_eq, decide_eq_false_iff_not, bne_iff_ne, bne_eq_false_iff_eq, beq_iff_eq, beq_eq_false_iff_ne, ne_eq, Int.not_lt, Int.not_le, Bool.and_eq_true, Bool.and_eq_false_iff, Bool.or_eq_true, Bool.or_eq_false_iff] at h))))
  have hl2 := sz_ok h
  repeat' (first | simp (maxSteps := 1000000) (disch := (first | omega | (simp only [List.length_map, List.length_append, List.length_set, List.length_replicate, List.length_cons, List.length_nil, List.length_take, List.length_drop] <;> omega) | fail)) only [go_sem, ints, bools, mat, reduceIte, Nat.reduceEqDiff, Nat.reduceAdd, Nat.reduceBEq, Nat.reduceMul, Nat.reduceLeDiff, Nat.reduceLT, Nat.reduceMod, Nat.reduceDiv, Nat.reduceSub, reduceCtorEq, hitsR] | ((first | refine goIf_b (fun h => ?_) (fun h => ?_) | refine goG_b (fun h => ?_) (fun h => ?_) | refine goTG_b (fun h => ?_) (fun h => ?_) | refine goOG_b (fun h => ?_) (fun h => ?_)) <;> ((try simp only [Bool.not_eq_true', Bool.not_eq_false'] at h); (try simp only [h]); (try simp only [decide_eq_true_eq, decide_eq_false_iff_not, bne_iff_ne, bne_eq_false_iff_eq, beq_iff_eq, beq_eq_false_iff_ne, ne_eq, Int.not_lt, Int.not_le, Bool.and_eq_true, Bool.and_eq_false_iff, Bool.or_eq_true, Bool.or_eq_false_iff] at h)) <;> (try (exfalso; omega))) | refine goC_call [.r] (d_laws_toSpace x l hx (by omega)) ?_ | refine goOC_call [.r] (d_laws_toSpace x l hx (by omega)) ?_ | refine goC_call [.r, .r, .r] (d_spec_HitsOf l (by omega) w r) ?_ | refine goOC_call [.r, .r, .r] (d_spec_HitsOf l (by omega) w r) ?_ | refine goC_call [.r, .r, .r] (d_impl_HitsOf l (by omega) w r) ?_ | refine goOC_call [.r, .r, .r] (d_impl_HitsOf l (by omega) w r) ?_ | refine goC_call [.r, .r] (d_laws_eqSpace l l (by omega)) ?_ | refine goOC_call [.r, .r] (d_laws_eqSpace l l (by omega)) ?_)
@[go_sem] theorem and1_norm {x : Int} (h : 0 ≤ x) : ((x.toNat &&& (1 : Int).toNat : Nat) : Int) = x % 2 := by
  rw [show (1 : Int).toNat = 1 from rfl, and_one_toNat]; omega
end Go.Proofs.Ytalokfkgggfpkaa.Va
