/- Contracts of the functions that FnExactSlipsInCommon reaches, and the law's own. Condition: none. -/
import Derived.Test.YtepmkcfnknfmeaaCSlipsInCommon
set_option linter.all false
set_option linter.unusedSimpArgs false
set_option linter.unusedVariables false
namespace Go.Proofs.Ytepmkcfnknfmeaa.Va
open Go
set_option maxHeartbeats 4000000
set_option maxRecDepth 100000
theorem d_spec_l01In (a lo hi : Int) : Den PA f_spec_l01In [.d (di a), .d (di lo), .d (di hi)] [.any, .any, .any] (.d (db (decide (lo ≤ a) && decide (a ≤ hi)))) := by
  refine den_go [] l_spec_l01In ?_
  repeat' (first | simp -implicitDefEqProofs (maxSteps := 1000000) (disch := (first | omega | (simp only [go_sem] <;> omega) | fail)) only [go_sem, ints, bools, mat, reduceIte, Nat.reduceEqDiff, Nat.reduceAdd, Nat.reduceBEq, Nat.reduceMul, Nat.reduceLeDiff, Nat.reduceLT, Nat.reduceMod, Nat.reduceDiv, Nat.reduceSub, reduceCtorEq, c_spec_l01In] | ((first | refine goIf_b (fun h => ?_) (fun h => ?_) | refine goG_b (fun h => ?_) (fun h => ?_) | refine goTG_b (fun h => ?_) (fun h => ?_) | refine goOG_b (fun h => ?_) (fun h => ?_)) <;> ((try simp only [Bool.not_eq_true', Bool.not_eq_false'] at h); (try simp only [h]); (try simp only [decide_eq_true_eq, decide_eq_false_iff_not, bne_iff_ne, bne_eq_false_iff_eq, beq_iff_eq, beq_eq_false_iff_ne, ne_eq, Int.not_lt, Int.not_le, Bool.and_eq_true, Bool.and_eq_false_iff, Bool.or_eq_true, Bool.or_eq_false_iff] at h))))
theorem d_laws_szInt64S (x : D) (l : List Int) (hx : IsInts x l) (left : Int) (hl : l.length ≤ maxLen) (h0 : 0 ≤ left) (h1 : left ≤ 1048576) :
    Den PA f_laws_szInt64S [.d x, .d (di left)] [.any, .any] (.d (di (if left < l.length then -1 else left - l.length))) := by
  have hm : maxLen = 9223372036854775807 := rfl
  refine den_go [] l_laws_szInt64S ?_
  rcases hx with rfl | ⟨rfl, rfl⟩
  all_goals repeat' (first | simp -implicitDefEqProofs (maxSteps := 1000000) (disch := (first | omega | (simp only [go_sem] <;> omega) | fail)) only [go_sem, ints, bools, mat, reduceIte, Nat.reduceEqDiff, Nat.reduceAdd, Nat.reduceBEq, Nat.reduceMul, Nat.reduceLeDiff, Nat.reduceLT, Nat.reduceMod, Nat.reduceDiv, Nat.reduceSub, reduceCtorEq, c_laws_szInt64S] | ((first | refine goIf_b (fun h => ?_) (fun h => ?_) | refine goG_b (fun h => ?_) (fun h => ?_) | refine goTG_b (fun h => ?_) (fun h => ?_) | refine goOG_b (fun h => ?_) (fun h => ?_)) <;> ((try simp only [Bool.not_eq_true', Bool.not_eq_false'] at h); (try simp only [h]); (try simp only [decide_eq_true_eq, decide_eq_false_iff_not, bne_iff_ne, bne_eq_false_iff_eq, beq_iff_eq, beq_eq_false_iff_ne, ne_eq, Int.not_lt, Int.not_le, Bool.and_eq_true, Bool.and_eq_false_iff, Bool.or_eq_true, Bool.or_eq_false_iff] at h))))
  · rw [if_pos (by omega)]
  · rw [if_neg (by omega)]
  · exfalso; omega
  · refine div ?_
    rw [if_neg (by simp; omega)]; rfl
theorem d_laws_eqInt64S (l m : List Int) (hl : l.length < 1048577) :
    Den PA f_laws_eqInt64S [.d (ints l), .d (ints m)] [.any, .any] (.d (db (decide (l = m)))) := by
  refine den_go [] l_laws_eqInt64S ?_
  repeat' (first | simp -implicitDefEqProofs (maxSteps := 1000000) (disch := (first | omega | (simp only [go_sem] <;> omega) | fail)) only [go_sem, ints, bools, mat, reduceIte, Nat.reduceEqDiff, Nat.reduceAdd, Nat.reduceBEq, Nat.reduceMul, Nat.reduceLeDiff, Nat.reduceLT, Nat.reduceMod, Nat.reduceDiv, Nat.reduceSub, reduceCtorEq, c_laws_eqInt64S] | ((first | refine goIf_b (fun h => ?_) (fun h => ?_) | refine goG_b (fun h => ?_) (fun h => ?_) | refine goTG_b (fun h => ?_) (fun h => ?_) | refine goOG_b (fun h => ?_) (fun h => ?_)) <;> ((try simp only [Bool.not_eq_true', Bool.not_eq_false'] at h); (try simp only [h]); (try simp only [decide_eq_true_eq, decide_eq_false_iff_not, bne_iff_ne, bne_eq_false_iff_eq, beq_iff_eq, beq_eq_false_iff_ne, ne_eq, Int.not_lt, Int.not_le, Bool.and_eq_true, Bool.and_eq_false_iff, Bool.or_eq_true, Bool.or_eq_false_iff] at h))))
  · exact dbF fun e => by have := of_decide_eq_true e; subst this; exact h rfl
  refine go_loop (fun (j : Nat) => ⟨[(0, .d (ints l)), (1, .d (ints m)), (5, .d (di j))], []⟩) (fun j => j ≤ l.length ∧ ∀ i, i < j → l.getD i 0 = m.getD i 0) (fun j => l.length - j) 0 ?_ ?_ ?_
  · simp -implicitDefEqProofs (maxSteps := 1000000) (disch := (first | omega | (simp only [go_sem] <;> omega) | fail)) only [go_sem, ints, bools, mat, reduceIte, Nat.reduceEqDiff, Nat.reduceAdd, Nat.reduceBEq, Nat.reduceMul, Nat.reduceLeDiff, Nat.reduceLT, Nat.reduceMod, Nat.reduceDiv, Nat.reduceSub, reduceCtorEq]; rfl
  · simp
  · rintro j ⟨hj, hi⟩ J hJ
    repeat' (first | simp -implicitDefEqProofs (maxSteps := 1000000) (disch := (first | omega | (simp only [go_sem] <;> omega) | fail)) only [go_sem, ints, bools, mat, reduceIte, Nat.reduceEqDiff, Nat.reduceAdd, Nat.reduceBEq, Nat.reduceMul, Nat.reduceLeDiff, Nat.reduceLT, Nat.reduceMod, Nat.reduceDiv, Nat.reduceSub, reduceCtorEq] | ((first | refine goIf_b (fun h => ?_) (fun h => ?_) | refine goG_b (fun h => ?_) (fun h => ?_) | refine goTG_b (fun h => ?_) (fun h => ?_) | refine goOG_b (fun h => ?_) (fun h => ?_)) <;> ((try simp only [Bool.not_eq_true', Bool.not_eq_false'] at h); (try simp only [h]); (try simp only [decide_eq_true_eq, decide_eq_false_iff_not, bne_iff_ne, bne_eq_false_iff_eq, beq_iff_eq, beq_eq_false_iff_ne, ne_eq, Int.not_lt, Int.not_le, Bool.and_eq_true, Bool.and_eq_false_iff, Bool.or_eq_true, Bool.or_eq_false_iff] at h))))
    · exact dbF fun e => by have := of_decide_eq_true e; subst this; exact h rfl
    · refine hJ (j + 1) ⟨by omega, fun i hi' => ?_⟩ (by omega) _ (by simp -implicitDefEqProofs (maxSteps := 1000000) (disch := (first | omega | (simp only [go_sem] <;> omega) | fail)) only [go_sem, ints, bools, mat, reduceIte, Nat.reduceEqDiff, Nat.reduceAdd, Nat.reduceBEq, Nat.reduceMul, Nat.reduceLeDiff, Nat.reduceLT, Nat.reduceMod, Nat.reduceDiv, Nat.reduceSub, reduceCtorEq]; rfl)
      rcases Nat.lt_or_ge i j with h' | h'
      · exact hi i h'
      · have : i = j := by omega
        subst this; assumption
    · exact dbT (decide_eq_true (eq_getD (by omega) fun i hi' => hi i (by omega)))
theorem d_laws_toInt64S (x : D) (l : List Int) (hx : IsInts x l) (hl : l.length < 1048577) :
    Den PA f_laws_toInt64S [.d x] [.any] (.own 1 (l.map di)) := by
  refine den_go [] l_laws_toInt64S ?_
  rcases hx with rfl | ⟨rfl, rfl⟩
  rotate_left
  · repeat' (first | simp -implicitDefEqProofs (maxSteps := 1000000) (disch := (first | omega | (simp only [go_sem] <;> omega) | fail)) only [go_sem, ints, bools, mat, reduceIte, Nat.reduceEqDiff, Nat.reduceAdd, Nat.reduceBEq, Nat.reduceMul, Nat.reduceLeDiff, Nat.reduceLT, Nat.reduceMod, Nat.reduceDiv, Nat.reduceSub, reduceCtorEq, c_laws_toInt64S] | ((first | refine goIf_b (fun h => ?_) (fun h => ?_) | refine goG_b (fun h => ?_) (fun h => ?_) | refine goTG_b (fun h => ?_) (fun h => ?_) | refine goOG_b (fun h => ?_) (fun h => ?_)) <;> ((try simp only [Bool.not_eq_true', Bool.not_eq_false'] at h); (try simp only [h]); (try simp only [decide_eq_true_eq, decide_eq_false_iff_not, bne_iff_ne, bne_eq_false_iff_eq, beq_iff_eq, beq_eq_false_iff_ne, ne_eq, Int.not_lt, Int.not_le, Bool.and_eq_true, Bool.and_eq_false_iff, Bool.or_eq_true, Bool.or_eq_false_iff] at h))))
    refine go_loop (fun (_ : Unit) => ⟨[(0, .d (.v (.slice none 0 0))), (3, .sl 0 0 0 1), (4, .d (di 0))], [some (.dat 1 [])]⟩) (fun _ => True) (fun _ => 0) () ?_ trivial ?_
    · simp -implicitDefEqProofs (maxSteps := 1000000) (disch := (first | omega | (simp only [go_sem] <;> omega) | fail)) only [go_sem, ints, bools, mat, reduceIte, Nat.reduceEqDiff, Nat.reduceAdd, Nat.reduceBEq, Nat.reduceMul, Nat.reduceLeDiff, Nat.reduceLT, Nat.reduceMod, Nat.reduceDiv, Nat.reduceSub, reduceCtorEq]; rfl
    · intro _ _ J _
      repeat' (first | simp -implicitDefEqProofs (maxSteps := 1000000) (disch := (first | omega | (simp only [go_sem] <;> omega) | fail)) only [go_sem, ints, bools, mat, reduceIte, Nat.reduceEqDiff, Nat.reduceAdd, Nat.reduceBEq, Nat.reduceMul, Nat.reduceLeDiff, Nat.reduceLT, Nat.reduceMod, Nat.reduceDiv, Nat.reduceSub, reduceCtorEq] | ((first | refine goIf_b (fun h => ?_) (fun h => ?_) | refine goG_b (fun h => ?_) (fun h => ?_) | refine goTG_b (fun h => ?_) (fun h => ?_) | refine goOG_b (fun h => ?_) (fun h => ?_)) <;> ((try simp only [Bool.not_eq_true', Bool.not_eq_false'] at h); (try simp only [h]); (try simp only [decide_eq_true_eq, decide_eq_false_iff_not, bne_iff_ne, bne_eq_false_iff_eq, beq_iff_eq, beq_eq_false_iff_ne, ne_eq, Int.not_lt, Int.not_le, Bool.and_eq_true, Bool.and_eq_false_iff, Bool.or_eq_true, Bool.or_eq_false_iff] at h))))
  repeat' (first | simp -implicitDefEqProofs (maxSteps := 1000000) (disch := (first | omega | (simp only [go_sem] <;> omega) | fail)) only [go_sem, ints, bools, mat, reduceIte, Nat.reduceEqDiff, Nat.reduceAdd, Nat.reduceBEq, Nat.reduceMul, Nat.reduceLeDiff, Nat.reduceLT, Nat.reduceMod, Nat.reduceDiv, Nat.reduceSub, reduceCtorEq, c_laws_toInt64S] | ((first | refine goIf_b (fun h => ?_) (fun h => ?_) | refine goG_b (fun h => ?_) (fun h => ?_) | refine goTG_b (fun h => ?_) (fun h => ?_) | refine goOG_b (fun h => ?_) (fun h => ?_)) <;> ((try simp only [Bool.not_eq_true', Bool.not_eq_false'] at h); (try simp only [h]); (try simp only [decide_eq_true_eq, decide_eq_false_iff_not, bne_iff_ne, bne_eq_false_iff_eq, beq_iff_eq, beq_eq_false_iff_ne, ne_eq, Int.not_lt, Int.not_le, Bool.and_eq_true, Bool.and_eq_false_iff, Bool.or_eq_true, Bool.or_eq_false_iff] at h))))
  refine go_loop (fun (j : Nat) => ⟨[(0, .d (ints l)), (3, .sl 0 0 l.length 1), (4, .d (di j))], [some (.dat 1 ((l.take j ++ List.replicate (l.length - j) 0).map di))]⟩) (fun j => j ≤ l.length) (fun j => l.length - j) 0 ?_ ?_ ?_
  · simp -implicitDefEqProofs (maxSteps := 1000000) (disch := (first | omega | (simp only [go_sem] <;> omega) | fail)) only [go_sem, ints, bools, mat, reduceIte, Nat.reduceEqDiff, Nat.reduceAdd, Nat.reduceBEq, Nat.reduceMul, Nat.reduceLeDiff, Nat.reduceLT, Nat.reduceMod, Nat.reduceDiv, Nat.reduceSub, reduceCtorEq]; rfl
  · simp
  · rintro j hj J hJ
    repeat' (first | simp -implicitDefEqProofs (maxSteps := 1000000) (disch := (first | omega | (simp only [go_sem] <;> omega) | fail)) only [go_sem, ints, bools, mat, reduceIte, Nat.reduceEqDiff, Nat.reduceAdd, Nat.reduceBEq, Nat.reduceMul, Nat.reduceLeDiff, Nat.reduceLT, Nat.reduceMod, Nat.reduceDiv, Nat.reduceSub, reduceCtorEq] | ((first | refine goIf_b (fun h => ?_) (fun h => ?_) | refine goG_b (fun h => ?_) (fun h => ?_) | refine goTG_b (fun h => ?_) (fun h => ?_) | refine goOG_b (fun h => ?_) (fun h => ?_)) <;> ((try simp only [Bool.not_eq_true', Bool.not_eq_false'] at h); (try simp only [h]); (try simp only [decide_eq_true_eq, decide_eq_false_iff_not, bne_iff_ne, bne_eq_false_iff_eq, beq_iff_eq, beq_eq_false_iff_ne, ne_eq, Int.not_lt, Int.not_le, Bool.and_eq_true, Bool.and_eq_false_iff, Bool.or_eq_true, Bool.or_eq_false_iff] at h))))
    · refine hJ (j + 1) (by omega) (by omega) _ ?_
      simp -implicitDefEqProofs (maxSteps := 1000000) (disch := (first | omega | (simp only [go_sem] <;> omega) | fail)) only [go_sem, ints, bools, mat, reduceIte, Nat.reduceEqDiff, Nat.reduceAdd, Nat.reduceBEq, Nat.reduceMul, Nat.reduceLeDiff, Nat.reduceLT, Nat.reduceMod, Nat.reduceDiv, Nat.reduceSub, reduceCtorEq]
      rw [fill_step l 0 0 (by omega) rfl]; rfl
    · have : j = l.length := by omega
      subst this; simp
theorem d_laws_szSpace (x : D) (l : List Int) (hx : IsInts x l) (left : Int) (hl : l.length ≤ maxLen) (h0 : 0 ≤ left) (h1 : left ≤ 1048576) :
    Den PA f_laws_szSpace [.d (.agg [x]), .d (di left)] [.any, .any] (.d (di (if left < l.length then -1 else left - l.length))) := by
  refine den_go [] l_laws_szSpace ?_
  simp -implicitDefEqProofs (maxSteps := 1000000) (disch := (first | omega | (simp only [go_sem] <;> omega) | fail)) only [go_sem, ints, bools, mat, reduceIte, Nat.reduceEqDiff, Nat.reduceAdd, Nat.reduceBEq, Nat.reduceMul, Nat.reduceLeDiff, Nat.reduceLT, Nat.reduceMod, Nat.reduceDiv, Nat.reduceSub, reduceCtorEq, c_laws_szSpace]
  first | refine goC_call [.r, .r] (d_laws_szInt64S x l hx left hl h0 h1) ?_ | refine goOC_call [.r, .r] (d_laws_szInt64S x l hx left hl h0 h1) ?_
  repeat' (first | simp -implicitDefEqProofs (maxSteps := 1000000) (disch := (first | omega | (simp only [go_sem] <;> omega) | fail)) only [go_sem, ints, bools, mat, reduceIte, Nat.reduceEqDiff, Nat.reduceAdd, Nat.reduceBEq, Nat.reduceMul, Nat.reduceLeDiff, Nat.reduceLT, Nat.reduceMod, Nat.reduceDiv, Nat.reduceSub, reduceCtorEq] | ((first | refine goIf_b (fun h => ?_) (fun h => ?_) | refine goG_b (fun h => ?_) (fun h => ?_) | refine goTG_b (fun h => ?_) (fun h => ?_) | refine goOG_b (fun h => ?_) (fun h => ?_)) <;> ((try simp only [Bool.not_eq_true', Bool.not_eq_false'] at h); (try simp only [h]); (try simp only [decide_eq_true_eq, decide_eq_false_iff_not, bne_iff_ne, bne_eq_false_iff_eq, beq_iff_eq, beq_eq_false_iff_ne, ne_eq, Int.not_lt, Int.not_le, Bool.and_eq_true, Bool.and_eq_false_iff, Bool.or_eq_true, Bool.or_eq_false_iff] at h))))
  by_cases hh : left < (l.length : Int)
  · rw [if_pos hh]
  · rw [if_neg hh] at h; omega
theorem d_laws_eqSpace (l m : List Int) (hl : l.length < 1048577) :
    Den PA f_laws_eqSpace [.d (.agg [ints l]), .d (.agg [ints m])] [.any, .any] (.d (db (decide (l = m)))) := by
  refine den_go [] l_laws_eqSpace ?_
  simp -implicitDefEqProofs (maxSteps := 1000000) (disch := (first | omega | (simp only [go_sem] <;> omega) | fail)) only [go_sem, ints, bools, mat, reduceIte, Nat.reduceEqDiff, Nat.reduceAdd, Nat.reduceBEq, Nat.reduceMul, Nat.reduceLeDiff, Nat.reduceLT, Nat.reduceMod, Nat.reduceDiv, Nat.reduceSub, reduceCtorEq, c_laws_eqSpace]
  first | refine goC_call [.r, .r] (d_laws_eqInt64S l m hl) ?_ | refine goOC_call [.r, .r] (d_laws_eqInt64S l m hl) ?_
  repeat' (first | simp -implicitDefEqProofs (maxSteps := 1000000) (disch := (first | omega | (simp only [go_sem] <;> omega) | fail)) only [go_sem, ints, bools, mat, reduceIte, Nat.reduceEqDiff, Nat.reduceAdd, Nat.reduceBEq, Nat.reduceMul, Nat.reduceLeDiff, Nat.reduceLT, Nat.reduceMod, Nat.reduceDiv, Nat.reduceSub, reduceCtorEq] | ((first | refine goIf_b (fun h => ?_) (fun h => ?_) | refine goG_b (fun h => ?_) (fun h => ?_) | refine goTG_b (fun h => ?_) (fun h => ?_) | refine goOG_b (fun h => ?_) (fun h => ?_)) <;> ((try simp only [Bool.not_eq_true', Bool.not_eq_false'] at h); (try simp only [h]); (try simp only [decide_eq_true_eq, decide_eq_false_iff_not, bne_iff_ne, bne_eq_false_iff_eq, beq_iff_eq, beq_eq_false_iff_ne, ne_eq, Int.not_lt, Int.not_le, Bool.and_eq_true, Bool.and_eq_false_iff, Bool.or_eq_true, Bool.or_eq_false_iff] at h))))
theorem d_laws_toSpace (x : D) (l : List Int) (hx : IsInts x l) (hl : l.length < 1048577) :
    Den PA f_laws_toSpace [.d (.agg [x])] [.any] (.agg [.own 1 (l.map di)]) := by
  refine den_go [] l_laws_toSpace ?_
  simp -implicitDefEqProofs (maxSteps := 1000000) (disch := (first | omega | (simp only [go_sem] <;> omega) | fail)) only [go_sem, ints, bools, mat, reduceIte, Nat.reduceEqDiff, Nat.reduceAdd, Nat.reduceBEq, Nat.reduceMul, Nat.reduceLeDiff, Nat.reduceLT, Nat.reduceMod, Nat.reduceDiv, Nat.reduceSub, reduceCtorEq, c_laws_toSpace]
  first | refine goC_call [.r] (d_laws_toInt64S x l hx hl) ?_ | refine goOC_call [.r] (d_laws_toInt64S x l hx hl) ?_
  repeat' (first | simp -implicitDefEqProofs (maxSteps := 1000000) (disch := (first | omega | (simp only [go_sem] <;> omega) | fail)) only [go_sem, ints, bools, mat, reduceIte, Nat.reduceEqDiff, Nat.reduceAdd, Nat.reduceBEq, Nat.reduceMul, Nat.reduceLeDiff, Nat.reduceLT, Nat.reduceMod, Nat.reduceDiv, Nat.reduceSub, reduceCtorEq] | ((first | refine goIf_b (fun h => ?_) (fun h => ?_) | refine goG_b (fun h => ?_) (fun h => ?_) | refine goTG_b (fun h => ?_) (fun h => ?_) | refine goOG_b (fun h => ?_) (fun h => ?_)) <;> ((try simp only [Bool.not_eq_true', Bool.not_eq_false'] at h); (try simp only [h]); (try simp only [decide_eq_true_eq, decide_eq_false_iff_not, bne_iff_ne, bne_eq_false_iff_eq, beq_iff_eq, beq_eq_false_iff_ne, ne_eq, Int.not_lt, Int.not_le, Bool.and_eq_true, Bool.and_eq_false_iff, Bool.or_eq_true, Bool.or_eq_false_iff] at h))))
def prodM (l : List Int) : Int := l.foldl (· * ·) 1
theorem take_one (l : List Int) {j : Nat} (h : j < l.length) : l.take (j + 1) = l.take j ++ [l.getD j 0] := by
  rw [List.take_add_one]; simp [h]
theorem prodM_step (l : List Int) {j : Nat} (h : j < l.length) : prodM (l.take (j + 1)) = prodM (l.take j) * l.getD j 0 := by
  rw [take_one l h]; simp [prodM]
theorem prodM_bnd (l : List Int) : ∀ j, j ≤ l.length → (∀ i, i < j → 2 ≤ l.getD i 0 ∧ l.getD i 0 ≤ 4) → 1 ≤ prodM (l.take j) ∧ prodM (l.take j) ≤ 4 ^ j
  | 0, _, _ => by simp [prodM]
  | j + 1, hj, h => by
    obtain ⟨h1, h2⟩ := prodM_bnd l j (by omega) (fun i hi => h i (by omega))
    obtain ⟨h3, h4⟩ := h j (by omega)
    rw [prodM_step l (by omega)]
    constructor
    · have := Int.mul_le_mul h1 (show (1 : Int) ≤ l.getD j 0 by omega) (by omega) (by omega)
      simpa using this
    · rw [Int.pow_succ]
      exact Int.mul_le_mul h2 h4 (by omega) (by omega)
theorem pow4 {j : Nat} (h : j ≤ 8) : (4 : Int) ^ j ≤ 65536 := by
  exact (by decide : ∀ j : Fin 9, (4 : Int) ^ (j : Nat) ≤ 65536) ⟨j, by omega⟩
theorem prodM_small (l : List Int) {j : Nat} (h8 : j ≤ 8) (hj : j ≤ l.length) (h : ∀ i, i < j → 2 ≤ l.getD i 0 ∧ l.getD i 0 ≤ 4) : 1 ≤ prodM (l.take j) ∧ prodM (l.take j) ≤ 65536 := by
  obtain ⟨h1, h2⟩ := prodM_bnd l j hj h
  exact ⟨h1, Int.le_trans h2 (pow4 h8)⟩
/-- A space: one to eight places, two to four digits each, at most 1024 words. -/
def isSpaceM (l : List Int) : Bool := decide (1 ≤ l.length) && decide (l.length ≤ 8) && l.all (fun n => decide (2 ≤ n) && decide (n ≤ 4)) && decide (prodM l ≤ 1024)
theorem isSpaceM_ok (l : List Int) : isSpaceM l = true ↔ (1 ≤ l.length ∧ l.length ≤ 8) ∧ (∀ j, j < l.length → 2 ≤ l.getD j 0 ∧ l.getD j 0 ≤ 4) ∧ prodM l ≤ 1024 := by
  simp only [isSpaceM, Bool.and_eq_true, decide_eq_true_eq, all_getD, and_assoc]
theorem d_spec_l01N (l : List Int) (h8 : l.length ≤ 8) (h : ∀ i, i < l.length → 2 ≤ l.getD i 0 ∧ l.getD i 0 ≤ 4) :
    Den PA f_spec_l01N [.d (.agg [ints l])] [.any] (.d (di (prodM l))) := by
  refine den_go [] l_spec_l01N ?_
  simp -implicitDefEqProofs (maxSteps := 1000000) (disch := (first | omega | (simp only [go_sem] <;> omega) | fail)) only [go_sem, ints, bools, mat, reduceIte, Nat.reduceEqDiff, Nat.reduceAdd, Nat.reduceBEq, Nat.reduceMul, Nat.reduceLeDiff, Nat.reduceLT, Nat.reduceMod, Nat.reduceDiv, Nat.reduceSub, reduceCtorEq, c_spec_l01N]
  refine go_loop (fun (j : Nat) => ⟨[(1, .ref 0 0), (3, .d (di (prodM (l.take j)))), (4, .d (di j))], [some (.var [ints l])]⟩) (fun j => j ≤ l.length) (fun j => l.length - j) 0 ?_ ?_ ?_
  · simp -implicitDefEqProofs (maxSteps := 1000000) (disch := (first | omega | (simp only [go_sem] <;> omega) | fail)) only [go_sem, ints, bools, mat, reduceIte, Nat.reduceEqDiff, Nat.reduceAdd, Nat.reduceBEq, Nat.reduceMul, Nat.reduceLeDiff, Nat.reduceLT, Nat.reduceMod, Nat.reduceDiv, Nat.reduceSub, reduceCtorEq]; rfl
  · simp
  · rintro j hj J hJ
    have hb := prodM_small l (j := j) (by omega) hj (fun i hi => h i (by omega))
    have hb' := fun hj' => prodM_small l (j := j + 1) (by omega) hj' (fun i hi => h i (by omega))
    have hs := fun hj' => prodM_step l (j := j) hj'
    repeat' (first | simp -implicitDefEqProofs (maxSteps := 1000000) (disch := (first | omega | (simp only [go_sem] <;> omega) | fail)) only [go_sem, ints, bools, mat, reduceIte, Nat.reduceEqDiff, Nat.reduceAdd, Nat.reduceBEq, Nat.reduceMul, Nat.reduceLeDiff, Nat.reduceLT, Nat.reduceMod, Nat.reduceDiv, Nat.reduceSub, reduceCtorEq] | ((first | refine goIf_b (fun h => ?_) (fun h => ?_) | refine goG_b (fun h => ?_) (fun h => ?_) | refine goTG_b (fun h => ?_) (fun h => ?_) | refine goOG_b (fun h => ?_) (fun h => ?_)) <;> ((try simp only [Bool.not_eq_true', Bool.not_eq_false'] at h); (try simp only [h]); (try simp only [decide_eq_true_eq, decide_eq_false_iff_not, bne_iff_ne, bne_eq_false_iff_eq, beq_iff_eq, beq_eq_false_iff_ne, ne_eq, Int.not_lt, Int.not_le, Bool.and_eq_true, Bool.and_eq_false_iff, Bool.or_eq_true, Bool.or_eq_false_iff] at h))))
    · rename_i hlt
      have hlt : j < l.length := by omega
      have h1 := hb' (by omega)
      rw [hs hlt] at h1
      refine hJ (j + 1) (by omega) (by omega) _ ?_
      simp -implicitDefEqProofs (maxSteps := 1000000) (disch := (first | omega | (simp only [go_sem] <;> omega) | fail)) only [go_sem, ints, bools, mat, reduceIte, Nat.reduceEqDiff, Nat.reduceAdd, Nat.reduceBEq, Nat.reduceMul, Nat.reduceLeDiff, Nat.reduceLT, Nat.reduceMod, Nat.reduceDiv, Nat.reduceSub, reduceCtorEq]
      rw [hs hlt]; rfl
theorem d_spec_l01Is (l : List Int) (hl : l.length < 1048577) :
    Den PA f_spec_l01Is [.d (.agg [ints l])] [.any] (.d (db (isSpaceM l))) := by
  have e := isSpaceM_ok l
  refine den_go [] l_spec_l01Is ?_
  simp -implicitDefEqProofs (maxSteps := 1000000) (disch := (first | omega | (simp only [go_sem] <;> omega) | fail)) only [go_sem, ints, bools, mat, reduceIte, Nat.reduceEqDiff, Nat.reduceAdd, Nat.reduceBEq, Nat.reduceMul, Nat.reduceLeDiff, Nat.reduceLT, Nat.reduceMod, Nat.reduceDiv, Nat.reduceSub, reduceCtorEq, c_spec_l01Is]
  first | refine goC_call [.r, .r, .r] (d_spec_l01In l.length 1 8) ?_ | refine goOC_call [.r, .r, .r] (d_spec_l01In l.length 1 8) ?_
  repeat' (first | simp -implicitDefEqProofs (maxSteps := 1000000) (disch := (first | omega | (simp only [go_sem] <;> omega) | fail)) only [go_sem, ints, bools, mat, reduceIte, Nat.reduceEqDiff, Nat.reduceAdd, Nat.reduceBEq, Nat.reduceMul, Nat.reduceLeDiff, Nat.reduceLT, Nat.reduceMod, Nat.reduceDiv, Nat.reduceSub, reduceCtorEq] | ((first | refine goIf_b (fun h => ?_) (fun h => ?_) | refine goG_b (fun h => ?_) (fun h => ?_) | refine goTG_b (fun h => ?_) (fun h => ?_) | refine goOG_b (fun h => ?_) (fun h => ?_)) <;> ((try simp only [Bool.not_eq_true', Bool.not_eq_false'] at h); (try simp only [h]); (try simp only [decide_eq_true_eq, decide_eq_false_iff_not, bne_iff_ne, bne_eq_false_iff_eq, beq_iff_eq, beq_eq_false_iff_ne, ne_eq, Int.not_lt, Int.not_le, Bool.and_eq_true, Bool.and_eq_false_iff, Bool.or_eq_true, Bool.or_eq_false_iff] at h))))
  rotate_left
  · exact dbF fun h' => by have := (e.1 h').1; omega
  refine go_loop (fun (j : Nat) => ⟨[(1, .ref 0 0), (3, .d (di j))], [some (.var [ints l])]⟩) (fun j => j ≤ l.length ∧ ∀ i, i < j → 2 ≤ l.getD i 0 ∧ l.getD i 0 ≤ 4) (fun j => l.length - j) 0 ?_ ?_ ?_
  · simp -implicitDefEqProofs (maxSteps := 1000000) (disch := (first | omega | (simp only [go_sem] <;> omega) | fail)) only [go_sem, ints, bools, mat, reduceIte, Nat.reduceEqDiff, Nat.reduceAdd, Nat.reduceBEq, Nat.reduceMul, Nat.reduceLeDiff, Nat.reduceLT, Nat.reduceMod, Nat.reduceDiv, Nat.reduceSub, reduceCtorEq]; rfl
  · simp
  · rintro j ⟨hj, hi⟩ J hJ
    repeat' (first | simp -implicitDefEqProofs (maxSteps := 1000000) (disch := (first | omega | (simp only [go_sem] <;> omega) | fail)) only [go_sem, ints, bools, mat, reduceIte, Nat.reduceEqDiff, Nat.reduceAdd, Nat.reduceBEq, Nat.reduceMul, Nat.reduceLeDiff, Nat.reduceLT, Nat.reduceMod, Nat.reduceDiv, Nat.reduceSub, reduceCtorEq] | ((first | refine goIf_b (fun h => ?_) (fun h => ?_) | refine goG_b (fun h => ?_) (fun h => ?_) | refine goTG_b (fun h => ?_) (fun h => ?_) | refine goOG_b (fun h => ?_) (fun h => ?_)) <;> ((try simp only [Bool.not_eq_true', Bool.not_eq_false'] at h); (try simp only [h]); (try simp only [decide_eq_true_eq, decide_eq_false_iff_not, bne_iff_ne, bne_eq_false_iff_eq, beq_iff_eq, beq_eq_false_iff_ne, ne_eq, Int.not_lt, Int.not_le, Bool.and_eq_true, Bool.and_eq_false_iff, Bool.or_eq_true, Bool.or_eq_false_iff] at h))))
    · first | refine goC_call [.r, .r, .r] (d_spec_l01In (l.getD j 0) 2 4) ?_ | refine goOC_call [.r, .r, .r] (d_spec_l01In (l.getD j 0) 2 4) ?_
      repeat' (first | simp -implicitDefEqProofs (maxSteps := 1000000) (disch := (first | omega | (simp only [go_sem] <;> omega) | fail)) only [go_sem, ints, bools, mat, reduceIte, Nat.reduceEqDiff, Nat.reduceAdd, Nat.reduceBEq, Nat.reduceMul, Nat.reduceLeDiff, Nat.reduceLT, Nat.reduceMod, Nat.reduceDiv, Nat.reduceSub, reduceCtorEq] | ((first | refine goIf_b (fun h => ?_) (fun h => ?_) | refine goG_b (fun h => ?_) (fun h => ?_) | refine goTG_b (fun h => ?_) (fun h => ?_) | refine goOG_b (fun h => ?_) (fun h => ?_)) <;> ((try simp only [Bool.not_eq_true', Bool.not_eq_false'] at h); (try simp only [h]); (try simp only [decide_eq_true_eq, decide_eq_false_iff_not, bne_iff_ne, bne_eq_false_iff_eq, beq_iff_eq, beq_eq_false_iff_ne, ne_eq, Int.not_lt, Int.not_le, Bool.and_eq_true, Bool.and_eq_false_iff, Bool.or_eq_true, Bool.or_eq_false_iff] at h))))
      · refine hJ (j + 1) ⟨by omega, fun i hi' => ?_⟩ (by omega) _ (by simp -implicitDefEqProofs (maxSteps := 1000000) (disch := (first | omega | (simp only [go_sem] <;> omega) | fail)) only [go_sem, ints, bools, mat, reduceIte, Nat.reduceEqDiff, Nat.reduceAdd, Nat.reduceBEq, Nat.reduceMul, Nat.reduceLeDiff, Nat.reduceLT, Nat.reduceMod, Nat.reduceDiv, Nat.reduceSub, reduceCtorEq]; rfl)
        rcases Nat.lt_or_ge i j with h' | h'
        · exact hi i h'
        · have : i = j := by omega
          subst this; assumption
      · exact dbF fun h' => by have := (e.1 h').2.1 j (by omega); omega
    · have hj' : j = l.length := by omega
      subst hj'
      first | refine goC_call [.r] (d_spec_l01N l (by omega) hi) ?_ | refine goOC_call [.r] (d_spec_l01N l (by omega) hi) ?_
      repeat' (first | simp -implicitDefEqProofs (maxSteps := 1000000) (disch := (first | omega | (simp only [go_sem] <;> omega) | fail)) only [go_sem, ints, bools, mat, reduceIte, Nat.reduceEqDiff, Nat.reduceAdd, Nat.reduceBEq, Nat.reduceMul, Nat.reduceLeDiff, Nat.reduceLT, Nat.reduceMod, Nat.reduceDiv, Nat.reduceSub, reduceCtorEq] | ((first | refine goIf_b (fun h => ?_) (fun h => ?_) | refine goG_b (fun h => ?_) (fun h => ?_) | refine goTG_b (fun h => ?_) (fun h => ?_) | refine goOG_b (fun h => ?_) (fun h => ?_)) <;> ((try simp only [Bool.not_eq_true', Bool.not_eq_false'] at h); (try simp only [h]); (try simp only [decide_eq_true_eq, decide_eq_false_iff_not, bne_iff_ne, bne_eq_false_iff_eq, beq_iff_eq, beq_eq_false_iff_ne, ne_eq, Int.not_lt, Int.not_le, Bool.and_eq_true, Bool.and_eq_false_iff, Bool.or_eq_true, Bool.or_eq_false_iff] at h))))
      refine dbv ?_
      cases hm : isSpaceM l with
      | true => exact decide_eq_true (e.1 hm).2.2
      | false =>
        refine decide_eq_false fun hp => ?_
        have := e.2 ⟨by omega, hi, hp⟩
        rw [hm] at this; cases this
theorem d_impl_IsSpace (l : List Int) (hl : l.length < 1048577) :
    Den PA f_impl_IsSpace [.d (.agg [ints l])] [.any] (.d (db (isSpaceM l))) := by
  have e := isSpaceM_ok l
  refine den_go [] l_impl_IsSpace ?_
  repeat' (first | simp -implicitDefEqProofs (maxSteps := 1000000) (disch := (first | omega | (simp only [go_sem] <;> omega) | fail)) only [go_sem, ints, bools, mat, reduceIte, Nat.reduceEqDiff, Nat.reduceAdd, Nat.reduceBEq, Nat.reduceMul, Nat.reduceLeDiff, Nat.reduceLT, Nat.reduceMod, Nat.reduceDiv, Nat.reduceSub, reduceCtorEq, c_impl_IsSpace] | ((first | refine goIf_b (fun h => ?_) (fun h => ?_) | refine goG_b (fun h => ?_) (fun h => ?_) | refine goTG_b (fun h => ?_) (fun h => ?_) | refine goOG_b (fun h => ?_) (fun h => ?_)) <;> ((try simp only [Bool.not_eq_true', Bool.not_eq_false'] at h); (try simp only [h]); (try simp only [decide_eq_true_eq, decide_eq_false_iff_not, bne_iff_ne, bne_eq_false_iff_eq, beq_iff_eq, beq_eq_false_iff_ne, ne_eq, Int.not_lt, Int.not_le, Bool.and_eq_true, Bool.and_eq_false_iff, Bool.or_eq_true, Bool.or_eq_false_iff] at h))))
  · exact dbF fun h' => by have := (e.1 h').1; omega
  · refine go_loop (fun (j : Nat) => ⟨[(3, .d (di (prodM (l.take j)))), (17, .d (ints l)), (18, .d (di l.length)), (19, .d (di j))], []⟩) (fun j => j ≤ l.length ∧ ∀ i, i < j → 2 ≤ l.getD i 0 ∧ l.getD i 0 ≤ 4) (fun j => l.length - j) 0 ?_ ?_ ?_
    · simp -implicitDefEqProofs (maxSteps := 1000000) (disch := (first | omega | (simp only [go_sem] <;> omega) | fail)) only [go_sem, ints, bools, mat, reduceIte, Nat.reduceEqDiff, Nat.reduceAdd, Nat.reduceBEq, Nat.reduceMul, Nat.reduceLeDiff, Nat.reduceLT, Nat.reduceMod, Nat.reduceDiv, Nat.reduceSub, reduceCtorEq]; rfl
    · simp
    · rintro j ⟨hj, hi⟩ J hJ
      have hb := prodM_small l (j := j) (by omega) hj hi
      repeat' (first | simp -implicitDefEqProofs (maxSteps := 1000000) (disch := (first | omega | (simp only [go_sem] <;> omega) | fail)) only [go_sem, ints, bools, mat, reduceIte, Nat.reduceEqDiff, Nat.reduceAdd, Nat.reduceBEq, Nat.reduceMul, Nat.reduceLeDiff, Nat.reduceLT, Nat.reduceMod, Nat.reduceDiv, Nat.reduceSub, reduceCtorEq] | ((first | refine goIf_b (fun h => ?_) (fun h => ?_) | refine goG_b (fun h => ?_) (fun h => ?_) | refine goTG_b (fun h => ?_) (fun h => ?_) | refine goOG_b (fun h => ?_) (fun h => ?_)) <;> ((try simp only [Bool.not_eq_true', Bool.not_eq_false'] at h); (try simp only [h]); (try simp only [decide_eq_true_eq, decide_eq_false_iff_not, bne_iff_ne, bne_eq_false_iff_eq, beq_iff_eq, beq_eq_false_iff_ne, ne_eq, Int.not_lt, Int.not_le, Bool.and_eq_true, Bool.and_eq_false_iff, Bool.or_eq_true, Bool.or_eq_false_iff] at h))))
      · exact dbF fun h' => by have := (e.1 h').2.1 j (by omega); omega
      · have hi' : ∀ i, i < j + 1 → 2 ≤ l.getD i 0 ∧ l.getD i 0 ≤ 4 := fun i hi' => by
          rcases Nat.lt_or_ge i j with h' | h'
          · exact hi i h'
          · have : i = j := by omega
            subst this; exact ⟨by assumption, by assumption⟩
        have hb' := prodM_small l (j := j + 1) (by omega) (by omega) hi'
        have hs := prodM_step l (j := j) (by omega)
        rw [hs] at hb'
        refine hJ (j + 1) ⟨by omega, hi'⟩ (by omega) _ ?_
        simp -implicitDefEqProofs (maxSteps := 1000000) (disch := (first | omega | (simp only [go_sem] <;> omega) | fail)) only [go_sem, ints, bools, mat, reduceIte, Nat.reduceEqDiff, Nat.reduceAdd, Nat.reduceBEq, Nat.reduceMul, Nat.reduceLeDiff, Nat.reduceLT, Nat.reduceMod, Nat.reduceDiv, Nat.reduceSub, reduceCtorEq]
        rw [hs]; rfl
      · exact dbF fun h' => by have := (e.1 h').2.1 j (by omega); omega
      · have hj' : j = l.length := by omega
        subst hj'
        refine dbv ?_
        cases hm : isSpaceM l with
        | true => exact decide_eq_true (e.1 hm).2.2
        | false =>
          refine decide_eq_false fun hp => ?_
          have := e.2 ⟨by omega, hi, hp⟩
          rw [hm] at this; cases this
  · exact dbF fun h' => by have := (e.1 h').1; omega
/-- A slip: for each place a set of signs that is not empty. -/
def isSlipM (l t : List Int) : Bool := decide (t.length = l.length) && (List.range t.length).all fun j => decide (1 ≤ t.getD j 0) && decide (t.getD j 0 < 2 ^ (l.getD j 0).toNat)
theorem isSlipM_ok (l t : List Int) : isSlipM l t = true ↔ t.length = l.length ∧ ∀ j, j < t.length → 1 ≤ t.getD j 0 ∧ t.getD j 0 < 2 ^ (l.getD j 0).toNat := by
  simp only [isSlipM, Bool.and_eq_true, decide_eq_true_eq, List.all_eq_true, List.mem_range]
theorem d_spec_l07Is (l t : List Int) (ht : t.length < 1048577) (hl : ∀ j, j < l.length → 2 ≤ l.getD j 0 ∧ l.getD j 0 ≤ 4) :
    Den PA f_spec_l07Is [.d (.agg [ints l]), .d (ints t)] [.any, .any] (.d (db (isSlipM l t))) := by
  have e := isSlipM_ok l t
  refine den_go [] l_spec_l07Is ?_
  repeat' (first | simp -implicitDefEqProofs (maxSteps := 1000000) (disch := (first | omega | (simp only [go_sem] <;> omega) | fail)) only [go_sem, ints, bools, mat, reduceIte, Nat.reduceEqDiff, Nat.reduceAdd, Nat.reduceBEq, Nat.reduceMul, Nat.reduceLeDiff, Nat.reduceLT, Nat.reduceMod, Nat.reduceDiv, Nat.reduceSub, reduceCtorEq, c_spec_l07Is] | ((first | refine goIf_b (fun h => ?_) (fun h => ?_) | refine goG_b (fun h => ?_) (fun h => ?_) | refine goTG_b (fun h => ?_) (fun h => ?_) | refine goOG_b (fun h => ?_) (fun h => ?_)) <;> ((try simp only [Bool.not_eq_true', Bool.not_eq_false'] at h); (try simp only [h]); (try simp only [decide_eq_true_eq, decide_eq_false_iff_not, bne_iff_ne, bne_eq_false_iff_eq, beq_iff_eq, beq_eq_false_iff_ne, ne_eq, Int.not_lt, Int.not_le, Bool.and_eq_true, Bool.and_eq_false_iff, Bool.or_eq_true, Bool.or_eq_false_iff] at h))))
  · exact dbF fun h' => by have := (e.1 h').1; omega
  refine go_loop (fun (j : Nat) => ⟨[(1, .d (ints t)), (2, .ref 0 0), (13, .d (di t.length)), (14, .d (di j))], [some (.var [ints l])]⟩) (fun j => j ≤ t.length ∧ ∀ i, i < j → 1 ≤ t.getD i 0 ∧ t.getD i 0 < 2 ^ (l.getD i 0).toNat) (fun j => t.length - j) 0 ?_ ?_ ?_
  · (simp -implicitDefEqProofs (maxSteps := 1000000) (disch := (first | omega | (simp only [go_sem] <;> omega) | fail)) only [go_sem, ints, bools, mat, reduceIte, Nat.reduceEqDiff, Nat.reduceAdd, Nat.reduceBEq, Nat.reduceMul, Nat.reduceLeDiff, Nat.reduceLT, Nat.reduceMod, Nat.reduceDiv, Nat.reduceSub, reduceCtorEq] <;> rfl)
  · simp
  · rintro j ⟨hj, hi⟩ J hJ
    have hq := hl j
    have hp := two_pow_lt (b := (l.getD j 0).toNat)
    repeat' (first | simp -implicitDefEqProofs (maxSteps := 1000000) (disch := (first | omega | (simp only [go_sem] <;> omega) | fail)) only [go_sem, ints, bools, mat, reduceIte, Nat.reduceEqDiff, Nat.reduceAdd, Nat.reduceBEq, Nat.reduceMul, Nat.reduceLeDiff, Nat.reduceLT, Nat.reduceMod, Nat.reduceDiv, Nat.reduceSub, reduceCtorEq] | ((first | refine goIf_b (fun h => ?_) (fun h => ?_) | refine goG_b (fun h => ?_) (fun h => ?_) | refine goTG_b (fun h => ?_) (fun h => ?_) | refine goOG_b (fun h => ?_) (fun h => ?_)) <;> ((try simp only [Bool.not_eq_true', Bool.not_eq_false'] at h); (try simp only [h]); (try simp only [decide_eq_true_eq, decide_eq_false_iff_not, bne_iff_ne, bne_eq_false_iff_eq, beq_iff_eq, beq_eq_false_iff_ne, ne_eq, Int.not_lt, Int.not_le, Bool.and_eq_true, Bool.and_eq_false_iff, Bool.or_eq_true, Bool.or_eq_false_iff] at h))))
    · first | refine goC_call [.r, .r, .r] (d_spec_l01In (t.getD j 0) 1 (2 ^ (l.getD j 0).toNat - 1)) ?_ | refine goOC_call [.r, .r, .r] (d_spec_l01In (t.getD j 0) 1 (2 ^ (l.getD j 0).toNat - 1)) ?_
      repeat' (first | simp -implicitDefEqProofs (maxSteps := 1000000) (disch := (first | omega | (simp only [go_sem] <;> omega) | fail)) only [go_sem, ints, bools, mat, reduceIte, Nat.reduceEqDiff, Nat.reduceAdd, Nat.reduceBEq, Nat.reduceMul, Nat.reduceLeDiff, Nat.reduceLT, Nat.reduceMod, Nat.reduceDiv, Nat.reduceSub, reduceCtorEq] | ((first | refine goIf_b (fun h => ?_) (fun h => ?_) | refine goG_b (fun h => ?_) (fun h => ?_) | refine goTG_b (fun h => ?_) (fun h => ?_) | refine goOG_b (fun h => ?_) (fun h => ?_)) <;> ((try simp only [Bool.not_eq_true', Bool.not_eq_false'] at h); (try simp only [h]); (try simp only [decide_eq_true_eq, decide_eq_false_iff_not, bne_iff_ne, bne_eq_false_iff_eq, beq_iff_eq, beq_eq_false_iff_ne, ne_eq, Int.not_lt, Int.not_le, Bool.and_eq_true, Bool.and_eq_false_iff, Bool.or_eq_true, Bool.or_eq_false_iff] at h))))
      · refine hJ (j + 1) ⟨by omega, all_ext hi (by omega)⟩ (by omega) _ (by (simp -implicitDefEqProofs (maxSteps := 1000000) (disch := (first | omega | (simp only [go_sem] <;> omega) | fail)) only [go_sem, ints, bools, mat, reduceIte, Nat.reduceEqDiff, Nat.reduceAdd, Nat.reduceBEq, Nat.reduceMul, Nat.reduceLeDiff, Nat.reduceLT, Nat.reduceMod, Nat.reduceDiv, Nat.reduceSub, reduceCtorEq] <;> rfl))
      · exact dbF fun h' => by have := (e.1 h').2 j (by omega); omega
    · exact dbT (e.2 ⟨by omega, fun i hi' => hi i (by omega)⟩)
theorem d_impl_isSlip (l t : List Int) (ht : t.length < 1048577) (hl : ∀ j, j < l.length → 2 ≤ l.getD j 0 ∧ l.getD j 0 ≤ 4) :
    Den PA f_impl_isSlip [.d (.agg [ints l]), .d (ints t)] [.any, .any] (.d (db (isSlipM l t))) := by
  have e := isSlipM_ok l t
  refine den_go [] l_impl_isSlip ?_
  repeat' (first | simp -implicitDefEqProofs (maxSteps := 1000000) (disch := (first | omega | (simp only [go_sem] <;> omega) | fail)) only [go_sem, ints, bools, mat, reduceIte, Nat.reduceEqDiff, Nat.reduceAdd, Nat.reduceBEq, Nat.reduceMul, Nat.reduceLeDiff, Nat.reduceLT, Nat.reduceMod, Nat.reduceDiv, Nat.reduceSub, reduceCtorEq, c_impl_isSlip] | ((first | refine goIf_b (fun h => ?_) (fun h => ?_) | refine goG_b (fun h => ?_) (fun h => ?_) | refine goTG_b (fun h => ?_) (fun h => ?_) | refine goOG_b (fun h => ?_) (fun h => ?_)) <;> ((try simp only [Bool.not_eq_true', Bool.not_eq_false'] at h); (try simp only [h]); (try simp only [decide_eq_true_eq, decide_eq_false_iff_not, bne_iff_ne, bne_eq_false_iff_eq, beq_iff_eq, beq_eq_false_iff_ne, ne_eq, Int.not_lt, Int.not_le, Bool.and_eq_true, Bool.and_eq_false_iff, Bool.or_eq_true, Bool.or_eq_false_iff] at h))))
  · exact dbF fun h' => by have := (e.1 h').1; omega
  refine go_loop (fun (j : Nat) => ⟨[(2, .ref 0 0), (13, .d (ints t)), (14, .d (di t.length)), (15, .d (di j))], [some (.var [ints l])]⟩) (fun j => j ≤ t.length ∧ ∀ i, i < j → 1 ≤ t.getD i 0 ∧ t.getD i 0 < 2 ^ (l.getD i 0).toNat) (fun j => t.length - j) 0 ?_ ?_ ?_
  · (simp -implicitDefEqProofs (maxSteps := 1000000) (disch := (first | omega | (simp only [go_sem] <;> omega) | fail)) only [go_sem, ints, bools, mat, reduceIte, Nat.reduceEqDiff, Nat.reduceAdd, Nat.reduceBEq, Nat.reduceMul, Nat.reduceLeDiff, Nat.reduceLT, Nat.reduceMod, Nat.reduceDiv, Nat.reduceSub, reduceCtorEq] <;> rfl)
  · simp
  · rintro j ⟨hj, hi⟩ J hJ
    have hq := hl j
    have hp := two_pow_lt (b := (l.getD j 0).toNat)
    repeat' (first | simp -implicitDefEqProofs (maxSteps := 1000000) (disch := (first | omega | (simp only [go_sem] <;> omega) | fail)) only [go_sem, ints, bools, mat, reduceIte, Nat.reduceEqDiff, Nat.reduceAdd, Nat.reduceBEq, Nat.reduceMul, Nat.reduceLeDiff, Nat.reduceLT, Nat.reduceMod, Nat.reduceDiv, Nat.reduceSub, reduceCtorEq] | ((first | refine goIf_b (fun h => ?_) (fun h => ?_) | refine goG_b (fun h => ?_) (fun h => ?_) | refine goTG_b (fun h => ?_) (fun h => ?_) | refine goOG_b (fun h => ?_) (fun h => ?_)) <;> ((try simp only [Bool.not_eq_true', Bool.not_eq_false'] at h); (try simp only [h]); (try simp only [decide_eq_true_eq, decide_eq_false_iff_not, bne_iff_ne, bne_eq_false_iff_eq, beq_iff_eq, beq_eq_false_iff_ne, ne_eq, Int.not_lt, Int.not_le, Bool.and_eq_true, Bool.and_eq_false_iff, Bool.or_eq_true, Bool.or_eq_false_iff] at h))))
    · exact dbF fun h' => by have := (e.1 h').2 j (by omega); omega
    · refine hJ (j + 1) ⟨by omega, all_ext hi (by omega)⟩ (by omega) _ (by (simp -implicitDefEqProofs (maxSteps := 1000000) (disch := (first | omega | (simp only [go_sem] <;> omega) | fail)) only [go_sem, ints, bools, mat, reduceIte, Nat.reduceEqDiff, Nat.reduceAdd, Nat.reduceBEq, Nat.reduceMul, Nat.reduceLeDiff, Nat.reduceLT, Nat.reduceMod, Nat.reduceDiv, Nat.reduceSub, reduceCtorEq] <;> rfl))
    · exact dbF fun h' => by have := (e.1 h').2 j (by omega); omega
    · exact dbT (e.2 ⟨by omega, fun i hi' => hi i (by omega)⟩)
theorem isSpaceM_q {l : List Int} (h : isSpaceM l = true) : ∀ j, j < l.length → 2 ≤ l.getD j 0 ∧ l.getD j 0 ≤ 4 := ((isSpaceM_ok l).1 h).2.1
theorem isSpaceM_n {l : List Int} (h : isSpaceM l = true) : 1 ≤ l.length ∧ l.length ≤ 8 := ((isSpaceM_ok l).1 h).1
theorem d_laws_eqSlip (l m : List Int) (hl : l.length < 1048577) :
    Den PA f_laws_eqSlip [.d (ints l), .d (ints m)] [.any, .any] (.d (db (decide (l = m)))) := by
  refine den_go [] l_laws_eqSlip ?_
  repeat' (first | simp -implicitDefEqProofs (maxSteps := 1000000) (disch := (first | omega | (simp only [go_sem] <;> omega) | fail)) only [go_sem, ints, bools, mat, reduceIte, Nat.reduceEqDiff, Nat.reduceAdd, Nat.reduceBEq, Nat.reduceMul, Nat.reduceLeDiff, Nat.reduceLT, Nat.reduceMod, Nat.reduceDiv, Nat.reduceSub, reduceCtorEq, c_laws_eqSlip] | ((first | refine goIf_b (fun h => ?_) (fun h => ?_) | refine goG_b (fun h => ?_) (fun h => ?_) | refine goTG_b (fun h => ?_) (fun h => ?_) | refine goOG_b (fun h => ?_) (fun h => ?_)) <;> ((try simp only [Bool.not_eq_true', Bool.not_eq_false'] at h); (try simp only [h]); (try simp only [decide_eq_true_eq, decide_eq_false_iff_not, bne_iff_ne, bne_eq_false_iff_eq, beq_iff_eq, beq_eq_false_iff_ne, ne_eq, Int.not_lt, Int.not_le, Bool.and_eq_true, Bool.and_eq_false_iff, Bool.or_eq_true, Bool.or_eq_false_iff] at h))))
  · exact dbF fun e => by have := of_decide_eq_true e; subst this; exact h rfl
  refine go_loop (fun (j : Nat) => ⟨[(0, .d (ints l)), (1, .d (ints m)), (5, .d (di j))], []⟩) (fun j => j ≤ l.length ∧ ∀ i, i < j → l.getD i 0 = m.getD i 0) (fun j => l.length - j) 0 ?_ ?_ ?_
  · (simp -implicitDefEqProofs (maxSteps := 1000000) (disch := (first | omega | (simp only [go_sem] <;> omega) | fail)) only [go_sem, ints, bools, mat, reduceIte, Nat.reduceEqDiff, Nat.reduceAdd, Nat.reduceBEq, Nat.reduceMul, Nat.reduceLeDiff, Nat.reduceLT, Nat.reduceMod, Nat.reduceDiv, Nat.reduceSub, reduceCtorEq] <;> rfl)
  · simp
  · rintro j ⟨hj, hi⟩ J hJ
    repeat' (first | simp -implicitDefEqProofs (maxSteps := 1000000) (disch := (first | omega | (simp only [go_sem] <;> omega) | fail)) only [go_sem, ints, bools, mat, reduceIte, Nat.reduceEqDiff, Nat.reduceAdd, Nat.reduceBEq, Nat.reduceMul, Nat.reduceLeDiff, Nat.reduceLT, Nat.reduceMod, Nat.reduceDiv, Nat.reduceSub, reduceCtorEq] | ((first | refine goIf_b (fun h => ?_) (fun h => ?_) | refine goG_b (fun h => ?_) (fun h => ?_) | refine goTG_b (fun h => ?_) (fun h => ?_) | refine goOG_b (fun h => ?_) (fun h => ?_)) <;> ((try simp only [Bool.not_eq_true', Bool.not_eq_false'] at h); (try simp only [h]); (try simp only [decide_eq_true_eq, decide_eq_false_iff_not, bne_iff_ne, bne_eq_false_iff_eq, beq_iff_eq, beq_eq_false_iff_ne, ne_eq, Int.not_lt, Int.not_le, Bool.and_eq_true, Bool.and_eq_false_iff, Bool.or_eq_true, Bool.or_eq_false_iff] at h))))
    · exact dbF fun e => by have := of_decide_eq_true e; subst this; exact h rfl
    · refine hJ (j + 1) ⟨by omega, all_ext hi (by omega)⟩ (by omega) _ (by (simp -implicitDefEqProofs (maxSteps := 1000000) (disch := (first | omega | (simp only [go_sem] <;> omega) | fail)) only [go_sem, ints, bools, mat, reduceIte, Nat.reduceEqDiff, Nat.reduceAdd, Nat.reduceBEq, Nat.reduceMul, Nat.reduceLeDiff, Nat.reduceLT, Nat.reduceMod, Nat.reduceDiv, Nat.reduceSub, reduceCtorEq] <;> rfl))
    · exact dbT (decide_eq_true (eq_getD (by omega) fun i hi' => hi i (by omega)))
theorem d_laws_toSlip (x : D) (l : List Int) (hx : IsInts x l) (hl : l.length < 1048577) :
    Den PA f_laws_toSlip [.d x] [.any] (.own 1 (l.map di)) := by
  refine den_go [] l_laws_toSlip ?_
  rcases hx with rfl | ⟨rfl, rfl⟩
  rotate_left
  · repeat' (first | simp -implicitDefEqProofs (maxSteps := 1000000) (disch := (first | omega | (simp only [go_sem] <;> omega) | fail)) only [go_sem, ints, bools, mat, reduceIte, Nat.reduceEqDiff, Nat.reduceAdd, Nat.reduceBEq, Nat.reduceMul, Nat.reduceLeDiff, Nat.reduceLT, Nat.reduceMod, Nat.reduceDiv, Nat.reduceSub, reduceCtorEq, c_laws_toSlip] | ((first | refine goIf_b (fun h => ?_) (fun h => ?_) | refine goG_b (fun h => ?_) (fun h => ?_) | refine goTG_b (fun h => ?_) (fun h => ?_) | refine goOG_b (fun h => ?_) (fun h => ?_)) <;> ((try simp only [Bool.not_eq_true', Bool.not_eq_false'] at h); (try simp only [h]); (try simp only [decide_eq_true_eq, decide_eq_false_iff_not, bne_iff_ne, bne_eq_false_iff_eq, beq_iff_eq, beq_eq_false_iff_ne, ne_eq, Int.not_lt, Int.not_le, Bool.and_eq_true, Bool.and_eq_false_iff, Bool.or_eq_true, Bool.or_eq_false_iff] at h))))
    refine go_loop (fun (_ : Unit) => ⟨[(0, .d (.v (.slice none 0 0))), (3, .sl 0 0 0 1), (4, .d (di 0))], [some (.dat 1 [])]⟩) (fun _ => True) (fun _ => 0) () ?_ trivial ?_
    · (simp -implicitDefEqProofs (maxSteps := 1000000) (disch := (first | omega | (simp only [go_sem] <;> omega) | fail)) only [go_sem, ints, bools, mat, reduceIte, Nat.reduceEqDiff, Nat.reduceAdd, Nat.reduceBEq, Nat.reduceMul, Nat.reduceLeDiff, Nat.reduceLT, Nat.reduceMod, Nat.reduceDiv, Nat.reduceSub, reduceCtorEq] <;> rfl)
    · intro _ _ J _
      repeat' (first | simp -implicitDefEqProofs (maxSteps := 1000000) (disch := (first | omega | (simp only [go_sem] <;> omega) | fail)) only [go_sem, ints, bools, mat, reduceIte, Nat.reduceEqDiff, Nat.reduceAdd, Nat.reduceBEq, Nat.reduceMul, Nat.reduceLeDiff, Nat.reduceLT, Nat.reduceMod, Nat.reduceDiv, Nat.reduceSub, reduceCtorEq] | ((first | refine goIf_b (fun h => ?_) (fun h => ?_) | refine goG_b (fun h => ?_) (fun h => ?_) | refine goTG_b (fun h => ?_) (fun h => ?_) | refine goOG_b (fun h => ?_) (fun h => ?_)) <;> ((try simp only [Bool.not_eq_true', Bool.not_eq_false'] at h); (try simp only [h]); (try simp only [decide_eq_true_eq, decide_eq_false_iff_not, bne_iff_ne, bne_eq_false_iff_eq, beq_iff_eq, beq_eq_false_iff_ne, ne_eq, Int.not_lt, Int.not_le, Bool.and_eq_true, Bool.and_eq_false_iff, Bool.or_eq_true, Bool.or_eq_false_iff] at h))))
  repeat' (first | simp -implicitDefEqProofs (maxSteps := 1000000) (disch := (first | omega | (simp only [go_sem] <;> omega) | fail)) only [go_sem, ints, bools, mat, reduceIte, Nat.reduceEqDiff, Nat.reduceAdd, Nat.reduceBEq, Nat.reduceMul, Nat.reduceLeDiff, Nat.reduceLT, Nat.reduceMod, Nat.reduceDiv, Nat.reduceSub, reduceCtorEq, c_laws_toSlip] | ((first | refine goIf_b (fun h => ?_) (fun h => ?_) | refine goG_b (fun h => ?_) (fun h => ?_) | refine goTG_b (fun h => ?_) (fun h => ?_) | refine goOG_b (fun h => ?_) (fun h => ?_)) <;> ((try simp only [Bool.not_eq_true', Bool.not_eq_false'] at h); (try simp only [h]); (try simp only [decide_eq_true_eq, decide_eq_false_iff_not, bne_iff_ne, bne_eq_false_iff_eq, beq_iff_eq, beq_eq_false_iff_ne, ne_eq, Int.not_lt, Int.not_le, Bool.and_eq_true, Bool.and_eq_false_iff, Bool.or_eq_true, Bool.or_eq_false_iff] at h))))
  refine go_loop (fun (j : Nat) => ⟨[(0, .d (ints l)), (3, .sl 0 0 l.length 1), (4, .d (di j))], [some (.dat 1 ((l.take j ++ List.replicate (l.length - j) 0).map di))]⟩) (fun j => j ≤ l.length) (fun j => l.length - j) 0 ?_ ?_ ?_
  · (simp -implicitDefEqProofs (maxSteps := 1000000) (disch := (first | omega | (simp only [go_sem] <;> omega) | fail)) only [go_sem, ints, bools, mat, reduceIte, Nat.reduceEqDiff, Nat.reduceAdd, Nat.reduceBEq, Nat.reduceMul, Nat.reduceLeDiff, Nat.reduceLT, Nat.reduceMod, Nat.reduceDiv, Nat.reduceSub, reduceCtorEq] <;> rfl)
  · simp
  · rintro j hj J hJ
    repeat' (first | simp -implicitDefEqProofs (maxSteps := 1000000) (disch := (first | omega | (simp only [go_sem] <;> omega) | fail)) only [go_sem, ints, bools, mat, reduceIte, Nat.reduceEqDiff, Nat.reduceAdd, Nat.reduceBEq, Nat.reduceMul, Nat.reduceLeDiff, Nat.reduceLT, Nat.reduceMod, Nat.reduceDiv, Nat.reduceSub, reduceCtorEq] | ((first | refine goIf_b (fun h => ?_) (fun h => ?_) | refine goG_b (fun h => ?_) (fun h => ?_) | refine goTG_b (fun h => ?_) (fun h => ?_) | refine goOG_b (fun h => ?_) (fun h => ?_)) <;> ((try simp only [Bool.not_eq_true', Bool.not_eq_false'] at h); (try simp only [h]); (try simp only [decide_eq_true_eq, decide_eq_false_iff_not, bne_iff_ne, bne_eq_false_iff_eq, beq_iff_eq, beq_eq_false_iff_ne, ne_eq, Int.not_lt, Int.not_le, Bool.and_eq_true, Bool.and_eq_false_iff, Bool.or_eq_true, Bool.or_eq_false_iff] at h))))
    · refine hJ (j + 1) (by omega) (by omega) _ ?_
      simp -implicitDefEqProofs (maxSteps := 1000000) (disch := (first | omega | (simp only [go_sem] <;> omega) | fail)) only [go_sem, ints, bools, mat, reduceIte, Nat.reduceEqDiff, Nat.reduceAdd, Nat.reduceBEq, Nat.reduceMul, Nat.reduceLeDiff, Nat.reduceLT, Nat.reduceMod, Nat.reduceDiv, Nat.reduceSub, reduceCtorEq]
      rw [fill_step l 0 0 (by omega) rfl]; rfl
    · have : j = l.length := by omega
      subst this; simp
theorem sz_ok {l : List Int} {left : Int} (h : 0 ≤ (if left < (l.length : Int) then (-1 : Int) else left - l.length)) : (l.length : Int) ≤ left := by
  by_cases hh : left < (l.length : Int)
  · rw [if_pos hh] at h; omega
  · omega
abbrev nil : D := .v (.slice none 0 0)
def markL (n : Nat) (k : Int) : List Int := (List.range n).map fun (i : Nat) => k + (i : Int)
@[go_sem] theorem markL_len (n : Nat) (k : Int) : (markL n k).length = n := by simp [markL]
theorem markL_get {n : Nat} (k : Int) {j : Nat} (h : j < n) : (markL n k).getD j 0 = k + j := by simp [markL, h]
@[go_sem] theorem take_markL (n : Nat) (k : Int) : (markL n k).take n = markL n k := List.take_of_length_le (by rw [markL_len]; exact Nat.le_refl _)
theorem mark_step (l : List Int) (k : Int) {j : Nat} (h : j < l.length) : (markL j k ++ l.drop j).set j (k + j) = markL (j + 1) k ++ l.drop (j + 1) := by
  apply List.ext_getElem
  · simp [markL]; omega
  · intro i h1 h2
    simp [markL] at h1 h2
    rw [List.getElem_set]
    split
    · subst_vars; simp [markL, List.getElem_append]
    · simp only [List.getElem_append, markL_len]
      split <;> split
      · simp [markL]
      · omega
      · omega
      · simp only [List.getElem_drop]; congr 1; omega
theorem d_laws_markSlip (l : List Int) (k : Int) (hl : l.length < 1048577) (hk : 0 ≤ k) (hk2 : k < 1000000000000) :
    Den PA f_laws_markSlip [.own 1 (l.map di), .d (di k)] [.own 1 ((markL l.length k).map di), .any] (.d (di (k + l.length))) := by
  refine den_go [0] l_laws_markSlip ?_
  repeat' (first | simp -implicitDefEqProofs (maxSteps := 1000000) (disch := (first | omega | (simp only [go_sem] <;> omega) | fail)) only [go_sem, ints, bools, mat, reduceIte, Nat.reduceEqDiff, Nat.reduceAdd, Nat.reduceBEq, Nat.reduceMul, Nat.reduceLeDiff, Nat.reduceLT, Nat.reduceMod, Nat.reduceDiv, Nat.reduceSub, reduceCtorEq, c_laws_markSlip] | ((first | refine goIf_b (fun h => ?_) (fun h => ?_) | refine goG_b (fun h => ?_) (fun h => ?_) | refine goTG_b (fun h => ?_) (fun h => ?_) | refine goOG_b (fun h => ?_) (fun h => ?_)) <;> ((try simp only [Bool.not_eq_true', Bool.not_eq_false'] at h); (try simp only [h]); (try simp only [decide_eq_true_eq, decide_eq_false_iff_not, bne_iff_ne, bne_eq_false_iff_eq, beq_iff_eq, beq_eq_false_iff_ne, ne_eq, Int.not_lt, Int.not_le, Bool.and_eq_true, Bool.and_eq_false_iff, Bool.or_eq_true, Bool.or_eq_false_iff] at h))))
  refine go_loop (fun (j : Nat) => ⟨[(0, .sl 0 0 l.length 1), (1, .d (di (k + j))), (5, .d (di j)), (19, .sl 0 0 l.length 1)], [some (.dat 1 ((markL j k ++ l.drop j).map di))]⟩) (fun j => j ≤ l.length) (fun j => l.length - j) 0 ?_ ?_ ?_
  · simp -implicitDefEqProofs (maxSteps := 1000000) (disch := (first | omega | (simp only [go_sem] <;> omega) | fail)) only [go_sem, ints, bools, mat, reduceIte, Nat.reduceEqDiff, Nat.reduceAdd, Nat.reduceBEq, Nat.reduceMul, Nat.reduceLeDiff, Nat.reduceLT, Nat.reduceMod, Nat.reduceDiv, Nat.reduceSub, reduceCtorEq]; simp [markL]
  · simp
  · rintro j hj J hJ
    have hlen := markL_len j k
    have hst := fun h => mark_step l k (j := j) h
    repeat' (first | simp -implicitDefEqProofs (maxSteps := 1000000) (disch := (first | omega | (simp only [go_sem] <;> omega) | fail)) only [go_sem, ints, bools, mat, reduceIte, Nat.reduceEqDiff, Nat.reduceAdd, Nat.reduceBEq, Nat.reduceMul, Nat.reduceLeDiff, Nat.reduceLT, Nat.reduceMod, Nat.reduceDiv, Nat.reduceSub, reduceCtorEq] | ((first | refine goIf_b (fun h => ?_) (fun h => ?_) | refine goG_b (fun h => ?_) (fun h => ?_) | refine goTG_b (fun h => ?_) (fun h => ?_) | refine goOG_b (fun h => ?_) (fun h => ?_)) <;> ((try simp only [Bool.not_eq_true', Bool.not_eq_false'] at h); (try simp only [h]); (try simp only [decide_eq_true_eq, decide_eq_false_iff_not, bne_iff_ne, bne_eq_false_iff_eq, beq_iff_eq, beq_eq_false_iff_ne, ne_eq, Int.not_lt, Int.not_le, Bool.and_eq_true, Bool.and_eq_false_iff, Bool.or_eq_true, Bool.or_eq_false_iff] at h))))
    · refine hJ (j + 1) (by omega) (by omega) _ ?_
      simp -implicitDefEqProofs (maxSteps := 1000000) (disch := (first | omega | (simp only [go_sem] <;> omega) | fail)) only [go_sem, ints, bools, mat, reduceIte, Nat.reduceEqDiff, Nat.reduceAdd, Nat.reduceBEq, Nat.reduceMul, Nat.reduceLeDiff, Nat.reduceLT, Nat.reduceMod, Nat.reduceDiv, Nat.reduceSub, reduceCtorEq]
      rw [hst (by omega)]; simp only [Int.natCast_add, Int.natCast_one, Int.add_assoc]
    · have : j = l.length := by omega
      subst this; simp
theorem d_laws_markSlip_nil (k : Int) : Den PA f_laws_markSlip [.d nil, .d (di k)] [.any, .any] (.d (di k)) := by
  refine den_go [] l_laws_markSlip ?_
  repeat' (first | simp -implicitDefEqProofs (maxSteps := 1000000) (disch := (first | omega | (simp only [go_sem] <;> omega) | fail)) only [go_sem, ints, bools, mat, reduceIte, Nat.reduceEqDiff, Nat.reduceAdd, Nat.reduceBEq, Nat.reduceMul, Nat.reduceLeDiff, Nat.reduceLT, Nat.reduceMod, Nat.reduceDiv, Nat.reduceSub, reduceCtorEq, c_laws_markSlip] | ((first | refine goIf_b (fun h => ?_) (fun h => ?_) | refine goG_b (fun h => ?_) (fun h => ?_) | refine goTG_b (fun h => ?_) (fun h => ?_) | refine goOG_b (fun h => ?_) (fun h => ?_)) <;> ((try simp only [Bool.not_eq_true', Bool.not_eq_false'] at h); (try simp only [h]); (try simp only [decide_eq_true_eq, decide_eq_false_iff_not, bne_iff_ne, bne_eq_false_iff_eq, beq_iff_eq, beq_eq_false_iff_ne, ne_eq, Int.not_lt, Int.not_le, Bool.and_eq_true, Bool.and_eq_false_iff, Bool.or_eq_true, Bool.or_eq_false_iff] at h))))
  refine go_loop (fun (_ : Unit) => ⟨[(0, .d nil), (1, .d (di k)), (5, .d (di 0)), (19, .any)], []⟩) (fun _ => True) (fun _ => 0) () ?_ trivial ?_
  · (simp -implicitDefEqProofs (maxSteps := 1000000) (disch := (first | omega | (simp only [go_sem] <;> omega) | fail)) only [go_sem, ints, bools, mat, reduceIte, Nat.reduceEqDiff, Nat.reduceAdd, Nat.reduceBEq, Nat.reduceMul, Nat.reduceLeDiff, Nat.reduceLT, Nat.reduceMod, Nat.reduceDiv, Nat.reduceSub, reduceCtorEq] <;> rfl)
  · intro _ _ J _
    repeat' (first | simp -implicitDefEqProofs (maxSteps := 1000000) (disch := (first | omega | (simp only [go_sem] <;> omega) | fail)) only [go_sem, ints, bools, mat, reduceIte, Nat.reduceEqDiff, Nat.reduceAdd, Nat.reduceBEq, Nat.reduceMul, Nat.reduceLeDiff, Nat.reduceLT, Nat.reduceMod, Nat.reduceDiv, Nat.reduceSub, reduceCtorEq] | ((first | refine goIf_b (fun h => ?_) (fun h => ?_) | refine goG_b (fun h => ?_) (fun h => ?_) | refine goTG_b (fun h => ?_) (fun h => ?_) | refine goOG_b (fun h => ?_) (fun h => ?_)) <;> ((try simp only [Bool.not_eq_true', Bool.not_eq_false'] at h); (try simp only [h]); (try simp only [decide_eq_true_eq, decide_eq_false_iff_not, bne_iff_ne, bne_eq_false_iff_eq, beq_iff_eq, beq_eq_false_iff_ne, ne_eq, Int.not_lt, Int.not_le, Bool.and_eq_true, Bool.and_eq_false_iff, Bool.or_eq_true, Bool.or_eq_false_iff] at h))))
theorem d_laws_heldSlip (n : Nat) (k : Int) (hl : n < 1048577) (hk : 0 ≤ k) (hk2 : k < 1000000000000) :
    Den PA f_laws_heldSlip [.d (ints (markL n k)), .d (di k)] [.any, .any] (.d (di (k + n))) := by
  have hlen := markL_len n k
  refine den_go [] l_laws_heldSlip ?_
  repeat' (first | simp -implicitDefEqProofs (maxSteps := 1000000) (disch := (first | omega | (simp only [go_sem] <;> omega) | fail)) only [go_sem, ints, bools, mat, reduceIte, Nat.reduceEqDiff, Nat.reduceAdd, Nat.reduceBEq, Nat.reduceMul, Nat.reduceLeDiff, Nat.reduceLT, Nat.reduceMod, Nat.reduceDiv, Nat.reduceSub, reduceCtorEq, c_laws_heldSlip] | ((first | refine goIf_b (fun h => ?_) (fun h => ?_) | refine goG_b (fun h => ?_) (fun h => ?_) | refine goTG_b (fun h => ?_) (fun h => ?_) | refine goOG_b (fun h => ?_) (fun h => ?_)) <;> ((try simp only [Bool.not_eq_true', Bool.not_eq_false'] at h); (try simp only [h]); (try simp only [decide_eq_true_eq, decide_eq_false_iff_not, bne_iff_ne, bne_eq_false_iff_eq, beq_iff_eq, beq_eq_false_iff_ne, ne_eq, Int.not_lt, Int.not_le, Bool.and_eq_true, Bool.and_eq_false_iff, Bool.or_eq_true, Bool.or_eq_false_iff] at h))))
  refine go_loop (fun (j : Nat) => ⟨[(0, .d (ints (markL n k))), (1, .d (di (k + j))), (5, .d (di j))], []⟩) (fun j => j ≤ n) (fun j => n - j) 0 ?_ ?_ ?_
  · simp -implicitDefEqProofs (maxSteps := 1000000) (disch := (first | omega | (simp only [go_sem] <;> omega) | fail)) only [go_sem, ints, bools, mat, reduceIte, Nat.reduceEqDiff, Nat.reduceAdd, Nat.reduceBEq, Nat.reduceMul, Nat.reduceLeDiff, Nat.reduceLT, Nat.reduceMod, Nat.reduceDiv, Nat.reduceSub, reduceCtorEq]; simp
  · simp
  · rintro j hj J hJ
    have hst := fun h => markL_get k (n := n) (j := j) h
    repeat' (first | simp -implicitDefEqProofs (maxSteps := 1000000) (disch := (first | omega | (simp only [go_sem] <;> omega) | fail)) only [go_sem, ints, bools, mat, reduceIte, Nat.reduceEqDiff, Nat.reduceAdd, Nat.reduceBEq, Nat.reduceMul, Nat.reduceLeDiff, Nat.reduceLT, Nat.reduceMod, Nat.reduceDiv, Nat.reduceSub, reduceCtorEq] | ((first | refine goIf_b (fun h => ?_) (fun h => ?_) | refine goG_b (fun h => ?_) (fun h => ?_) | refine goTG_b (fun h => ?_) (fun h => ?_) | refine goOG_b (fun h => ?_) (fun h => ?_)) <;> ((try simp only [Bool.not_eq_true', Bool.not_eq_false'] at h); (try simp only [h]); (try simp only [decide_eq_true_eq, decide_eq_false_iff_not, bne_iff_ne, bne_eq_false_iff_eq, beq_iff_eq, beq_eq_false_iff_ne, ne_eq, Int.not_lt, Int.not_le, Bool.and_eq_true, Bool.and_eq_false_iff, Bool.or_eq_true, Bool.or_eq_false_iff] at h))))
    · exfalso; rw [hst (by omega)] at h; exact h rfl
    · refine hJ (j + 1) (by omega) (by omega) _ ?_
      simp -implicitDefEqProofs (maxSteps := 1000000) (disch := (first | omega | (simp only [go_sem] <;> omega) | fail)) only [go_sem, ints, bools, mat, reduceIte, Nat.reduceEqDiff, Nat.reduceAdd, Nat.reduceBEq, Nat.reduceMul, Nat.reduceLeDiff, Nat.reduceLT, Nat.reduceMod, Nat.reduceDiv, Nat.reduceSub, reduceCtorEq]
      simp only [Int.natCast_add, Int.natCast_one, Int.add_assoc]
    · have : j = n := by omega
      subst this; rfl
theorem d_laws_heldSlip_nil (k : Int) : Den PA f_laws_heldSlip [.d nil, .d (di k)] [.any, .any] (.d (di k)) := by
  refine den_go [] l_laws_heldSlip ?_
  repeat' (first | simp -implicitDefEqProofs (maxSteps := 1000000) (disch := (first | omega | (simp only [go_sem] <;> omega) | fail)) only [go_sem, ints, bools, mat, reduceIte, Nat.reduceEqDiff, Nat.reduceAdd, Nat.reduceBEq, Nat.reduceMul, Nat.reduceLeDiff, Nat.reduceLT, Nat.reduceMod, Nat.reduceDiv, Nat.reduceSub, reduceCtorEq, c_laws_heldSlip] | ((first | refine goIf_b (fun h => ?_) (fun h => ?_) | refine goG_b (fun h => ?_) (fun h => ?_) | refine goTG_b (fun h => ?_) (fun h => ?_) | refine goOG_b (fun h => ?_) (fun h => ?_)) <;> ((try simp only [Bool.not_eq_true', Bool.not_eq_false'] at h); (try simp only [h]); (try simp only [decide_eq_true_eq, decide_eq_false_iff_not, bne_iff_ne, bne_eq_false_iff_eq, beq_iff_eq, beq_eq_false_iff_ne, ne_eq, Int.not_lt, Int.not_le, Bool.and_eq_true, Bool.and_eq_false_iff, Bool.or_eq_true, Bool.or_eq_false_iff] at h))))
  refine go_loop (fun (_ : Unit) => ⟨[(0, .d nil), (1, .d (di k)), (5, .d (di 0))], []⟩) (fun _ => True) (fun _ => 0) () ?_ trivial ?_
  · (simp -implicitDefEqProofs (maxSteps := 1000000) (disch := (first | omega | (simp only [go_sem] <;> omega) | fail)) only [go_sem, ints, bools, mat, reduceIte, Nat.reduceEqDiff, Nat.reduceAdd, Nat.reduceBEq, Nat.reduceMul, Nat.reduceLeDiff, Nat.reduceLT, Nat.reduceMod, Nat.reduceDiv, Nat.reduceSub, reduceCtorEq] <;> rfl)
  · intro _ _ J _
    repeat' (first | simp -implicitDefEqProofs (maxSteps := 1000000) (disch := (first | omega | (simp only [go_sem] <;> omega) | fail)) only [go_sem, ints, bools, mat, reduceIte, Nat.reduceEqDiff, Nat.reduceAdd, Nat.reduceBEq, Nat.reduceMul, Nat.reduceLeDiff, Nat.reduceLT, Nat.reduceMod, Nat.reduceDiv, Nat.reduceSub, reduceCtorEq] | ((first | refine goIf_b (fun h => ?_) (fun h => ?_) | refine goG_b (fun h => ?_) (fun h => ?_) | refine goTG_b (fun h => ?_) (fun h => ?_) | refine goOG_b (fun h => ?_) (fun h => ?_)) <;> ((try simp only [Bool.not_eq_true', Bool.not_eq_false'] at h); (try simp only [h]); (try simp only [decide_eq_true_eq, decide_eq_false_iff_not, bne_iff_ne, bne_eq_false_iff_eq, beq_iff_eq, beq_eq_false_iff_ne, ne_eq, Int.not_lt, Int.not_le, Bool.and_eq_true, Bool.and_eq_false_iff, Bool.or_eq_true, Bool.or_eq_false_iff] at h))))
theorem d_laws_markInt64S (l : List Int) (k : Int) (hl : l.length < 1048577) (hk : 0 ≤ k) (hk2 : k < 1000000000000) :
    Den PA f_laws_markInt64S [.own 1 (l.map di), .d (di k)] [.own 1 ((markL l.length k).map di), .any] (.d (di (k + l.length))) := by
  refine den_go [0] l_laws_markInt64S ?_
  repeat' (first | simp -implicitDefEqProofs (maxSteps := 1000000) (disch := (first | omega | (simp only [go_sem] <;> omega) | fail)) only [go_sem, ints, bools, mat, reduceIte, Nat.reduceEqDiff, Nat.reduceAdd, Nat.reduceBEq, Nat.reduceMul, Nat.reduceLeDiff, Nat.reduceLT, Nat.reduceMod, Nat.reduceDiv, Nat.reduceSub, reduceCtorEq, c_laws_markInt64S] | ((first | refine goIf_b (fun h => ?_) (fun h => ?_) | refine goG_b (fun h => ?_) (fun h => ?_) | refine goTG_b (fun h => ?_) (fun h => ?_) | refine goOG_b (fun h => ?_) (fun h => ?_)) <;> ((try simp only [Bool.not_eq_true', Bool.not_eq_false'] at h); (try simp only [h]); (try simp only [decide_eq_true_eq, decide_eq_false_iff_not, bne_iff_ne, bne_eq_false_iff_eq, beq_iff_eq, beq_eq_false_iff_ne, ne_eq, Int.not_lt, Int.not_le, Bool.and_eq_true, Bool.and_eq_false_iff, Bool.or_eq_true, Bool.or_eq_false_iff] at h))))
  refine go_loop (fun (j : Nat) => ⟨[(0, .sl 0 0 l.length 1), (1, .d (di (k + j))), (5, .d (di j)), (19, .sl 0 0 l.length 1)], [some (.dat 1 ((markL j k ++ l.drop j).map di))]⟩) (fun j => j ≤ l.length) (fun j => l.length - j) 0 ?_ ?_ ?_
  · simp -implicitDefEqProofs (maxSteps := 1000000) (disch := (first | omega | (simp only [go_sem] <;> omega) | fail)) only [go_sem, ints, bools, mat, reduceIte, Nat.reduceEqDiff, Nat.reduceAdd, Nat.reduceBEq, Nat.reduceMul, Nat.reduceLeDiff, Nat.reduceLT, Nat.reduceMod, Nat.reduceDiv, Nat.reduceSub, reduceCtorEq]; simp [markL]
  · simp
  · rintro j hj J hJ
    have hlen := markL_len j k
    have hst := fun h => mark_step l k (j := j) h
    repeat' (first | simp -implicitDefEqProofs (maxSteps := 1000000) (disch := (first | omega | (simp only [go_sem] <;> omega) | fail)) only [go_sem, ints, bools, mat, reduceIte, Nat.reduceEqDiff, Nat.reduceAdd, Nat.reduceBEq, Nat.reduceMul, Nat.reduceLeDiff, Nat.reduceLT, Nat.reduceMod, Nat.reduceDiv, Nat.reduceSub, reduceCtorEq] | ((first | refine goIf_b (fun h => ?_) (fun h => ?_) | refine goG_b (fun h => ?_) (fun h => ?_) | refine goTG_b (fun h => ?_) (fun h => ?_) | refine goOG_b (fun h => ?_) (fun h => ?_)) <;> ((try simp only [Bool.not_eq_true', Bool.not_eq_false'] at h); (try simp only [h]); (try simp only [decide_eq_true_eq, decide_eq_false_iff_not, bne_iff_ne, bne_eq_false_iff_eq, beq_iff_eq, beq_eq_false_iff_ne, ne_eq, Int.not_lt, Int.not_le, Bool.and_eq_true, Bool.and_eq_false_iff, Bool.or_eq_true, Bool.or_eq_false_iff] at h))))
    · refine hJ (j + 1) (by omega) (by omega) _ ?_
      simp -implicitDefEqProofs (maxSteps := 1000000) (disch := (first | omega | (simp only [go_sem] <;> omega) | fail)) only [go_sem, ints, bools, mat, reduceIte, Nat.reduceEqDiff, Nat.reduceAdd, Nat.reduceBEq, Nat.reduceMul, Nat.reduceLeDiff, Nat.reduceLT, Nat.reduceMod, Nat.reduceDiv, Nat.reduceSub, reduceCtorEq]
      rw [hst (by omega)]; simp only [Int.natCast_add, Int.natCast_one, Int.add_assoc]
    · have : j = l.length := by omega
      subst this; simp
theorem d_laws_eqSlip_nil : Den PA f_laws_eqSlip [.d nil, .d nil] [.any, .any] (.d (db true)) := by
  refine den_go [] l_laws_eqSlip ?_
  repeat' (first | simp -implicitDefEqProofs (maxSteps := 1000000) (disch := (first | omega | (simp only [go_sem] <;> omega) | fail)) only [go_sem, ints, bools, mat, reduceIte, Nat.reduceEqDiff, Nat.reduceAdd, Nat.reduceBEq, Nat.reduceMul, Nat.reduceLeDiff, Nat.reduceLT, Nat.reduceMod, Nat.reduceDiv, Nat.reduceSub, reduceCtorEq, c_laws_eqSlip] | ((first | refine goIf_b (fun h => ?_) (fun h => ?_) | refine goG_b (fun h => ?_) (fun h => ?_) | refine goTG_b (fun h => ?_) (fun h => ?_) | refine goOG_b (fun h => ?_) (fun h => ?_)) <;> ((try simp only [Bool.not_eq_true', Bool.not_eq_false'] at h); (try simp only [h]); (try simp only [decide_eq_true_eq, decide_eq_false_iff_not, bne_iff_ne, bne_eq_false_iff_eq, beq_iff_eq, beq_eq_false_iff_ne, ne_eq, Int.not_lt, Int.not_le, Bool.and_eq_true, Bool.and_eq_false_iff, Bool.or_eq_true, Bool.or_eq_false_iff] at h))))
  refine go_loop (fun (_ : Unit) => ⟨[(0, .d nil), (1, .d nil), (5, .d (di 0))], []⟩) (fun _ => True) (fun _ => 0) () ?_ trivial ?_
  · (simp -implicitDefEqProofs (maxSteps := 1000000) (disch := (first | omega | (simp only [go_sem] <;> omega) | fail)) only [go_sem, ints, bools, mat, reduceIte, Nat.reduceEqDiff, Nat.reduceAdd, Nat.reduceBEq, Nat.reduceMul, Nat.reduceLeDiff, Nat.reduceLT, Nat.reduceMod, Nat.reduceDiv, Nat.reduceSub, reduceCtorEq] <;> rfl)
  · intro _ _ J _
    repeat' (first | simp -implicitDefEqProofs (maxSteps := 1000000) (disch := (first | omega | (simp only [go_sem] <;> omega) | fail)) only [go_sem, ints, bools, mat, reduceIte, Nat.reduceEqDiff, Nat.reduceAdd, Nat.reduceBEq, Nat.reduceMul, Nat.reduceLeDiff, Nat.reduceLT, Nat.reduceMod, Nat.reduceDiv, Nat.reduceSub, reduceCtorEq] | ((first | refine goIf_b (fun h => ?_) (fun h => ?_) | refine goG_b (fun h => ?_) (fun h => ?_) | refine goTG_b (fun h => ?_) (fun h => ?_) | refine goOG_b (fun h => ?_) (fun h => ?_)) <;> ((try simp only [Bool.not_eq_true', Bool.not_eq_false'] at h); (try simp only [h]); (try simp only [decide_eq_true_eq, decide_eq_false_iff_not, bne_iff_ne, bne_eq_false_iff_eq, beq_iff_eq, beq_eq_false_iff_ne, ne_eq, Int.not_lt, Int.not_le, Bool.and_eq_true, Bool.and_eq_false_iff, Bool.or_eq_true, Bool.or_eq_false_iff] at h))))
theorem d_laws_markSpace (l : List Int) (k : Int) (hl : l.length < 1048577) (hk : 0 ≤ k) (hk2 : k < 1000000000000) :
    Den PA f_laws_markSpace [.agg [.own 1 (l.map di)], .d (di k)] [.agg [.own 1 ((markL l.length k).map di)], .any] (.d (di (k + l.length))) := by
  refine den_go [0] l_laws_markSpace ?_
  repeat' (first | simp -implicitDefEqProofs (maxSteps := 1000000) (disch := (first | omega | (simp only [go_sem] <;> omega) | fail)) only [go_sem, ints, bools, mat, reduceIte, Nat.reduceEqDiff, Nat.reduceAdd, Nat.reduceBEq, Nat.reduceMul, Nat.reduceLeDiff, Nat.reduceLT, Nat.reduceMod, Nat.reduceDiv, Nat.reduceSub, reduceCtorEq, c_laws_markSpace] | ((first | refine goIf_b (fun h => ?_) (fun h => ?_) | refine goG_b (fun h => ?_) (fun h => ?_) | refine goTG_b (fun h => ?_) (fun h => ?_) | refine goOG_b (fun h => ?_) (fun h => ?_)) <;> ((try simp only [Bool.not_eq_true', Bool.not_eq_false'] at h); (try simp only [h]); (try simp only [decide_eq_true_eq, decide_eq_false_iff_not, bne_iff_ne, bne_eq_false_iff_eq, beq_iff_eq, beq_eq_false_iff_ne, ne_eq, Int.not_lt, Int.not_le, Bool.and_eq_true, Bool.and_eq_false_iff, Bool.or_eq_true, Bool.or_eq_false_iff] at h))))
  have hm := markL_len l.length k
  first | refine goC_call [.o, .r] (d_laws_markInt64S l k hl hk hk2) ?_ | refine goOC_call [.o, .r] (d_laws_markInt64S l k hl hk hk2) ?_
  repeat' (first | simp -implicitDefEqProofs (maxSteps := 1000000) (disch := (first | omega | (simp only [go_sem] <;> omega) | fail)) only [go_sem, ints, bools, mat, reduceIte, Nat.reduceEqDiff, Nat.reduceAdd, Nat.reduceBEq, Nat.reduceMul, Nat.reduceLeDiff, Nat.reduceLT, Nat.reduceMod, Nat.reduceDiv, Nat.reduceSub, reduceCtorEq] | ((first | refine goIf_b (fun h => ?_) (fun h => ?_) | refine goG_b (fun h => ?_) (fun h => ?_) | refine goTG_b (fun h => ?_) (fun h => ?_) | refine goOG_b (fun h => ?_) (fun h => ?_)) <;> ((try simp only [Bool.not_eq_true', Bool.not_eq_false'] at h); (try simp only [h]); (try simp only [decide_eq_true_eq, decide_eq_false_iff_not, bne_iff_ne, bne_eq_false_iff_eq, beq_iff_eq, beq_eq_false_iff_ne, ne_eq, Int.not_lt, Int.not_le, Bool.and_eq_true, Bool.and_eq_false_iff, Bool.or_eq_true, Bool.or_eq_false_iff] at h))))
@[go_sem] theorem cast_succ_sub (i : Nat) : ((i + 1 : Nat) : Int) - 1 = (i : Int) := by omega
@[go_sem] theorem cast_zero0 : ((0 : Nat) : Int) = 0 := rfl
/-- The digits of a word, the first one first. -/
def digM : List Int → Int → List Int
  | [], _ => []
  | q :: r, w => (w / prodM r) % q :: digM r w
def pad8 (ds : List Int) : List Int := (ds ++ List.replicate 8 0).take 8
@[go_sem] theorem pad8_len (ds : List Int) : (pad8 ds).length = 8 := by simp [pad8]
/-- At how many places two words differ. -/
def farM : List Int → List Int → Int
  | a :: r, b :: s => (if a = b then 0 else 1) + farM r s
  | _, _ => 0
abbrev distM (l : List Int) (u w : Int) : Int := farM (digM l u) (digM l w)
abbrev scM (l : List Int) (ts : List (List Int)) : Int := if isSpaceM l then (if ts.all (isSlipM l) then 0 else 2) else 1
theorem allR {ts : List (List Int)} {p : List Int → Bool} : ts.all p = true ↔ ∀ j, j < ts.length → p (ts.getD j []) = true := by
  rw [List.all_eq_true]
  constructor
  · intro h j hj
    have e : ts.getD j [] = ts[j] := by simp [hj]
    rw [e]; exact h _ (List.getElem_mem hj)
  · intro h x hx
    obtain ⟨j, hj, rfl⟩ := List.mem_iff_getElem.1 hx
    have := h j hj
    have e : ts.getD j [] = ts[j] := by simp [hj]
    rwa [e] at this
theorem d_spec_l07Code (l : List Int) (hl : l.length < 1048577) (ts : List (List Int)) (hk : ts.length < 1048577) (ht : ∀ j, j < ts.length → (ts.getD j []).length < 1048577) :
    Den PA f_spec_l07Code [.d (.agg [ints l]), .d (mat ts)] [.any, .any] (.d (di (scM l ts))) := by
  have e := allR (ts := ts) (p := isSlipM l)
  refine den_go [] l_spec_l07Code ?_
  simp -implicitDefEqProofs (maxSteps := 1000000) (disch := (first | omega | (simp only [go_sem] <;> omega) | fail)) only [go_sem, ints, bools, mat, reduceIte, Nat.reduceEqDiff, Nat.reduceAdd, Nat.reduceBEq, Nat.reduceMul, Nat.reduceLeDiff, Nat.reduceLT, Nat.reduceMod, Nat.reduceDiv, Nat.reduceSub, reduceCtorEq, c_spec_l07Code, scM]
  first | refine goC_call [.r] (d_spec_l01Is l hl) ?_ | refine goOC_call [.r] (d_spec_l01Is l hl) ?_
  repeat' (first | simp -implicitDefEqProofs (maxSteps := 1000000) (disch := (first | omega | (simp only [go_sem] <;> omega) | fail)) only [go_sem, ints, bools, mat, reduceIte, Nat.reduceEqDiff, Nat.reduceAdd, Nat.reduceBEq, Nat.reduceMul, Nat.reduceLeDiff, Nat.reduceLT, Nat.reduceMod, Nat.reduceDiv, Nat.reduceSub, reduceCtorEq] | ((first | refine goIf_b (fun h => ?_) (fun h => ?_) | refine goG_b (fun h => ?_) (fun h => ?_) | refine goTG_b (fun h => ?_) (fun h => ?_) | refine goOG_b (fun h => ?_) (fun h => ?_)) <;> ((try simp only [Bool.not_eq_true', Bool.not_eq_false'] at h); (try simp only [h]); (try simp only [decide_eq_true_eq, decide_eq_false_iff_not, bne_iff_ne, bne_eq_false_iff_eq, beq_iff_eq, beq_eq_false_iff_ne, ne_eq, Int.not_lt, Int.not_le, Bool.and_eq_true, Bool.and_eq_false_iff, Bool.or_eq_true, Bool.or_eq_false_iff] at h))))
  have hs := h
  refine go_loop (fun (j : Nat) => ⟨[(1, .d (mat ts)), (2, .ref 0 0), (10, .d (di ts.length)), (11, .d (di j))], [some (.var [ints l])]⟩) (fun j => j ≤ ts.length ∧ ∀ i, i < j → isSlipM l (ts.getD i []) = true) (fun j => ts.length - j) 0 ?_ ?_ ?_
  · (simp -implicitDefEqProofs (maxSteps := 1000000) (disch := (first | omega | (simp only [go_sem] <;> omega) | fail)) only [go_sem, ints, bools, mat, reduceIte, Nat.reduceEqDiff, Nat.reduceAdd, Nat.reduceBEq, Nat.reduceMul, Nat.reduceLeDiff, Nat.reduceLT, Nat.reduceMod, Nat.reduceDiv, Nat.reduceSub, reduceCtorEq] <;> rfl)
  · simp
  · rintro j ⟨hj, hi⟩ J hJ
    repeat' (first | simp -implicitDefEqProofs (maxSteps := 1000000) (disch := (first | omega | (simp only [go_sem] <;> omega) | fail)) only [go_sem, ints, bools, mat, reduceIte, Nat.reduceEqDiff, Nat.reduceAdd, Nat.reduceBEq, Nat.reduceMul, Nat.reduceLeDiff, Nat.reduceLT, Nat.reduceMod, Nat.reduceDiv, Nat.reduceSub, reduceCtorEq] | ((first | refine goIf_b (fun h => ?_) (fun h => ?_) | refine goG_b (fun h => ?_) (fun h => ?_) | refine goTG_b (fun h => ?_) (fun h => ?_) | refine goOG_b (fun h => ?_) (fun h => ?_)) <;> ((try simp only [Bool.not_eq_true', Bool.not_eq_false'] at h); (try simp only [h]); (try simp only [decide_eq_true_eq, decide_eq_false_iff_not, bne_iff_ne, bne_eq_false_iff_eq, beq_iff_eq, beq_eq_false_iff_ne, ne_eq, Int.not_lt, Int.not_le, Bool.and_eq_true, Bool.and_eq_false_iff, Bool.or_eq_true, Bool.or_eq_false_iff] at h))))
    · first | refine goC_call [.r, .r] (d_spec_l07Is l (ts.getD j []) (ht j (by omega)) (isSpaceM_q hs)) ?_ | refine goOC_call [.r, .r] (d_spec_l07Is l (ts.getD j []) (ht j (by omega)) (isSpaceM_q hs)) ?_
      repeat' (first | simp -implicitDefEqProofs (maxSteps := 1000000) (disch := (first | omega | (simp only [go_sem] <;> omega) | fail)) only [go_sem, ints, bools, mat, reduceIte, Nat.reduceEqDiff, Nat.reduceAdd, Nat.reduceBEq, Nat.reduceMul, Nat.reduceLeDiff, Nat.reduceLT, Nat.reduceMod, Nat.reduceDiv, Nat.reduceSub, reduceCtorEq] | ((first | refine goIf_b (fun h => ?_) (fun h => ?_) | refine goG_b (fun h => ?_) (fun h => ?_) | refine goTG_b (fun h => ?_) (fun h => ?_) | refine goOG_b (fun h => ?_) (fun h => ?_)) <;> ((try simp only [Bool.not_eq_true', Bool.not_eq_false'] at h); (try simp only [h]); (try simp only [decide_eq_true_eq, decide_eq_false_iff_not, bne_iff_ne, bne_eq_false_iff_eq, beq_iff_eq, beq_eq_false_iff_ne, ne_eq, Int.not_lt, Int.not_le, Bool.and_eq_true, Bool.and_eq_false_iff, Bool.or_eq_true, Bool.or_eq_false_iff] at h))))
      · refine hJ (j + 1) ⟨by omega, all_ext hi h⟩ (by omega) _ (by (simp -implicitDefEqProofs (maxSteps := 1000000) (disch := (first | omega | (simp only [go_sem] <;> omega) | fail)) only [go_sem, ints, bools, mat, reduceIte, Nat.reduceEqDiff, Nat.reduceAdd, Nat.reduceBEq, Nat.reduceMul, Nat.reduceLeDiff, Nat.reduceLT, Nat.reduceMod, Nat.reduceDiv, Nat.reduceSub, reduceCtorEq] <;> rfl))
      · rw [if_neg]
        exact fun h' => by have := e.1 h' j (by omega); rw [h] at this; cases this
    · rw [if_pos]
      exact e.2 fun i hi' => hi i (by omega)
theorem d_impl_slipCode (l : List Int) (hl : l.length < 1048577) (ts : List (List Int)) (hk : ts.length < 1048577) (ht : ∀ j, j < ts.length → (ts.getD j []).length < 1048577) :
    Den PA f_impl_slipCode [.d (.agg [ints l]), .d (mat ts)] [.any, .any] (.d (di (scM l ts))) := by
  have e := allR (ts := ts) (p := isSlipM l)
  refine den_go [] l_impl_slipCode ?_
  simp -implicitDefEqProofs (maxSteps := 1000000) (disch := (first | omega | (simp only [go_sem] <;> omega) | fail)) only [go_sem, ints, bools, mat, reduceIte, Nat.reduceEqDiff, Nat.reduceAdd, Nat.reduceBEq, Nat.reduceMul, Nat.reduceLeDiff, Nat.reduceLT, Nat.reduceMod, Nat.reduceDiv, Nat.reduceSub, reduceCtorEq, c_impl_slipCode, scM]
  first | refine goC_call [.r] (d_impl_IsSpace l hl) ?_ | refine goOC_call [.r] (d_impl_IsSpace l hl) ?_
  repeat' (first | simp -implicitDefEqProofs (maxSteps := 1000000) (disch := (first | omega | (simp only [go_sem] <;> omega) | fail)) only [go_sem, ints, bools, mat, reduceIte, Nat.reduceEqDiff, Nat.reduceAdd, Nat.reduceBEq, Nat.reduceMul, Nat.reduceLeDiff, Nat.reduceLT, Nat.reduceMod, Nat.reduceDiv, Nat.reduceSub, reduceCtorEq] | ((first | refine goIf_b (fun h => ?_) (fun h => ?_) | refine goG_b (fun h => ?_) (fun h => ?_) | refine goTG_b (fun h => ?_) (fun h => ?_) | refine goOG_b (fun h => ?_) (fun h => ?_)) <;> ((try simp only [Bool.not_eq_true', Bool.not_eq_false'] at h); (try simp only [h]); (try simp only [decide_eq_true_eq, decide_eq_false_iff_not, bne_iff_ne, bne_eq_false_iff_eq, beq_iff_eq, beq_eq_false_iff_ne, ne_eq, Int.not_lt, Int.not_le, Bool.and_eq_true, Bool.and_eq_false_iff, Bool.or_eq_true, Bool.or_eq_false_iff] at h))))
  have hs := h
  refine go_loop (fun (j : Nat) => ⟨[(2, .ref 0 0), (10, .d (mat ts)), (11, .d (di ts.length)), (12, .d (di j))], [some (.var [ints l])]⟩) (fun j => j ≤ ts.length ∧ ∀ i, i < j → isSlipM l (ts.getD i []) = true) (fun j => ts.length - j) 0 ?_ ?_ ?_
  · (simp -implicitDefEqProofs (maxSteps := 1000000) (disch := (first | omega | (simp only [go_sem] <;> omega) | fail)) only [go_sem, ints, bools, mat, reduceIte, Nat.reduceEqDiff, Nat.reduceAdd, Nat.reduceBEq, Nat.reduceMul, Nat.reduceLeDiff, Nat.reduceLT, Nat.reduceMod, Nat.reduceDiv, Nat.reduceSub, reduceCtorEq] <;> rfl)
  · simp
  · rintro j ⟨hj, hi⟩ J hJ
    repeat' (first | simp -implicitDefEqProofs (maxSteps := 1000000) (disch := (first | omega | (simp only [go_sem] <;> omega) | fail)) only [go_sem, ints, bools, mat, reduceIte, Nat.reduceEqDiff, Nat.reduceAdd, Nat.reduceBEq, Nat.reduceMul, Nat.reduceLeDiff, Nat.reduceLT, Nat.reduceMod, Nat.reduceDiv, Nat.reduceSub, reduceCtorEq] | ((first | refine goIf_b (fun h => ?_) (fun h => ?_) | refine goG_b (fun h => ?_) (fun h => ?_) | refine goTG_b (fun h => ?_) (fun h => ?_) | refine goOG_b (fun h => ?_) (fun h => ?_)) <;> ((try simp only [Bool.not_eq_true', Bool.not_eq_false'] at h); (try simp only [h]); (try simp only [decide_eq_true_eq, decide_eq_false_iff_not, bne_iff_ne, bne_eq_false_iff_eq, beq_iff_eq, beq_eq_false_iff_ne, ne_eq, Int.not_lt, Int.not_le, Bool.and_eq_true, Bool.and_eq_false_iff, Bool.or_eq_true, Bool.or_eq_false_iff] at h))))
    · first | refine goC_call [.r, .r] (d_impl_isSlip l (ts.getD j []) (ht j (by omega)) (isSpaceM_q hs)) ?_ | refine goOC_call [.r, .r] (d_impl_isSlip l (ts.getD j []) (ht j (by omega)) (isSpaceM_q hs)) ?_
      repeat' (first | simp -implicitDefEqProofs (maxSteps := 1000000) (disch := (first | omega | (simp only [go_sem] <;> omega) | fail)) only [go_sem, ints, bools, mat, reduceIte, Nat.reduceEqDiff, Nat.reduceAdd, Nat.reduceBEq, Nat.reduceMul, Nat.reduceLeDiff, Nat.reduceLT, Nat.reduceMod, Nat.reduceDiv, Nat.reduceSub, reduceCtorEq] | ((first | refine goIf_b (fun h => ?_) (fun h => ?_) | refine goG_b (fun h => ?_) (fun h => ?_) | refine goTG_b (fun h => ?_) (fun h => ?_) | refine goOG_b (fun h => ?_) (fun h => ?_)) <;> ((try simp only [Bool.not_eq_true', Bool.not_eq_false'] at h); (try simp only [h]); (try simp only [decide_eq_true_eq, decide_eq_false_iff_not, bne_iff_ne, bne_eq_false_iff_eq, beq_iff_eq, beq_eq_false_iff_ne, ne_eq, Int.not_lt, Int.not_le, Bool.and_eq_true, Bool.and_eq_false_iff, Bool.or_eq_true, Bool.or_eq_false_iff] at h))))
      · refine hJ (j + 1) ⟨by omega, all_ext hi h⟩ (by omega) _ (by (simp -implicitDefEqProofs (maxSteps := 1000000) (disch := (first | omega | (simp only [go_sem] <;> omega) | fail)) only [go_sem, ints, bools, mat, reduceIte, Nat.reduceEqDiff, Nat.reduceAdd, Nat.reduceBEq, Nat.reduceMul, Nat.reduceLeDiff, Nat.reduceLT, Nat.reduceMod, Nat.reduceDiv, Nat.reduceSub, reduceCtorEq] <;> rfl))
      · rw [if_neg]
        exact fun h' => by have := e.1 h' j (by omega); rw [h] at this; cases this
    · rw [if_pos]
      exact e.2 fun i hi' => hi i (by omega)
@[go_sem] theorem and1_norm {x : Int} (h : 0 ≤ x) : ((x.toNat &&& (1 : Int).toNat : Nat) : Int) = x % 2 := by
  rw [show (1 : Int).toNat = 1 from rfl, and_one_toNat]; omega
theorem isSlipM_16 {l t : List Int} (hs : isSpaceM l = true) (h : isSlipM l t = true) : t.length = l.length ∧ ∀ j, j < t.length → 1 ≤ t.getD j 0 ∧ t.getD j 0 < 16 := by
  obtain ⟨h1, h2⟩ := (isSlipM_ok l t).1 h
  refine ⟨h1, fun j hj => ⟨(h2 j hj).1, ?_⟩⟩
  have hq := isSpaceM_q hs j (by omega)
  have h3 := (h2 j hj).2
  have h4 : (2 : Int) ^ (l.getD j 0).toNat ≤ 2 ^ 4 := by
    have h5 : (2 : Nat) ^ (l.getD j 0).toNat ≤ 2 ^ 4 := Nat.pow_le_pow_right (by omega) (by omega)
    exact_mod_cast h5
  omega
theorem scM_ok {l : List Int} {ts : List (List Int)} (h : scM l ts = 0) : isSpaceM l = true ∧ ∀ t, t ∈ ts → isSlipM l t = true := by
  unfold scM at h
  split at h
  · rename_i hs
    split at h
    · rename_i hw
      exact ⟨hs, fun t ht => List.all_eq_true.1 hw t ht⟩
    · cases h
  · cases h
theorem flat_dig (ds : List (List Int)) : flat (ds.map fun d => D.agg ((pad8 d).map dy)) = ds.flatMap fun d => (pad8 d).map dy := by
  induction ds with
  | nil => rfl
  | cons d r ih => simp only [flat, List.map_cons, List.flatMap_cons] at ih ⊢; rw [ih]; rfl
theorem drop_dig (ds : List (List Int)) : ∀ i, i < ds.length → ((ds.flatMap fun d => (pad8 d).map dy).drop (i * 8)).take 8 = (pad8 (ds.getD i [])).map dy := by
  induction ds with
  | nil => intro i hi; simp at hi
  | cons d r ih =>
    intro i hi
    rcases i with _ | i
    · rw [List.flatMap_cons, Nat.zero_mul, List.drop_zero, List.take_left' (by simp [pad8_len])]; rfl
    · rw [List.flatMap_cons, Nat.succ_mul, Nat.add_comm, ← List.drop_drop, List.drop_left' (by simp [pad8_len]), ih i (by simpa using hi)]; rfl
theorem len_dig (ds : List (List Int)) : (ds.flatMap fun d => (pad8 d).map dy).length = ds.length * 8 := by
  induction ds with
  | nil => rfl
  | cons d r ih => simp [List.flatMap_cons, ih, Nat.succ_mul, Nat.add_comm, pad8_len]
@[go_sem] theorem ldC_dig {ds : List (List Int)} {i : Nat} (h : i < ds.length) : ldC true 8 (flat (ds.map fun d => D.agg ((pad8 d).map dy))) (i * 8) = some (.d (.agg ((pad8 (ds.getD i [])).map dy))) := by
  rw [flat_dig]
  have h1 := drop_dig ds i h
  have h2 := len_dig ds
  unfold ldC
  rw [if_pos rfl]
  split
  · rename_i hc
    rw [hc.1, List.drop_zero, List.take_of_length_le (by omega)] at h1
    rw [h1]
  · rw [if_pos (by omega), h1]
@[go_sem] theorem get_dig {ds : List (List Int)} {i : Nat} (h : i < ds.length) : (ds.map fun d => D.agg ((pad8 d).map dy))[i]? = some (D.agg ((pad8 (ds.getD i [])).map dy)) := by simp [h]
@[go_sem] theorem app_dig (ds : List (List Int)) (d : List Int) : (ds.map fun d => D.agg ((pad8 d).map dy)) ++ [D.agg ((pad8 d).map dy)] = (ds ++ [d]).map fun d => D.agg ((pad8 d).map dy) := by simp
@[go_sem] theorem mul_mod8 (i : Nat) : i * 8 % 8 = 0 := Nat.mul_mod_left i 8
@[go_sem] theorem mul_div8 (i : Nat) : i * 8 / 8 = i := by omega
def digsM (l c : List Int) : List (List Int) := c.map (digM l)
@[go_sem] theorem digsM_len (l c : List Int) : (digsM l c).length = c.length := by simp [digsM]
def allW (l : List Int) : List Int := (List.range (prodM l).toNat).map fun (w : Nat) => (w : Int)
@[go_sem] theorem allW_len (l : List Int) : (allW l).length = (prodM l).toNat := by simp [allW]
abbrev lstR (b : Int) (v : List Int) : R := if b = 0 then .tup [.own 1 (v.map di), .d (di 0)] else .tup [.d nil, .d (di b)]
theorem lstR_ok {b : Int} {v : List Int} (h : b = 0) : lstR b v = .tup [.own 1 (v.map di), .d (di 0)] := by simp [lstR, h]
theorem lstR_no {b : Int} {v : List Int} (h : ¬ b = 0) : lstR b v = .tup [.d nil, .d (di b)] := by simp [lstR, h]
/-- How often each number comes up. -/
def histS (o : List Int) (d : Int) : List Int := o.set d.toNat (o.getD d.toNat 0 + 1)
def hist (n : Nat) (ds : List Int) : List Int := ds.foldl histS (List.replicate n 0)
theorem foldl_hist_len (ds : List Int) : ∀ o : List Int, (ds.foldl histS o).length = o.length := by
  induction ds with
  | nil => intro o; rfl
  | cons d r ih => intro o; rw [List.foldl_cons, ih]; simp [histS]
@[go_sem] theorem hist_len (n : Nat) (ds : List Int) : (hist n ds).length = n := by rw [hist, foldl_hist_len]; simp
attribute [go_sem] Nat.sub_zero
/-- The lesser of two. -/
def mn2 (a b : Int) : Int := if b < a then b else a
@[go_sem] theorem mnA_mn2 (a b : Int) : mnA (.d (di a)) (.d (di b)) = some (.d (di (mn2 a b))) := rfl
/-- The greater of two. -/
def mx2 (a b : Int) : Int := if a < b then b else a
@[go_sem] theorem mxA_mx2 (a b : Int) : mxA (.d (di a)) (.d (di b)) = some (.d (di (mx2 a b))) := rfl
def or2 (x d : Int) : Int := ((x.toNat ||| (2 ^ d.toNat : Int).toNat : Nat) : Int)
def orN (t a : List Int) : Nat → List Int
  | 0 => t
  | j + 1 => (orN t a j).set j (or2 ((orN t a j).getD j 0) (a.getD j 0))
@[go_sem] theorem orN_len (t a : List Int) : ∀ j, (orN t a j).length = t.length
  | 0 => rfl
  | j + 1 => by rw [orN, List.length_set, orN_len t a j]
def lsN (l c : List Int) : Nat → List Int
  | 0 => List.replicate l.length 0
  | j + 1 => orN (lsN l c j) (digM l (c.getD j 0)) l.length
@[go_sem] theorem lsN_len (l c : List Int) : ∀ j, (lsN l c j).length = l.length
  | 0 => by simp [lsN]
  | j + 1 => by rw [lsN, orN_len, lsN_len l c j]
/-- How many of the first words of a code are within r of a word. -/
def cntN (l c : List Int) (r u : Int) : Nat → Int
  | 0 => 0
  | j + 1 => cntN l c r u j + (if distM l (c.getD j 0) u ≤ r then 1 else 0)
def mixT (l c : List Int) (r : Int) (j k : Nat) : List Int := (List.range (prodM l).toNat).map fun (i : Nat) => cntN l c r i (if i < k then j + 1 else j)
@[go_sem] theorem mixT_len (l c : List Int) (r : Int) (j k : Nat) : (mixT l c r j k).length = (prodM l).toNat := by simp [mixT]
def timesN (l c : List Int) (r : Int) (j : Nat) : List Int := mixT l c r j 0
@[go_sem] theorem timesN_len (l c : List Int) (r : Int) (j : Nat) : (timesN l c r j).length = (prodM l).toNat := mixT_len _ _ _ _ _
attribute [go_sem] isnA List.drop_length
def and2 (x y : Int) : Int := ((x.toNat &&& y.toNat : Nat) : Int)
def andM (t u : List Int) : List Int := (List.range t.length).map fun (i : Nat) => and2 (t.getD i 0) (u.getD i 0)
@[go_sem] theorem andM_len (t u : List Int) : (andM t u).length = t.length := by simp [andM]
theorem andM_get {t : List Int} (u : List Int) {i : Nat} (h : i < t.length) : (andM t u).getD i 0 = and2 (t.getD i 0) (u.getD i 0) := by simp [andM, h]
theorem mixS_step {α : Type} {A t : List α} (d : α) {j : Nat} (h : A.length = t.length) (hj : j < t.length) : (A.take j ++ t.drop j).set j (A.getD j d) = A.take (j + 1) ++ t.drop (j + 1) := by
  apply List.ext_getElem
  · simp; omega
  · intro i h1 h2
    simp at h1 h2
    rw [List.getElem_set]
    split
    · subst_vars; simp [List.getElem_append, h, hj]
      intro; omega
    · simp only [List.getElem_append, List.length_take]
      split <;> split
      · simp
      · omega
      · omega
      · simp only [List.getElem_drop]; congr 1; omega
theorem mixS_get {α : Type} {A t : List α} (d : α) {j : Nat} (h : A.length = t.length) (hj : j < t.length) : (A.take j ++ t.drop j).getD j d = t.getD j d := by
  rw [List.getD_eq_getElem?_getD, List.getElem?_append, if_neg (by simp; omega), List.getElem?_drop, List.getD_eq_getElem?_getD]
  congr 2; simp; omega
theorem and2_le (x y : Int) (h : 0 ≤ x) : 0 ≤ and2 x y ∧ and2 x y ≤ x := by
  have := @Nat.and_le_left x.toNat y.toNat
  unfold and2; omega
theorem d_slices_Clone_Slip (t : List Int) (h : t.length < 1048577) : Den PA f_slices_Clone_impl_Slip_int64_ [.d (ints t)] [.any] (.own 1 (t.map di)) := by
  refine den_go [] l_slices_Clone_impl_Slip_int64_ ?_
  repeat' (first | simp -implicitDefEqProofs (maxSteps := 1000000) (disch := (first | omega | (simp only [go_sem] <;> omega) | fail)) only [go_sem, ints, bools, mat, reduceIte, Nat.reduceEqDiff, Nat.reduceAdd, Nat.reduceBEq, Nat.reduceMul, Nat.reduceLeDiff, Nat.reduceLT, Nat.reduceMod, Nat.reduceDiv, Nat.reduceSub, reduceCtorEq, c_slices_Clone_impl_Slip_int64_] | ((first | refine goIf_b (fun h => ?_) (fun h => ?_) | refine goG_b (fun h => ?_) (fun h => ?_) | refine goTG_b (fun h => ?_) (fun h => ?_) | refine goOG_b (fun h => ?_) (fun h => ?_)) <;> ((try simp only [Bool.not_eq_true', Bool.not_eq_false'] at h); (try simp only [h]); (try simp only [decide_eq_true_eq, decide_eq_false_iff_not, bne_iff_ne, bne_eq_false_iff_eq, beq_iff_eq, beq_eq_false_iff_ne, ne_eq, Int.not_lt, Int.not_le, Bool.and_eq_true, Bool.and_eq_false_iff, Bool.or_eq_true, Bool.or_eq_false_iff] at h))))
theorem d_slices_Index_Slip (t : List Int) (v : Int) (h : t.length < 1048577) : Den PA f_slices_Index_impl_Slip_int64_ [.d (ints t), .d (di v)] [.any, .any] (.d (di (match t.findIdx? (fun x => v == x) with | some j => j | none => -1))) := by
  refine den_go [] l_slices_Index_impl_Slip_int64_ ?_
  repeat' (first | simp -implicitDefEqProofs (maxSteps := 1000000) (disch := (first | omega | (simp only [go_sem] <;> omega) | fail)) only [go_sem, ints, bools, mat, reduceIte, Nat.reduceEqDiff, Nat.reduceAdd, Nat.reduceBEq, Nat.reduceMul, Nat.reduceLeDiff, Nat.reduceLT, Nat.reduceMod, Nat.reduceDiv, Nat.reduceSub, reduceCtorEq, c_slices_Index_impl_Slip_int64_] | ((first | refine goIf_b (fun h => ?_) (fun h => ?_) | refine goG_b (fun h => ?_) (fun h => ?_) | refine goTG_b (fun h => ?_) (fun h => ?_) | refine goOG_b (fun h => ?_) (fun h => ?_)) <;> ((try simp only [Bool.not_eq_true', Bool.not_eq_false'] at h); (try simp only [h]); (try simp only [decide_eq_true_eq, decide_eq_false_iff_not, bne_iff_ne, bne_eq_false_iff_eq, beq_iff_eq, beq_eq_false_iff_ne, ne_eq, Int.not_lt, Int.not_le, Bool.and_eq_true, Bool.and_eq_false_iff, Bool.or_eq_true, Bool.or_eq_false_iff] at h))))
  refine go_loop (fun (j : Nat) => ⟨[(0, .d (ints t)), (1, .d (di v)), (7, .d (di t.length)), (8, .d (di j))], []⟩) (fun j => j ≤ t.length ∧ ∀ i, i < j → (v == t.getD i 0) = false) (fun j => t.length - j) 0 ?_ ?_ ?_
  · (simp -implicitDefEqProofs (maxSteps := 1000000) (disch := (first | omega | (simp only [go_sem] <;> omega) | fail)) only [go_sem, ints, bools, mat, reduceIte, Nat.reduceEqDiff, Nat.reduceAdd, Nat.reduceBEq, Nat.reduceMul, Nat.reduceLeDiff, Nat.reduceLT, Nat.reduceMod, Nat.reduceDiv, Nat.reduceSub, reduceCtorEq] <;> rfl)
  · simp
  · rintro j ⟨hj, hi⟩ J hJ
    repeat' (first | simp -implicitDefEqProofs (maxSteps := 1000000) (disch := (first | omega | (simp only [go_sem] <;> omega) | fail)) only [go_sem, ints, bools, mat, reduceIte, Nat.reduceEqDiff, Nat.reduceAdd, Nat.reduceBEq, Nat.reduceMul, Nat.reduceLeDiff, Nat.reduceLT, Nat.reduceMod, Nat.reduceDiv, Nat.reduceSub, reduceCtorEq] | ((first | refine goIf_b (fun h => ?_) (fun h => ?_) | refine goG_b (fun h => ?_) (fun h => ?_) | refine goTG_b (fun h => ?_) (fun h => ?_) | refine goOG_b (fun h => ?_) (fun h => ?_)) <;> ((try simp only [Bool.not_eq_true', Bool.not_eq_false'] at h); (try simp only [h]); (try simp only [decide_eq_true_eq, decide_eq_false_iff_not, bne_iff_ne, bne_eq_false_iff_eq, beq_iff_eq, beq_eq_false_iff_ne, ne_eq, Int.not_lt, Int.not_le, Bool.and_eq_true, Bool.and_eq_false_iff, Bool.or_eq_true, Bool.or_eq_false_iff] at h))))
    · rw [findIdx_at (by omega) (by simpa using h) hi]
    · refine hJ (j + 1) ⟨by omega, all_ext hi (by simpa using h)⟩ (by omega) _ (by (simp -implicitDefEqProofs (maxSteps := 1000000) (disch := (first | omega | (simp only [go_sem] <;> omega) | fail)) only [go_sem, ints, bools, mat, reduceIte, Nat.reduceEqDiff, Nat.reduceAdd, Nat.reduceBEq, Nat.reduceMul, Nat.reduceLeDiff, Nat.reduceLT, Nat.reduceMod, Nat.reduceDiv, Nat.reduceSub, reduceCtorEq] <;> rfl))
    · rw [findIdx_no fun i hi' => hi i (by omega)]
theorem d_slices_Contains_Slip (t : List Int) (v : Int) (h : t.length < 1048577) : Den PA f_slices_Contains_impl_Slip_int64_ [.d (ints t), .d (di v)] [.any, .any] (.d (db (t.any fun x => v == x))) := by
  refine den_go [] l_slices_Contains_impl_Slip_int64_ ?_
  repeat' (first | simp -implicitDefEqProofs (maxSteps := 1000000) (disch := (first | omega | (simp only [go_sem] <;> omega) | fail)) only [go_sem, ints, bools, mat, reduceIte, Nat.reduceEqDiff, Nat.reduceAdd, Nat.reduceBEq, Nat.reduceMul, Nat.reduceLeDiff, Nat.reduceLT, Nat.reduceMod, Nat.reduceDiv, Nat.reduceSub, reduceCtorEq, c_slices_Contains_impl_Slip_int64_] | ((first | refine goIf_b (fun h => ?_) (fun h => ?_) | refine goG_b (fun h => ?_) (fun h => ?_) | refine goTG_b (fun h => ?_) (fun h => ?_) | refine goOG_b (fun h => ?_) (fun h => ?_)) <;> ((try simp only [Bool.not_eq_true', Bool.not_eq_false'] at h); (try simp only [h]); (try simp only [decide_eq_true_eq, decide_eq_false_iff_not, bne_iff_ne, bne_eq_false_iff_eq, beq_iff_eq, beq_eq_false_iff_ne, ne_eq, Int.not_lt, Int.not_le, Bool.and_eq_true, Bool.and_eq_false_iff, Bool.or_eq_true, Bool.or_eq_false_iff] at h))))
  first | refine goC_call [.r, .r] (d_slices_Index_Slip t v h) ?_ | refine goOC_call [.r, .r] (d_slices_Index_Slip t v h) ?_
  repeat' (first | simp -implicitDefEqProofs (maxSteps := 1000000) (disch := (first | omega | (simp only [go_sem] <;> omega) | fail)) only [go_sem, ints, bools, mat, reduceIte, Nat.reduceEqDiff, Nat.reduceAdd, Nat.reduceBEq, Nat.reduceMul, Nat.reduceLeDiff, Nat.reduceLT, Nat.reduceMod, Nat.reduceDiv, Nat.reduceSub, reduceCtorEq] | ((first | refine goIf_b (fun h => ?_) (fun h => ?_) | refine goG_b (fun h => ?_) (fun h => ?_) | refine goTG_b (fun h => ?_) (fun h => ?_) | refine goOG_b (fun h => ?_) (fun h => ?_)) <;> ((try simp only [Bool.not_eq_true', Bool.not_eq_false'] at h); (try simp only [h]); (try simp only [decide_eq_true_eq, decide_eq_false_iff_not, bne_iff_ne, bne_eq_false_iff_eq, beq_iff_eq, beq_eq_false_iff_ne, ne_eq, Int.not_lt, Int.not_le, Bool.and_eq_true, Bool.and_eq_false_iff, Bool.or_eq_true, Bool.or_eq_false_iff] at h))))
  refine dbv ?_
  cases h : t.findIdx? (fun x => v == x) with
  | none =>
    rw [List.findIdx?_eq_none_iff] at h
    symm
    simpa using h
  | some j =>
    obtain ⟨hj, h1, _⟩ := List.findIdx?_eq_some_iff_getElem.1 h
    rw [List.any_eq_true.2 ⟨t[j], List.getElem_mem hj, h1⟩]
    simp
theorem two_len {t u : List Int} (ht : t.length < 1048577) (hu : u.length < 1048577) : ∀ j, j < [t, u].length → ([t, u].getD j []).length < 1048577 := by
  intro j hj
  rcases j with _ | _ | j
  · exact ht
  · exact hu
  · simp at hj; omega
abbrev zerB (t u : List Int) : Bool := (andM t u).any fun x => 0 == x
theorem and_slip {l t u : List Int} (hs : isSpaceM l = true) (ht : isSlipM l t = true) : isSlipM l (andM t u) = !zerB t u := by
  obtain ⟨h1, h2⟩ := (isSlipM_ok l t).1 ht
  cases hz : zerB t u with
  | true =>
    rw [Bool.not_true]
    refine Bool.eq_false_iff.2 fun h => ?_
    obtain ⟨h3, h4⟩ := (isSlipM_ok l _).1 h
    obtain ⟨x, hx, h0⟩ := List.any_eq_true.1 hz
    obtain ⟨i, hi, rfl⟩ := List.mem_iff_getElem.1 hx
    have := (h4 i hi).1
    have e : (andM t u).getD i 0 = (andM t u)[i] := by simp [hi]
    rw [e] at this
    simp at h0; omega
  | false =>
    rw [Bool.not_false]
    refine (isSlipM_ok l _).2 ⟨by rw [andM_len]; exact h1, fun j hj => ?_⟩
    rw [andM_len] at hj
    have h3 := h2 j hj
    have h4 := and2_le (t.getD j 0) (u.getD j 0) (by omega)
    have h5 : ¬ (andM t u).getD j 0 = 0 := fun e => by
      have := List.any_eq_false.1 hz _ (mem_getD (l := andM t u) (j := j) (by rw [andM_len]; exact hj))
      rw [e] at this; simp at this
    rw [andM_get u hj] at h5 ⊢
    omega
abbrev cmM (l t u : List Int) : Int := if scM l [t, u] = 0 then (if zerB t u then 4 else 0) else scM l [t, u]
theorem d_impl_SlipsInCommon (l t u : List Int) (hl : l.length < 1048577) (ht : t.length < 1048577) (hu : u.length < 1048577) : Den PA f_impl_SlipsInCommon [.d (.agg [ints l]), .d (ints t), .d (ints u)] [.any, .any, .any] (lstR (cmM l t u) (andM t u)) := by
  refine den_go [] l_impl_SlipsInCommon ?_
  repeat' (first | simp -implicitDefEqProofs (maxSteps := 1000000) (disch := (first | omega | (simp only [go_sem] <;> omega) | fail)) only [go_sem, ints, bools, mat, reduceIte, Nat.reduceEqDiff, Nat.reduceAdd, Nat.reduceBEq, Nat.reduceMul, Nat.reduceLeDiff, Nat.reduceLT, Nat.reduceMod, Nat.reduceDiv, Nat.reduceSub, reduceCtorEq, c_impl_SlipsInCommon] | ((first | refine goIf_b (fun h => ?_) (fun h => ?_) | refine goG_b (fun h => ?_) (fun h => ?_) | refine goTG_b (fun h => ?_) (fun h => ?_) | refine goOG_b (fun h => ?_) (fun h => ?_)) <;> ((try simp only [Bool.not_eq_true', Bool.not_eq_false'] at h); (try simp only [h]); (try simp only [decide_eq_true_eq, decide_eq_false_iff_not, bne_iff_ne, bne_eq_false_iff_eq, beq_iff_eq, beq_eq_false_iff_ne, ne_eq, Int.not_lt, Int.not_le, Bool.and_eq_true, Bool.and_eq_false_iff, Bool.or_eq_true, Bool.or_eq_false_iff] at h))))
  first | refine goC_call [.r, .r] (d_impl_slipCode l hl [t, u] (by simp) (two_len ht hu)) ?_ | refine goOC_call [.r, .r] (d_impl_slipCode l hl [t, u] (by simp) (two_len ht hu)) ?_
  by_cases h : scM l [t, u] = 0
  · obtain ⟨hs, hw⟩ := scM_ok h
    obtain ⟨h1, h2⟩ := isSlipM_16 hs (hw t (by simp))
    obtain ⟨h3, h4⟩ := isSlipM_16 hs (hw u (by simp))
    have hn := isSpaceM_n hs
    rw [cmM, if_pos h, h]
    repeat' (first | simp -implicitDefEqProofs (maxSteps := 1000000) (disch := (first | omega | (simp only [go_sem] <;> omega) | fail)) only [go_sem, ints, bools, mat, reduceIte, Nat.reduceEqDiff, Nat.reduceAdd, Nat.reduceBEq, Nat.reduceMul, Nat.reduceLeDiff, Nat.reduceLT, Nat.reduceMod, Nat.reduceDiv, Nat.reduceSub, reduceCtorEq] | ((first | refine goIf_b (fun h => ?_) (fun h => ?_) | refine goG_b (fun h => ?_) (fun h => ?_) | refine goTG_b (fun h => ?_) (fun h => ?_) | refine goOG_b (fun h => ?_) (fun h => ?_)) <;> ((try simp only [Bool.not_eq_true', Bool.not_eq_false'] at h); (try simp only [h]); (try simp only [decide_eq_true_eq, decide_eq_false_iff_not, bne_iff_ne, bne_eq_false_iff_eq, beq_iff_eq, beq_eq_false_iff_ne, ne_eq, Int.not_lt, Int.not_le, Bool.and_eq_true, Bool.and_eq_false_iff, Bool.or_eq_true, Bool.or_eq_false_iff] at h))))
    first | refine goC_call [.r] (d_slices_Clone_Slip t ht) ?_ | refine goOC_call [.r] (d_slices_Clone_Slip t ht) ?_
    repeat' (first | simp -implicitDefEqProofs (maxSteps := 1000000) (disch := (first | omega | (simp only [go_sem] <;> omega) | fail)) only [go_sem, ints, bools, mat, reduceIte, Nat.reduceEqDiff, Nat.reduceAdd, Nat.reduceBEq, Nat.reduceMul, Nat.reduceLeDiff, Nat.reduceLT, Nat.reduceMod, Nat.reduceDiv, Nat.reduceSub, reduceCtorEq] | ((first | refine goIf_b (fun h => ?_) (fun h => ?_) | refine goG_b (fun h => ?_) (fun h => ?_) | refine goTG_b (fun h => ?_) (fun h => ?_) | refine goOG_b (fun h => ?_) (fun h => ?_)) <;> ((try simp only [Bool.not_eq_true', Bool.not_eq_false'] at h); (try simp only [h]); (try simp only [decide_eq_true_eq, decide_eq_false_iff_not, bne_iff_ne, bne_eq_false_iff_eq, beq_iff_eq, beq_eq_false_iff_ne, ne_eq, Int.not_lt, Int.not_le, Bool.and_eq_true, Bool.and_eq_false_iff, Bool.or_eq_true, Bool.or_eq_false_iff] at h))))
    refine go_loop (fun (j : Nat) => ⟨[(2, .d (ints u)), (9, .sl 0 0 t.length 1), (22, .d (di t.length)), (23, .d (di j))], [some (.dat 1 (((andM t u).take j ++ t.drop j).map di))]⟩) (fun j => j ≤ t.length) (fun j => t.length - j) 0 ?_ ?_ ?_
    · (simp -implicitDefEqProofs (maxSteps := 1000000) (disch := (first | omega | (simp only [go_sem] <;> omega) | fail)) only [go_sem, ints, bools, mat, reduceIte, Nat.reduceEqDiff, Nat.reduceAdd, Nat.reduceBEq, Nat.reduceMul, Nat.reduceLeDiff, Nat.reduceLT, Nat.reduceMod, Nat.reduceDiv, Nat.reduceSub, reduceCtorEq] <;> rfl)
    · simp
    · rintro j hj J hJ
      have hm := fun h => mixS_get (A := andM t u) (t := t) (0 : Int) (j := j) (andM_len t u) h
      have hst := fun h => mixS_step (A := andM t u) (t := t) (0 : Int) (j := j) (andM_len t u) h
      have ha := fun h => andM_get (t := t) u (i := j) h
      have hb1 := h2 j
      have hb2 := h4 j
      have hal := andM_len t u
      by_cases hjt : j < t.length
      · rw [ha hjt, and2] at hst
        have hm := hm hjt
        have hln : ((andM t u).take j ++ t.drop j).length = t.length := by simp [hal]; omega
        generalize hM : (andM t u).take j ++ t.drop j = M at hm hst hln
        rw [← hm] at hb1
        repeat' (first | simp -implicitDefEqProofs (maxSteps := 1000000) (disch := (first | omega | (simp only [go_sem] <;> omega) | fail)) only [go_sem, ints, bools, mat, reduceIte, Nat.reduceEqDiff, Nat.reduceAdd, Nat.reduceBEq, Nat.reduceMul, Nat.reduceLeDiff, Nat.reduceLT, Nat.reduceMod, Nat.reduceDiv, Nat.reduceSub, reduceCtorEq] | ((first | refine goIf_b (fun h => ?_) (fun h => ?_) | refine goG_b (fun h => ?_) (fun h => ?_) | refine goTG_b (fun h => ?_) (fun h => ?_) | refine goOG_b (fun h => ?_) (fun h => ?_)) <;> ((try simp only [Bool.not_eq_true', Bool.not_eq_false'] at h); (try simp only [h]); (try simp only [decide_eq_true_eq, decide_eq_false_iff_not, bne_iff_ne, bne_eq_false_iff_eq, beq_iff_eq, beq_eq_false_iff_ne, ne_eq, Int.not_lt, Int.not_le, Bool.and_eq_true, Bool.and_eq_false_iff, Bool.or_eq_true, Bool.or_eq_false_iff] at h)) <;> (try (exfalso; omega))))
        refine hJ (j + 1) (by omega) (by omega) _ ?_
        simp -implicitDefEqProofs (maxSteps := 1000000) (disch := (first | omega | (simp only [go_sem] <;> omega) | fail)) only [go_sem, ints, bools, mat, reduceIte, Nat.reduceEqDiff, Nat.reduceAdd, Nat.reduceBEq, Nat.reduceMul, Nat.reduceLeDiff, Nat.reduceLT, Nat.reduceMod, Nat.reduceDiv, Nat.reduceSub, reduceCtorEq]
        rw [hm, hst hjt]; rfl
      · have : j = t.length := by omega
        subst this
        repeat' (first | simp -implicitDefEqProofs (maxSteps := 1000000) (disch := (first | omega | (simp only [go_sem] <;> omega) | fail)) only [go_sem, ints, bools, mat, reduceIte, Nat.reduceEqDiff, Nat.reduceAdd, Nat.reduceBEq, Nat.reduceMul, Nat.reduceLeDiff, Nat.reduceLT, Nat.reduceMod, Nat.reduceDiv, Nat.reduceSub, reduceCtorEq] | ((first | refine goIf_b (fun h => ?_) (fun h => ?_) | refine goG_b (fun h => ?_) (fun h => ?_) | refine goTG_b (fun h => ?_) (fun h => ?_) | refine goOG_b (fun h => ?_) (fun h => ?_)) <;> ((try simp only [Bool.not_eq_true', Bool.not_eq_false'] at h); (try simp only [h]); (try simp only [decide_eq_true_eq, decide_eq_false_iff_not, bne_iff_ne, bne_eq_false_iff_eq, beq_iff_eq, beq_eq_false_iff_ne, ne_eq, Int.not_lt, Int.not_le, Bool.and_eq_true, Bool.and_eq_false_iff, Bool.or_eq_true, Bool.or_eq_false_iff] at h)) <;> (try (exfalso; omega))))
        first | refine goC_call [.r, .r] (d_slices_Contains_Slip (andM t u) 0 (by omega)) ?_ | refine goOC_call [.r, .r] (d_slices_Contains_Slip (andM t u) 0 (by omega)) ?_
        repeat' (first | simp -implicitDefEqProofs (maxSteps := 1000000) (disch := (first | omega | (simp only [go_sem] <;> omega) | fail)) only [go_sem, ints, bools, mat, reduceIte, Nat.reduceEqDiff, Nat.reduceAdd, Nat.reduceBEq, Nat.reduceMul, Nat.reduceLeDiff, Nat.reduceLT, Nat.reduceMod, Nat.reduceDiv, Nat.reduceSub, reduceCtorEq] | ((first | refine goIf_b (fun h => ?_) (fun h => ?_) | refine goG_b (fun h => ?_) (fun h => ?_) | refine goTG_b (fun h => ?_) (fun h => ?_) | refine goOG_b (fun h => ?_) (fun h => ?_)) <;> ((try simp only [Bool.not_eq_true', Bool.not_eq_false'] at h); (try simp only [h]); (try simp only [decide_eq_true_eq, decide_eq_false_iff_not, bne_iff_ne, bne_eq_false_iff_eq, beq_iff_eq, beq_eq_false_iff_ne, ne_eq, Int.not_lt, Int.not_le, Bool.and_eq_true, Bool.and_eq_false_iff, Bool.or_eq_true, Bool.or_eq_false_iff] at h))))
        · rw [lstR_no (by decide)]
          repeat' (first | simp -implicitDefEqProofs (maxSteps := 1000000) (disch := (first | omega | (simp only [go_sem] <;> omega) | fail)) only [go_sem, ints, bools, mat, reduceIte, Nat.reduceEqDiff, Nat.reduceAdd, Nat.reduceBEq, Nat.reduceMul, Nat.reduceLeDiff, Nat.reduceLT, Nat.reduceMod, Nat.reduceDiv, Nat.reduceSub, reduceCtorEq] | ((first | refine goIf_b (fun h => ?_) (fun h => ?_) | refine goG_b (fun h => ?_) (fun h => ?_) | refine goTG_b (fun h => ?_) (fun h => ?_) | refine goOG_b (fun h => ?_) (fun h => ?_)) <;> ((try simp only [Bool.not_eq_true', Bool.not_eq_false'] at h); (try simp only [h]); (try simp only [decide_eq_true_eq, decide_eq_false_iff_not, bne_iff_ne, bne_eq_false_iff_eq, beq_iff_eq, beq_eq_false_iff_ne, ne_eq, Int.not_lt, Int.not_le, Bool.and_eq_true, Bool.and_eq_false_iff, Bool.or_eq_true, Bool.or_eq_false_iff] at h))))
        · rw [lstR_ok rfl]
          repeat' (first | simp -implicitDefEqProofs (maxSteps := 1000000) (disch := (first | omega | (simp only [go_sem] <;> omega) | fail)) only [go_sem, ints, bools, mat, reduceIte, Nat.reduceEqDiff, Nat.reduceAdd, Nat.reduceBEq, Nat.reduceMul, Nat.reduceLeDiff, Nat.reduceLT, Nat.reduceMod, Nat.reduceDiv, Nat.reduceSub, reduceCtorEq] | ((first | refine goIf_b (fun h => ?_) (fun h => ?_) | refine goG_b (fun h => ?_) (fun h => ?_) | refine goTG_b (fun h => ?_) (fun h => ?_) | refine goOG_b (fun h => ?_) (fun h => ?_)) <;> ((try simp only [Bool.not_eq_true', Bool.not_eq_false'] at h); (try simp only [h]); (try simp only [decide_eq_true_eq, decide_eq_false_iff_not, bne_iff_ne, bne_eq_false_iff_eq, beq_iff_eq, beq_eq_false_iff_ne, ne_eq, Int.not_lt, Int.not_le, Bool.and_eq_true, Bool.and_eq_false_iff, Bool.or_eq_true, Bool.or_eq_false_iff] at h))))
  · rw [cmM, if_neg h, lstR_no h]
    generalize scM l [t, u] = b at h
    repeat' (first | simp -implicitDefEqProofs (maxSteps := 1000000) (disch := (first | omega | (simp only [go_sem] <;> omega) | fail)) only [go_sem, ints, bools, mat, reduceIte, Nat.reduceEqDiff, Nat.reduceAdd, Nat.reduceBEq, Nat.reduceMul, Nat.reduceLeDiff, Nat.reduceLT, Nat.reduceMod, Nat.reduceDiv, Nat.reduceSub, reduceCtorEq] | ((first | refine goIf_b (fun h => ?_) (fun h => ?_) | refine goG_b (fun h => ?_) (fun h => ?_) | refine goTG_b (fun h => ?_) (fun h => ?_) | refine goOG_b (fun h => ?_) (fun h => ?_)) <;> ((try simp only [Bool.not_eq_true', Bool.not_eq_false'] at h); (try simp only [h]); (try simp only [decide_eq_true_eq, decide_eq_false_iff_not, bne_iff_ne, bne_eq_false_iff_eq, beq_iff_eq, beq_eq_false_iff_ne, ne_eq, Int.not_lt, Int.not_le, Bool.and_eq_true, Bool.and_eq_false_iff, Bool.or_eq_true, Bool.or_eq_false_iff] at h))))
    all_goals (exfalso; omega)
theorem d_spec_SlipsInCommon (l t u : List Int) (hl : l.length < 1048577) (ht : t.length < 1048577) (hu : u.length < 1048577) : Den PA f_spec_SlipsInCommon [.d (.agg [ints l]), .d (ints t), .d (ints u)] [.any, .any, .any] (lstR (cmM l t u) (andM t u)) := by
  refine den_go [] l_spec_SlipsInCommon ?_
  repeat' (first | simp -implicitDefEqProofs (maxSteps := 1000000) (disch := (first | omega | (simp only [go_sem] <;> omega) | fail)) only [go_sem, ints, bools, mat, reduceIte, Nat.reduceEqDiff, Nat.reduceAdd, Nat.reduceBEq, Nat.reduceMul, Nat.reduceLeDiff, Nat.reduceLT, Nat.reduceMod, Nat.reduceDiv, Nat.reduceSub, reduceCtorEq, c_spec_SlipsInCommon] | ((first | refine goIf_b (fun h => ?_) (fun h => ?_) | refine goG_b (fun h => ?_) (fun h => ?_) | refine goTG_b (fun h => ?_) (fun h => ?_) | refine goOG_b (fun h => ?_) (fun h => ?_)) <;> ((try simp only [Bool.not_eq_true', Bool.not_eq_false'] at h); (try simp only [h]); (try simp only [decide_eq_true_eq, decide_eq_false_iff_not, bne_iff_ne, bne_eq_false_iff_eq, beq_iff_eq, beq_eq_false_iff_ne, ne_eq, Int.not_lt, Int.not_le, Bool.and_eq_true, Bool.and_eq_false_iff, Bool.or_eq_true, Bool.or_eq_false_iff] at h))))
  first | refine goC_call [.r, .r] (d_spec_l07Code l hl [t, u] (by simp) (two_len ht hu)) ?_ | refine goOC_call [.r, .r] (d_spec_l07Code l hl [t, u] (by simp) (two_len ht hu)) ?_
  by_cases h : scM l [t, u] = 0
  · obtain ⟨hs, hw⟩ := scM_ok h
    obtain ⟨h1, h2⟩ := isSlipM_16 hs (hw t (by simp))
    obtain ⟨h3, h4⟩ := isSlipM_16 hs (hw u (by simp))
    have hn := isSpaceM_n hs
    rw [cmM, if_pos h, h]
    repeat' (first | simp -implicitDefEqProofs (maxSteps := 1000000) (disch := (first | omega | (simp only [go_sem] <;> omega) | fail)) only [go_sem, ints, bools, mat, reduceIte, Nat.reduceEqDiff, Nat.reduceAdd, Nat.reduceBEq, Nat.reduceMul, Nat.reduceLeDiff, Nat.reduceLT, Nat.reduceMod, Nat.reduceDiv, Nat.reduceSub, reduceCtorEq] | ((first | refine goIf_b (fun h => ?_) (fun h => ?_) | refine goG_b (fun h => ?_) (fun h => ?_) | refine goTG_b (fun h => ?_) (fun h => ?_) | refine goOG_b (fun h => ?_) (fun h => ?_)) <;> ((try simp only [Bool.not_eq_true', Bool.not_eq_false'] at h); (try simp only [h]); (try simp only [decide_eq_true_eq, decide_eq_false_iff_not, bne_iff_ne, bne_eq_false_iff_eq, beq_iff_eq, beq_eq_false_iff_ne, ne_eq, Int.not_lt, Int.not_le, Bool.and_eq_true, Bool.and_eq_false_iff, Bool.or_eq_true, Bool.or_eq_false_iff] at h))))
    refine go_loop (fun (j : Nat) => ⟨[(1, .d (ints t)), (2, .d (ints u)), (3, .ref 0 0), (9, .sl 1 0 j 1), (21, .d (di t.length)), (22, .d (di j))], [some (.var [ints l]), some (.dat 1 (((andM t u).take j).map di))]⟩) (fun j => j ≤ t.length) (fun j => t.length - j) 0 ?_ ?_ ?_
    · (simp -implicitDefEqProofs (maxSteps := 1000000) (disch := (first | omega | (simp only [go_sem] <;> omega) | fail)) only [go_sem, ints, bools, mat, reduceIte, Nat.reduceEqDiff, Nat.reduceAdd, Nat.reduceBEq, Nat.reduceMul, Nat.reduceLeDiff, Nat.reduceLT, Nat.reduceMod, Nat.reduceDiv, Nat.reduceSub, reduceCtorEq] <;> rfl)
    · simp
    · rintro j hj J hJ
      have ha := fun h => andM_get (t := t) u (i := j) h
      have hb1 := h2 j
      have hb2 := h4 j
      have hal := andM_len t u
      have hln : ((andM t u).take j).length = j := by simp [hal]; omega
      repeat' (first | simp -implicitDefEqProofs (maxSteps := 1000000) (disch := (first | omega | (simp only [go_sem] <;> omega) | fail)) only [go_sem, ints, bools, mat, reduceIte, Nat.reduceEqDiff, Nat.reduceAdd, Nat.reduceBEq, Nat.reduceMul, Nat.reduceLeDiff, Nat.reduceLT, Nat.reduceMod, Nat.reduceDiv, Nat.reduceSub, reduceCtorEq] | ((first | refine goIf_b (fun h => ?_) (fun h => ?_) | refine goG_b (fun h => ?_) (fun h => ?_) | refine goTG_b (fun h => ?_) (fun h => ?_) | refine goOG_b (fun h => ?_) (fun h => ?_)) <;> ((try simp only [Bool.not_eq_true', Bool.not_eq_false'] at h); (try simp only [h]); (try simp only [decide_eq_true_eq, decide_eq_false_iff_not, bne_iff_ne, bne_eq_false_iff_eq, beq_iff_eq, beq_eq_false_iff_ne, ne_eq, Int.not_lt, Int.not_le, Bool.and_eq_true, Bool.and_eq_false_iff, Bool.or_eq_true, Bool.or_eq_false_iff] at h))))
      · refine hJ (j + 1) (by omega) (by omega) _ ?_
        simp -implicitDefEqProofs (maxSteps := 1000000) (disch := (first | omega | (simp only [go_sem] <;> omega) | fail)) only [go_sem, ints, bools, mat, reduceIte, Nat.reduceEqDiff, Nat.reduceAdd, Nat.reduceBEq, Nat.reduceMul, Nat.reduceLeDiff, Nat.reduceLT, Nat.reduceMod, Nat.reduceDiv, Nat.reduceSub, reduceCtorEq]
        rw [take_one (andM t u) (by omega), ha (by omega), and2]; rfl
      · have : j = t.length := by omega
        subst this
        first | refine goC_call [.r, .r] (d_spec_l07Is l (andM t u) (by omega) (isSpaceM_q hs)) ?_ | refine goOC_call [.r, .r] (d_spec_l07Is l (andM t u) (by omega) (isSpaceM_q hs)) ?_
        rw [and_slip hs (hw t (by simp))]
        repeat' (first | simp -implicitDefEqProofs (maxSteps := 1000000) (disch := (first | omega | (simp only [go_sem] <;> omega) | fail)) only [go_sem, ints, bools, mat, reduceIte, Nat.reduceEqDiff, Nat.reduceAdd, Nat.reduceBEq, Nat.reduceMul, Nat.reduceLeDiff, Nat.reduceLT, Nat.reduceMod, Nat.reduceDiv, Nat.reduceSub, reduceCtorEq] | ((first | refine goIf_b (fun h => ?_) (fun h => ?_) | refine goG_b (fun h => ?_) (fun h => ?_) | refine goTG_b (fun h => ?_) (fun h => ?_) | refine goOG_b (fun h => ?_) (fun h => ?_)) <;> ((try simp only [Bool.not_eq_true', Bool.not_eq_false'] at h); (try simp only [h]); (try simp only [decide_eq_true_eq, decide_eq_false_iff_not, bne_iff_ne, bne_eq_false_iff_eq, beq_iff_eq, beq_eq_false_iff_ne, ne_eq, Int.not_lt, Int.not_le, Bool.and_eq_true, Bool.and_eq_false_iff, Bool.or_eq_true, Bool.or_eq_false_iff] at h))))
        · rw [lstR_no (by decide)]
          repeat' (first | simp -implicitDefEqProofs (maxSteps := 1000000) (disch := (first | omega | (simp only [go_sem] <;> omega) | fail)) only [go_sem, ints, bools, mat, reduceIte, Nat.reduceEqDiff, Nat.reduceAdd, Nat.reduceBEq, Nat.reduceMul, Nat.reduceLeDiff, Nat.reduceLT, Nat.reduceMod, Nat.reduceDiv, Nat.reduceSub, reduceCtorEq] | ((first | refine goIf_b (fun h => ?_) (fun h => ?_) | refine goG_b (fun h => ?_) (fun h => ?_) | refine goTG_b (fun h => ?_) (fun h => ?_) | refine goOG_b (fun h => ?_) (fun h => ?_)) <;> ((try simp only [Bool.not_eq_true', Bool.not_eq_false'] at h); (try simp only [h]); (try simp only [decide_eq_true_eq, decide_eq_false_iff_not, bne_iff_ne, bne_eq_false_iff_eq, beq_iff_eq, beq_eq_false_iff_ne, ne_eq, Int.not_lt, Int.not_le, Bool.and_eq_true, Bool.and_eq_false_iff, Bool.or_eq_true, Bool.or_eq_false_iff] at h))))
        · rw [lstR_ok rfl]
          repeat' (first | simp -implicitDefEqProofs (maxSteps := 1000000) (disch := (first | omega | (simp only [go_sem] <;> omega) | fail)) only [go_sem, ints, bools, mat, reduceIte, Nat.reduceEqDiff, Nat.reduceAdd, Nat.reduceBEq, Nat.reduceMul, Nat.reduceLeDiff, Nat.reduceLT, Nat.reduceMod, Nat.reduceDiv, Nat.reduceSub, reduceCtorEq] | ((first | refine goIf_b (fun h => ?_) (fun h => ?_) | refine goG_b (fun h => ?_) (fun h => ?_) | refine goTG_b (fun h => ?_) (fun h => ?_) | refine goOG_b (fun h => ?_) (fun h => ?_)) <;> ((try simp only [Bool.not_eq_true', Bool.not_eq_false'] at h); (try simp only [h]); (try simp only [decide_eq_true_eq, decide_eq_false_iff_not, bne_iff_ne, bne_eq_false_iff_eq, beq_iff_eq, beq_eq_false_iff_ne, ne_eq, Int.not_lt, Int.not_le, Bool.and_eq_true, Bool.and_eq_false_iff, Bool.or_eq_true, Bool.or_eq_false_iff] at h))))
  · rw [cmM, if_neg h, lstR_no h]
    generalize scM l [t, u] = b at h
    repeat' (first | simp -implicitDefEqProofs (maxSteps := 1000000) (disch := (first | omega | (simp only [go_sem] <;> omega) | fail)) only [go_sem, ints, bools, mat, reduceIte, Nat.reduceEqDiff, Nat.reduceAdd, Nat.reduceBEq, Nat.reduceMul, Nat.reduceLeDiff, Nat.reduceLT, Nat.reduceMod, Nat.reduceDiv, Nat.reduceSub, reduceCtorEq] | ((first | refine goIf_b (fun h => ?_) (fun h => ?_) | refine goG_b (fun h => ?_) (fun h => ?_) | refine goTG_b (fun h => ?_) (fun h => ?_) | refine goOG_b (fun h => ?_) (fun h => ?_)) <;> ((try simp only [Bool.not_eq_true', Bool.not_eq_false'] at h); (try simp only [h]); (try simp only [decide_eq_true_eq, decide_eq_false_iff_not, bne_iff_ne, bne_eq_false_iff_eq, beq_iff_eq, beq_eq_false_iff_ne, ne_eq, Int.not_lt, Int.not_le, Bool.and_eq_true, Bool.and_eq_false_iff, Bool.or_eq_true, Bool.or_eq_false_iff] at h))))
    all_goals (exfalso; omega)
/-- A sum of products. -/
def sN (a b : List Int) : Nat → Int
  | 0 => 0
  | j + 1 => sN a b j + a.getD j 0 * b.getD j 0
def synM (l c : List Int) (w : Int) : List Int := c.map fun u => sN (digM l w) (digM l u) l.length % l.getD 0 0
@[go_sem] theorem synM_len (l c : List Int) (w : Int) : (synM l c w).length = c.length := by simp [synM]
theorem d_laws_FnExactSlipsInCommon (x0 : D) (l0 : List Int) (hx0 : IsInts x0 l0) (hl0 : l0.length ≤ maxLen) (hi0 : ∀ n, n ∈ l0 → in64 n) (x1 : D) (l1 : List Int) (hx1 : IsInts x1 l1) (hl1 : l1.length ≤ maxLen) (hi1 : ∀ n, n ∈ l1 → in64 n) (x2 : D) (l2 : List Int) (hx2 : IsInts x2 l2) (hl2 : l2.length ≤ maxLen) (hi2 : ∀ n, n ∈ l2 → in64 n) :
    Den PA f_laws_FnExactSlipsInCommon [.d (.agg [x0]), .d x1, .d x2] [.any, .any, .any] (.d (db true)) := by
  have ly1 := lenA_is hx1
  have ly2 := lenA_is hx2
  refine den_go [] l_laws_FnExactSlipsInCommon ?_
  repeat' (first | simp -implicitDefEqProofs (maxSteps := 1000000) (disch := (first | omega | (simp only [go_sem] <;> omega) | fail)) only [go_sem, ints, bools, mat, reduceIte, Nat.reduceEqDiff, Nat.reduceAdd, Nat.reduceBEq, Nat.reduceMul, Nat.reduceLeDiff, Nat.reduceLT, Nat.reduceMod, Nat.reduceDiv, Nat.reduceSub, reduceCtorEq, c_laws_FnExactSlipsInCommon, ly1, ly2] | ((first | refine goIf_b (fun h => ?_) (fun h => ?_) | refine goG_b (fun h => ?_) (fun h => ?_) | refine goTG_b (fun h => ?_) (fun h => ?_) | refine goOG_b (fun h => ?_) (fun h => ?_)) <;> ((try simp only [Bool.not_eq_true', Bool.not_eq_false'] at h); (try simp only [h]); (try simp only [decide_eq_true_eq, decide_eq_false_iff_not, bne_iff_ne, bne_eq_false_iff_eq, beq_iff_eq, beq_eq_false_iff_ne, ne_eq, Int.not_lt, Int.not_le, Bool.and_eq_true, Bool.and_eq_false_iff, Bool.or_eq_true, Bool.or_eq_false_iff] at h))))
  first | refine goC_call [.r, .r] (d_laws_szSpace x0 l0 hx0 1048576 hl0 (by omega) (by omega)) ?_ | refine goOC_call [.r, .r] (d_laws_szSpace x0 l0 hx0 1048576 hl0 (by omega) (by omega)) ?_
  repeat' (first | simp -implicitDefEqProofs (maxSteps := 1000000) (disch := (first | omega | (simp only [go_sem] <;> omega) | fail)) only [go_sem, ints, bools, mat, reduceIte, Nat.reduceEqDiff, Nat.reduceAdd, Nat.reduceBEq, Nat.reduceMul, Nat.reduceLeDiff, Nat.reduceLT, Nat.reduceMod, Nat.reduceDiv, Nat.reduceSub, reduceCtorEq] | ((first | refine goIf_b (fun h => ?_) (fun h => ?_) | refine goG_b (fun h => ?_) (fun h => ?_) | refine goTG_b (fun h => ?_) (fun h => ?_) | refine goOG_b (fun h => ?_) (fun h => ?_)) <;> ((try simp only [Bool.not_eq_true', Bool.not_eq_false'] at h); (try simp only [h]); (try simp only [decide_eq_true_eq, decide_eq_false_iff_not, bne_iff_ne, bne_eq_false_iff_eq, beq_iff_eq, beq_eq_false_iff_ne, ne_eq, Int.not_lt, Int.not_le, Bool.and_eq_true, Bool.and_eq_false_iff, Bool.or_eq_true, Bool.or_eq_false_iff] at h))))
  have hz0 := sz_ok h
  have hsp := d_spec_SlipsInCommon l0 l1 l2 (by omega) (by omega) (by omega)
  have him := d_impl_SlipsInCommon l0 l1 l2 (by omega) (by omega) (by omega)
  by_cases hb : cmM l0 l1 l2 = 0
  · rw [lstR_ok hb] at hsp him
    have hv : (andM l1 l2).length = l1.length := andM_len _ _
    repeat' (first | simp -implicitDefEqProofs (maxSteps := 1000000) (disch := (first | omega | (simp only [go_sem] <;> omega) | fail)) only [go_sem, ints, bools, mat, reduceIte, Nat.reduceEqDiff, Nat.reduceAdd, Nat.reduceBEq, Nat.reduceMul, Nat.reduceLeDiff, Nat.reduceLT, Nat.reduceMod, Nat.reduceDiv, Nat.reduceSub, reduceCtorEq] | ((first | refine goIf_b (fun h => ?_) (fun h => ?_) | refine goG_b (fun h => ?_) (fun h => ?_) | refine goTG_b (fun h => ?_) (fun h => ?_) | refine goOG_b (fun h => ?_) (fun h => ?_)) <;> ((try simp only [Bool.not_eq_true', Bool.not_eq_false'] at h); (try simp only [h]); (try simp only [decide_eq_true_eq, decide_eq_false_iff_not, bne_iff_ne, bne_eq_false_iff_eq, beq_iff_eq, beq_eq_false_iff_ne, ne_eq, Int.not_lt, Int.not_le, Bool.and_eq_true, Bool.and_eq_false_iff, Bool.or_eq_true, Bool.or_eq_false_iff] at h)) <;> (try (exfalso; omega))) | ((first | refine goC_call [.r] (d_laws_toSpace x0 l0 hx0 (by omega)) ?_ | refine goOC_call [.r] (d_laws_toSpace x0 l0 hx0 (by omega)) ?_); simp -implicitDefEqProofs (maxSteps := 1000000) (disch := (first | omega | (simp only [go_sem] <;> omega) | fail)) only [go_sem, ints, bools, mat, reduceIte, Nat.reduceEqDiff, Nat.reduceAdd, Nat.reduceBEq, Nat.reduceMul, Nat.reduceLeDiff, Nat.reduceLT, Nat.reduceMod, Nat.reduceDiv, Nat.reduceSub, reduceCtorEq]; fail_if_success (with_reducible show chk _ _)) | ((first | refine goC_call [.r, .r] (d_laws_eqSpace l0 l0 (by omega)) ?_ | refine goOC_call [.r, .r] (d_laws_eqSpace l0 l0 (by omega)) ?_); simp -implicitDefEqProofs (maxSteps := 1000000) (disch := (first | omega | (simp only [go_sem] <;> omega) | fail)) only [go_sem, ints, bools, mat, reduceIte, Nat.reduceEqDiff, Nat.reduceAdd, Nat.reduceBEq, Nat.reduceMul, Nat.reduceLeDiff, Nat.reduceLT, Nat.reduceMod, Nat.reduceDiv, Nat.reduceSub, reduceCtorEq]; fail_if_success (with_reducible show chk _ _)) | ((first | refine goC_call [.r] (d_laws_toSlip x1 l1 hx1 (by omega)) ?_ | refine goOC_call [.r] (d_laws_toSlip x1 l1 hx1 (by omega)) ?_); simp -implicitDefEqProofs (maxSteps := 1000000) (disch := (first | omega | (simp only [go_sem] <;> omega) | fail)) only [go_sem, ints, bools, mat, reduceIte, Nat.reduceEqDiff, Nat.reduceAdd, Nat.reduceBEq, Nat.reduceMul, Nat.reduceLeDiff, Nat.reduceLT, Nat.reduceMod, Nat.reduceDiv, Nat.reduceSub, reduceCtorEq]; fail_if_success (with_reducible show chk _ _)) | ((first | refine goC_call [.r, .r] (d_laws_eqSlip l1 l1 (by omega)) ?_ | refine goOC_call [.r, .r] (d_laws_eqSlip l1 l1 (by omega)) ?_); simp -implicitDefEqProofs (maxSteps := 1000000) (disch := (first | omega | (simp only [go_sem] <;> omega) | fail)) only [go_sem, ints, bools, mat, reduceIte, Nat.reduceEqDiff, Nat.reduceAdd, Nat.reduceBEq, Nat.reduceMul, Nat.reduceLeDiff, Nat.reduceLT, Nat.reduceMod, Nat.reduceDiv, Nat.reduceSub, reduceCtorEq]; fail_if_success (with_reducible show chk _ _)) | ((first | refine goC_call [.r] (d_laws_toSlip x2 l2 hx2 (by omega)) ?_ | refine goOC_call [.r] (d_laws_toSlip x2 l2 hx2 (by omega)) ?_); simp -implicitDefEqProofs (maxSteps := 1000000) (disch := (first | omega | (simp only [go_sem] <;> omega) | fail)) only [go_sem, ints, bools, mat, reduceIte, Nat.reduceEqDiff, Nat.reduceAdd, Nat.reduceBEq, Nat.reduceMul, Nat.reduceLeDiff, Nat.reduceLT, Nat.reduceMod, Nat.reduceDiv, Nat.reduceSub, reduceCtorEq]; fail_if_success (with_reducible show chk _ _)) | ((first | refine goC_call [.r, .r] (d_laws_eqSlip l2 l2 (by omega)) ?_ | refine goOC_call [.r, .r] (d_laws_eqSlip l2 l2 (by omega)) ?_); simp -implicitDefEqProofs (maxSteps := 1000000) (disch := (first | omega | (simp only [go_sem] <;> omega) | fail)) only [go_sem, ints, bools, mat, reduceIte, Nat.reduceEqDiff, Nat.reduceAdd, Nat.reduceBEq, Nat.reduceMul, Nat.reduceLeDiff, Nat.reduceLT, Nat.reduceMod, Nat.reduceDiv, Nat.reduceSub, reduceCtorEq]; fail_if_success (with_reducible show chk _ _)) | ((first | refine goC_call [.r, .r, .r] (hsp) ?_ | refine goOC_call [.r, .r, .r] (hsp) ?_); simp -implicitDefEqProofs (maxSteps := 1000000) (disch := (first | omega | (simp only [go_sem] <;> omega) | fail)) only [go_sem, ints, bools, mat, reduceIte, Nat.reduceEqDiff, Nat.reduceAdd, Nat.reduceBEq, Nat.reduceMul, Nat.reduceLeDiff, Nat.reduceLT, Nat.reduceMod, Nat.reduceDiv, Nat.reduceSub, reduceCtorEq]; fail_if_success (with_reducible show chk _ _)) | ((first | refine goC_call [.r, .r, .r] (him) ?_ | refine goOC_call [.r, .r, .r] (him) ?_); simp -implicitDefEqProofs (maxSteps := 1000000) (disch := (first | omega | (simp only [go_sem] <;> omega) | fail)) only [go_sem, ints, bools, mat, reduceIte, Nat.reduceEqDiff, Nat.reduceAdd, Nat.reduceBEq, Nat.reduceMul, Nat.reduceLeDiff, Nat.reduceLT, Nat.reduceMod, Nat.reduceDiv, Nat.reduceSub, reduceCtorEq]; fail_if_success (with_reducible show chk _ _)) | ((first | refine goC_call [.r, .r] (d_laws_eqSlip (andM l1 l2) (andM l1 l2) (by omega)) ?_ | refine goOC_call [.r, .r] (d_laws_eqSlip (andM l1 l2) (andM l1 l2) (by omega)) ?_); simp -implicitDefEqProofs (maxSteps := 1000000) (disch := (first | omega | (simp only [go_sem] <;> omega) | fail)) only [go_sem, ints, bools, mat, reduceIte, Nat.reduceEqDiff, Nat.reduceAdd, Nat.reduceBEq, Nat.reduceMul, Nat.reduceLeDiff, Nat.reduceLT, Nat.reduceMod, Nat.reduceDiv, Nat.reduceSub, reduceCtorEq]; fail_if_success (with_reducible show chk _ _)) | ((first | refine goC_call [.a [.o], .r] (d_laws_markSpace l0 (1) (by omega) (by omega) (by omega)) ?_ | refine goOC_call [.a [.o], .r] (d_laws_markSpace l0 (1) (by omega) (by omega) (by omega)) ?_); simp -implicitDefEqProofs (maxSteps := 1000000) (disch := (first | omega | (simp only [go_sem] <;> omega) | fail)) only [go_sem, ints, bools, mat, reduceIte, Nat.reduceEqDiff, Nat.reduceAdd, Nat.reduceBEq, Nat.reduceMul, Nat.reduceLeDiff, Nat.reduceLT, Nat.reduceMod, Nat.reduceDiv, Nat.reduceSub, reduceCtorEq]; fail_if_success (with_reducible show chk _ _)) | ((first | refine goC_call [.o, .r] (d_laws_markSlip l1 (1 + l0.length) (by omega) (by omega) (by omega)) ?_ | refine goOC_call [.o, .r] (d_laws_markSlip l1 (1 + l0.length) (by omega) (by omega) (by omega)) ?_); simp -implicitDefEqProofs (maxSteps := 1000000) (disch := (first | omega | (simp only [go_sem] <;> omega) | fail)) only [go_sem, ints, bools, mat, reduceIte, Nat.reduceEqDiff, Nat.reduceAdd, Nat.reduceBEq, Nat.reduceMul, Nat.reduceLeDiff, Nat.reduceLT, Nat.reduceMod, Nat.reduceDiv, Nat.reduceSub, reduceCtorEq]; fail_if_success (with_reducible show chk _ _)) | ((first | refine goC_call [.o, .r] (d_laws_markSlip l2 (1 + l0.length + l1.length) (by omega) (by omega) (by omega)) ?_ | refine goOC_call [.o, .r] (d_laws_markSlip l2 (1 + l0.length + l1.length) (by omega) (by omega) (by omega)) ?_); simp -implicitDefEqProofs (maxSteps := 1000000) (disch := (first | omega | (simp only [go_sem] <;> omega) | fail)) only [go_sem, ints, bools, mat, reduceIte, Nat.reduceEqDiff, Nat.reduceAdd, Nat.reduceBEq, Nat.reduceMul, Nat.reduceLeDiff, Nat.reduceLT, Nat.reduceMod, Nat.reduceDiv, Nat.reduceSub, reduceCtorEq]; fail_if_success (with_reducible show chk _ _)) | ((first | refine goC_call [.o, .r] (d_laws_markSlip (andM l1 l2) 1 (by omega) (by omega) (by omega)) ?_ | refine goOC_call [.o, .r] (d_laws_markSlip (andM l1 l2) 1 (by omega) (by omega) (by omega)) ?_); simp -implicitDefEqProofs (maxSteps := 1000000) (disch := (first | omega | (simp only [go_sem] <;> omega) | fail)) only [go_sem, ints, bools, mat, reduceIte, Nat.reduceEqDiff, Nat.reduceAdd, Nat.reduceBEq, Nat.reduceMul, Nat.reduceLeDiff, Nat.reduceLT, Nat.reduceMod, Nat.reduceDiv, Nat.reduceSub, reduceCtorEq]; fail_if_success (with_reducible show chk _ _)) | ((first | refine goC_call [.r, .r] (d_laws_heldSlip (andM l1 l2).length 1 (by omega) (by omega) (by omega)) ?_ | refine goOC_call [.r, .r] (d_laws_heldSlip (andM l1 l2).length 1 (by omega) (by omega) (by omega)) ?_); simp -implicitDefEqProofs (maxSteps := 1000000) (disch := (first | omega | (simp only [go_sem] <;> omega) | fail)) only [go_sem, ints, bools, mat, reduceIte, Nat.reduceEqDiff, Nat.reduceAdd, Nat.reduceBEq, Nat.reduceMul, Nat.reduceLeDiff, Nat.reduceLT, Nat.reduceMod, Nat.reduceDiv, Nat.reduceSub, reduceCtorEq]; fail_if_success (with_reducible show chk _ _)))
  · rw [lstR_no hb] at hsp him
    generalize cmM l0 l1 l2 = bb at hsp him hb
    repeat' (first | simp -implicitDefEqProofs (maxSteps := 1000000) (disch := (first | omega | (simp only [go_sem] <;> omega) | fail)) only [go_sem, ints, bools, mat, reduceIte, Nat.reduceEqDiff, Nat.reduceAdd, Nat.reduceBEq, Nat.reduceMul, Nat.reduceLeDiff, Nat.reduceLT, Nat.reduceMod, Nat.reduceDiv, Nat.reduceSub, reduceCtorEq] | ((first | refine goIf_b (fun h => ?_) (fun h => ?_) | refine goG_b (fun h => ?_) (fun h => ?_) | refine goTG_b (fun h => ?_) (fun h => ?_) | refine goOG_b (fun h => ?_) (fun h => ?_)) <;> ((try simp only [Bool.not_eq_true', Bool.not_eq_false'] at h); (try simp only [h]); (try simp only [decide_eq_true_eq, decide_eq_false_iff_not, bne_iff_ne, bne_eq_false_iff_eq, beq_iff_eq, beq_eq_false_iff_ne, ne_eq, Int.not_lt, Int.not_le, Bool.and_eq_true, Bool.and_eq_false_iff, Bool.or_eq_true, Bool.or_eq_false_iff] at h)) <;> (try (exfalso; omega))) | ((first | refine goC_call [.r] (d_laws_toSpace x0 l0 hx0 (by omega)) ?_ | refine goOC_call [.r] (d_laws_toSpace x0 l0 hx0 (by omega)) ?_); simp -implicitDefEqProofs (maxSteps := 1000000) (disch := (first | omega | (simp only [go_sem] <;> omega) | fail)) only [go_sem, ints, bools, mat, reduceIte, Nat.reduceEqDiff, Nat.reduceAdd, Nat.reduceBEq, Nat.reduceMul, Nat.reduceLeDiff, Nat.reduceLT, Nat.reduceMod, Nat.reduceDiv, Nat.reduceSub, reduceCtorEq]; fail_if_success (with_reducible show chk _ _)) | ((first | refine goC_call [.r, .r] (d_laws_eqSpace l0 l0 (by omega)) ?_ | refine goOC_call [.r, .r] (d_laws_eqSpace l0 l0 (by omega)) ?_); simp -implicitDefEqProofs (maxSteps := 1000000) (disch := (first | omega | (simp only [go_sem] <;> omega) | fail)) only [go_sem, ints, bools, mat, reduceIte, Nat.reduceEqDiff, Nat.reduceAdd, Nat.reduceBEq, Nat.reduceMul, Nat.reduceLeDiff, Nat.reduceLT, Nat.reduceMod, Nat.reduceDiv, Nat.reduceSub, reduceCtorEq]; fail_if_success (with_reducible show chk _ _)) | ((first | refine goC_call [.r] (d_laws_toSlip x1 l1 hx1 (by omega)) ?_ | refine goOC_call [.r] (d_laws_toSlip x1 l1 hx1 (by omega)) ?_); simp -implicitDefEqProofs (maxSteps := 1000000) (disch := (first | omega | (simp only [go_sem] <;> omega) | fail)) only [go_sem, ints, bools, mat, reduceIte, Nat.reduceEqDiff, Nat.reduceAdd, Nat.reduceBEq, Nat.reduceMul, Nat.reduceLeDiff, Nat.reduceLT, Nat.reduceMod, Nat.reduceDiv, Nat.reduceSub, reduceCtorEq]; fail_if_success (with_reducible show chk _ _)) | ((first | refine goC_call [.r, .r] (d_laws_eqSlip l1 l1 (by omega)) ?_ | refine goOC_call [.r, .r] (d_laws_eqSlip l1 l1 (by omega)) ?_); simp -implicitDefEqProofs (maxSteps := 1000000) (disch := (first | omega | (simp only [go_sem] <;> omega) | fail)) only [go_sem, ints, bools, mat, reduceIte, Nat.reduceEqDiff, Nat.reduceAdd, Nat.reduceBEq, Nat.reduceMul, Nat.reduceLeDiff, Nat.reduceLT, Nat.reduceMod, Nat.reduceDiv, Nat.reduceSub, reduceCtorEq]; fail_if_success (with_reducible show chk _ _)) | ((first | refine goC_call [.r] (d_laws_toSlip x2 l2 hx2 (by omega)) ?_ | refine goOC_call [.r] (d_laws_toSlip x2 l2 hx2 (by omega)) ?_); simp -implicitDefEqProofs (maxSteps := 1000000) (disch := (first | omega | (simp only [go_sem] <;> omega) | fail)) only [go_sem, ints, bools, mat, reduceIte, Nat.reduceEqDiff, Nat.reduceAdd, Nat.reduceBEq, Nat.reduceMul, Nat.reduceLeDiff, Nat.reduceLT, Nat.reduceMod, Nat.reduceDiv, Nat.reduceSub, reduceCtorEq]; fail_if_success (with_reducible show chk _ _)) | ((first | refine goC_call [.r, .r] (d_laws_eqSlip l2 l2 (by omega)) ?_ | refine goOC_call [.r, .r] (d_laws_eqSlip l2 l2 (by omega)) ?_); simp -implicitDefEqProofs (maxSteps := 1000000) (disch := (first | omega | (simp only [go_sem] <;> omega) | fail)) only [go_sem, ints, bools, mat, reduceIte, Nat.reduceEqDiff, Nat.reduceAdd, Nat.reduceBEq, Nat.reduceMul, Nat.reduceLeDiff, Nat.reduceLT, Nat.reduceMod, Nat.reduceDiv, Nat.reduceSub, reduceCtorEq]; fail_if_success (with_reducible show chk _ _)) | ((first | refine goC_call [.r, .r, .r] (hsp) ?_ | refine goOC_call [.r, .r, .r] (hsp) ?_); simp -implicitDefEqProofs (maxSteps := 1000000) (disch := (first | omega | (simp only [go_sem] <;> omega) | fail)) only [go_sem, ints, bools, mat, reduceIte, Nat.reduceEqDiff, Nat.reduceAdd, Nat.reduceBEq, Nat.reduceMul, Nat.reduceLeDiff, Nat.reduceLT, Nat.reduceMod, Nat.reduceDiv, Nat.reduceSub, reduceCtorEq]; fail_if_success (with_reducible show chk _ _)) | ((first | refine goC_call [.r, .r, .r] (him) ?_ | refine goOC_call [.r, .r, .r] (him) ?_); simp -implicitDefEqProofs (maxSteps := 1000000) (disch := (first | omega | (simp only [go_sem] <;> omega) | fail)) only [go_sem, ints, bools, mat, reduceIte, Nat.reduceEqDiff, Nat.reduceAdd, Nat.reduceBEq, Nat.reduceMul, Nat.reduceLeDiff, Nat.reduceLT, Nat.reduceMod, Nat.reduceDiv, Nat.reduceSub, reduceCtorEq]; fail_if_success (with_reducible show chk _ _)) | ((first | refine goC_call [.r, .r] (d_laws_eqSlip_nil) ?_ | refine goOC_call [.r, .r] (d_laws_eqSlip_nil) ?_); simp -implicitDefEqProofs (maxSteps := 1000000) (disch := (first | omega | (simp only [go_sem] <;> omega) | fail)) only [go_sem, ints, bools, mat, reduceIte, Nat.reduceEqDiff, Nat.reduceAdd, Nat.reduceBEq, Nat.reduceMul, Nat.reduceLeDiff, Nat.reduceLT, Nat.reduceMod, Nat.reduceDiv, Nat.reduceSub, reduceCtorEq]; fail_if_success (with_reducible show chk _ _)) | ((first | refine goC_call [.a [.o], .r] (d_laws_markSpace l0 (1) (by omega) (by omega) (by omega)) ?_ | refine goOC_call [.a [.o], .r] (d_laws_markSpace l0 (1) (by omega) (by omega) (by omega)) ?_); simp -implicitDefEqProofs (maxSteps := 1000000) (disch := (first | omega | (simp only [go_sem] <;> omega) | fail)) only [go_sem, ints, bools, mat, reduceIte, Nat.reduceEqDiff, Nat.reduceAdd, Nat.reduceBEq, Nat.reduceMul, Nat.reduceLeDiff, Nat.reduceLT, Nat.reduceMod, Nat.reduceDiv, Nat.reduceSub, reduceCtorEq]; fail_if_success (with_reducible show chk _ _)) | ((first | refine goC_call [.o, .r] (d_laws_markSlip l1 (1 + l0.length) (by omega) (by omega) (by omega)) ?_ | refine goOC_call [.o, .r] (d_laws_markSlip l1 (1 + l0.length) (by omega) (by omega) (by omega)) ?_); simp -implicitDefEqProofs (maxSteps := 1000000) (disch := (first | omega | (simp only [go_sem] <;> omega) | fail)) only [go_sem, ints, bools, mat, reduceIte, Nat.reduceEqDiff, Nat.reduceAdd, Nat.reduceBEq, Nat.reduceMul, Nat.reduceLeDiff, Nat.reduceLT, Nat.reduceMod, Nat.reduceDiv, Nat.reduceSub, reduceCtorEq]; fail_if_success (with_reducible show chk _ _)) | ((first | refine goC_call [.o, .r] (d_laws_markSlip l2 (1 + l0.length + l1.length) (by omega) (by omega) (by omega)) ?_ | refine goOC_call [.o, .r] (d_laws_markSlip l2 (1 + l0.length + l1.length) (by omega) (by omega) (by omega)) ?_); simp -implicitDefEqProofs (maxSteps := 1000000) (disch := (first | omega | (simp only [go_sem] <;> omega) | fail)) only [go_sem, ints, bools, mat, reduceIte, Nat.reduceEqDiff, Nat.reduceAdd, Nat.reduceBEq, Nat.reduceMul, Nat.reduceLeDiff, Nat.reduceLT, Nat.reduceMod, Nat.reduceDiv, Nat.reduceSub, reduceCtorEq]; fail_if_success (with_reducible show chk _ _)) | ((first | refine goC_call [.o, .r] (d_laws_markSlip_nil 1) ?_ | refine goOC_call [.o, .r] (d_laws_markSlip_nil 1) ?_); simp -implicitDefEqProofs (maxSteps := 1000000) (disch := (first | omega | (simp only [go_sem] <;> omega) | fail)) only [go_sem, ints, bools, mat, reduceIte, Nat.reduceEqDiff, Nat.reduceAdd, Nat.reduceBEq, Nat.reduceMul, Nat.reduceLeDiff, Nat.reduceLT, Nat.reduceMod, Nat.reduceDiv, Nat.reduceSub, reduceCtorEq]; fail_if_success (with_reducible show chk _ _)) | ((first | refine goC_call [.r, .r] (d_laws_heldSlip_nil 1) ?_ | refine goOC_call [.r, .r] (d_laws_heldSlip_nil 1) ?_); simp -implicitDefEqProofs (maxSteps := 1000000) (disch := (first | omega | (simp only [go_sem] <;> omega) | fail)) only [go_sem, ints, bools, mat, reduceIte, Nat.reduceEqDiff, Nat.reduceAdd, Nat.reduceBEq, Nat.reduceMul, Nat.reduceLeDiff, Nat.reduceLT, Nat.reduceMod, Nat.reduceDiv, Nat.reduceSub, reduceCtorEq]; fail_if_success (with_reducible show chk _ _)))
end Go.Proofs.Ytepmkcfnknfmeaa.Va
