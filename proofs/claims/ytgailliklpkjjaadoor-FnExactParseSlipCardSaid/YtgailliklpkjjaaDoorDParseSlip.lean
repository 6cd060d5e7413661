/- Contracts of the functions that FnExactParseSlip reaches, and the law's own. Condition: none. -/
import Derived.Test.YtgailliklpkjjaaDoorCParseSlip
set_option linter.all false
set_option linter.unusedSimpArgs false
set_option linter.unusedVariables false
namespace Go.Proofs.YtgailliklpkjjaaDoor.Va
open Go
set_option maxHeartbeats 4000000
set_option maxRecDepth 100000
theorem d_spec_l01In (a lo hi : Int) : Den PA f_spec_l01In [.d (di a), .d (di lo), .d (di hi)] [.any, .any, .any] (.d (db (decide (lo ≤ a) && decide (a ≤ hi)))) := by
  refine den_go [] l_spec_l01In ?_
  repeat' (first | simp -implicitDefEqProofs (maxSteps := 1000000) (disch := (first | omega | (simp only [go_sem] <;> omega) | fail)) only [go_sem, ints, bools, mat, reduceIte, Nat.reduceEqDiff, Nat.reduceAdd, Nat.reduceBEq, Nat.reduceMul, Nat.reduceLeDiff, Nat.reduceLT, Nat.reduceMod, Nat.reduceDiv, Nat.reduceSub, reduceCtorEq, c_spec_l01In] | ((first | refine goIf_b (fun h => ?_) (fun h => ?_) | refine goG_b (fun h => ?_) (fun h => ?_) | refine goTG_b (fun h => ?_) (fun h => ?_) | refine goOG_b (fun h => ?_) (fun h => ?_)) <;> ((try simp only [Bool.not_eq_true', Bool.not_eq_false'] at h); (try simp only [h]); (try simp only [decide_eq_true_eq, decide_eq_false_iff_not, bne_iff_ne, bne_eq_false_iff_eq, beq_iff_eq, beq_eq_false_iff_ne, ne_eq, Int.not_lt, Int.not_le, Bool.and_eq_true, Bool.and_eq_false_iff, Bool.or_eq_true, Bool.or_eq_false_iff] at h))))
theorem d_laws_szInt64S (x : D) (l : List Int) (hx : IsInts x l) (left : Int) (hl : l.length ≤ maxLen) (h0 : 0 ≤ left) (h1 : left ≤ 1048576) :
    Den PA f_laws_szInt64S [.d x, .d (di left)] [.any, .any] (.d (di (if left < l.length then -1 else left - l.length))) := by
  have hm : maxLen = 9223372036854775807 := rfl
  refine den_go [] l_laws_szInt64S ?_
  rcases hx with rfl | ⟨rfl, rfl⟩
  all_goals repeat' (first | simp -implicitDefEqProofs (maxSteps := 1000000) (disch := (first | omega | (simp only [go_sem] <;> omega) | fail)) only [go_sem, ints, bools, mat, reduceIte, Nat.reduceEqDiff, Nat.reduceAdd, Nat.reduceBEq, Nat.reduceMul, Nat.reduceLeDiff, Nat.reduceLT, Nat.reduceMod, Nat.reduceDiv, Nat.reduceSub, reduceCtorEq, c_laws_szInt64S] | ((first | refine goIf_b (fun h => ?_) (fun h => ?_) | refine goG_b (fun h => ?_) (fun h => ?_) | refine goTG_b (fun h => ?_) (fun h => ?_) | refine goOG_b (fun h => ?_) (fun h => ?_)) <;> ((try simp only [Bool.not_eq_true', Bool.not_eq_false'] at h); (try simp only [h]); (try simp only [decide_eq_true_eq, decide_eq_false_iff_not, bne_iff_ne, bne_eq_false_iff_eq, beq_iff_eq, beq_eq_false_iff_ne, ne_eq, Int.not_lt, Int.not_le, Bool.and_eq_true, Bool.and_eq_false_iff, Bool.or_eq_true, Bool.or_eq_false_iff] at h))))
  · rw [if_pos (by omega)]
  · rw [if_neg (by omega)]
  · exfalso; omega
  · refine div ?_
    rw [if_neg (by simp; omega)]; rfl
theorem d_laws_eqInt64S (l m : List Int) (hl : l.length < 1048577) :
    Den PA f_laws_eqInt64S [.d (ints l), .d (ints m)] [.any, .any] (.d (db (decide (l = m)))) := by
  refine den_go [] l_laws_eqInt64S ?_
  repeat' (first | simp -implicitDefEqProofs (maxSteps := 1000000) (disch := (first | omega | (simp only [go_sem] <;> omega) | fail)) only [go_sem, ints, bools, mat, reduceIte, Nat.reduceEqDiff, Nat.reduceAdd, Nat.reduceBEq, Nat.reduceMul, Nat.reduceLeDiff, Nat.reduceLT, Nat.reduceMod, Nat.reduceDiv, Nat.reduceSub, reduceCtorEq, c_laws_eqInt64S] | ((first | refine goIf_b (fun h => ?_) (fun h => ?_) | refine goG_b (fun h => ?_) (fun h => ?_) | refine goTG_b (fun h => ?_) (fun h => ?_) | refine goOG_b (fun h => ?_) (fun h => ?_)) <;> ((try simp only [Bool.not_eq_true', Bool.not_eq_false'] at h); (try simp only [h]); (try simp only [decide_eq_true_eq, decide_eq_false_iff_not, bne_iff_ne, bne_eq_false_iff_eq, beq_iff_eq, beq_eq_false_iff_ne, ne_eq, Int.not_lt, Int.not_le, Bool.and_eq_true, Bool.and_eq_false_iff, Bool.or_eq_true, Bool.or_eq_false_iff] at h))))
  · exact dbF fun e => by have := of_decide_eq_true e; subst this; exact h rfl
  refine go_loop (fun (j : Nat) => ⟨[(0, .d (ints l)), (1, .d (ints m)), (5, .d (di j))], []⟩) (fun j => j ≤ l.length ∧ ∀ i, i < j → l.getD i 0 = m.getD i 0) (fun j => l.length - j) 0 ?_ ?_ ?_
  · simp -implicitDefEqProofs (maxSteps := 1000000) (disch := (first | omega | (simp only [go_sem] <;> omega) | fail)) only [go_sem, ints, bools, mat, reduceIte, Nat.reduceEqDiff, Nat.reduceAdd, Nat.reduceBEq, Nat.reduceMul, Nat.reduceLeDiff, Nat.reduceLT, Nat.reduceMod, Nat.reduceDiv, Nat.reduceSub, reduceCtorEq]; rfl
  · simp
  · rintro j ⟨hj, hi⟩ J hJ
    repeat' (first | simp -implicitDefEqProofs (maxSteps := 1000000) (disch := (first | omega | (simp only [go_sem] <;> omega) | fail)) only [go_sem, ints, bools, mat, reduceIte, Nat.reduceEqDiff, Nat.reduceAdd, Nat.reduceBEq, Nat.reduceMul, Nat.reduceLeDiff, Nat.reduceLT, Nat.reduceMod, Nat.reduceDiv, Nat.reduceSub, reduceCtorEq] | ((first | refine goIf_b (fun h => ?_) (fun h => ?_) | refine goG_b (fun h => ?_) (fun h => ?_) | refine goTG_b (fun h => ?_) (fun h => ?_) | refine goOG_b (fun h => ?_) (fun h => ?_)) <;> ((try simp only [Bool.not_eq_true', Bool.not_eq_false'] at h); (try simp only [h]); (try simp only [decide_eq_true_eq, decide_eq_false_iff_not, bne_iff_ne, bne_eq_false_iff_eq, beq_iff_eq, beq_eq_false_iff_ne, ne_eq, Int.not_lt, Int.not_le, Bool.and_eq_true, Bool.and_eq_false_iff, Bool.or_eq_true, Bool.or_eq_false_iff] at h))))
    · exact dbF fun e => by have := of_decide_eq_true e; subst this; exact h rfl
    · refine hJ (j + 1) ⟨by omega, fun i hi' => ?_⟩ (by omega) _ (by simp -implicitDefEqProofs (maxSteps := 1000000) (disch := (first | omega | (simp only [go_sem] <;> omega) | fail)) only [go_sem, ints, bools, mat, reduceIte, Nat.reduceEqDiff, Nat.reduceAdd, Nat.reduceBEq, Nat.reduceMul, Nat.reduceLeDiff, Nat.reduceLT, Nat.reduceMod, Nat.reduceDiv, Nat.reduceSub, reduceCtorEq]; rfl)
      rcases Nat.lt_or_ge i j with h' | h'
      · exact hi i h'
      · have : i = j := by omega
        subst this; assumption
    · exact dbT (decide_eq_true (eq_getD (by omega) fun i hi' => hi i (by omega)))
theorem d_laws_toInt64S (x : D) (l : List Int) (hx : IsInts x l) (hl : l.length < 1048577) :
    Den PA f_laws_toInt64S [.d x] [.any] (.own 1 (l.map di)) := by
  refine den_go [] l_laws_toInt64S ?_
  rcases hx with rfl | ⟨rfl, rfl⟩
  rotate_left
  · repeat' (first | simp -implicitDefEqProofs (maxSteps := 1000000) (disch := (first | omega | (simp only [go_sem] <;> omega) | fail)) only [go_sem, ints, bools, mat, reduceIte, Nat.reduceEqDiff, Nat.reduceAdd, Nat.reduceBEq, Nat.reduceMul, Nat.reduceLeDiff, Nat.reduceLT, Nat.reduceMod, Nat.reduceDiv, Nat.reduceSub, reduceCtorEq, c_laws_toInt64S] | ((first | refine goIf_b (fun h => ?_) (fun h => ?_) | refine goG_b (fun h => ?_) (fun h => ?_) | refine goTG_b (fun h => ?_) (fun h => ?_) | refine goOG_b (fun h => ?_) (fun h => ?_)) <;> ((try simp only [Bool.not_eq_true', Bool.not_eq_false'] at h); (try simp only [h]); (try simp only [decide_eq_true_eq, decide_eq_false_iff_not, bne_iff_ne, bne_eq_false_iff_eq, beq_iff_eq, beq_eq_false_iff_ne, ne_eq, Int.not_lt, Int.not_le, Bool.and_eq_true, Bool.and_eq_false_iff, Bool.or_eq_true, Bool.or_eq_false_iff] at h))))
    refine go_loop (fun (_ : Unit) => ⟨[(0, .d (.v (.slice none 0 0))), (3, .sl 0 0 0 1), (4, .d (di 0))], [some (.dat 1 [])]⟩) (fun _ => True) (fun _ => 0) () ?_ trivial ?_
    · simp -implicitDefEqProofs (maxSteps := 1000000) (disch := (first | omega | (simp only [go_sem] <;> omega) | fail)) only [go_sem, ints, bools, mat, reduceIte, Nat.reduceEqDiff, Nat.reduceAdd, Nat.reduceBEq, Nat.reduceMul, Nat.reduceLeDiff, Nat.reduceLT, Nat.reduceMod, Nat.reduceDiv, Nat.reduceSub, reduceCtorEq]; rfl
    · intro _ _ J _
      repeat' (first | simp -implicitDefEqProofs (maxSteps := 1000000) (disch := (first | omega | (simp only [go_sem] <;> omega) | fail)) only [go_sem, ints, bools, mat, reduceIte, Nat.reduceEqDiff, Nat.reduceAdd, Nat.reduceBEq, Nat.reduceMul, Nat.reduceLeDiff, Nat.reduceLT, Nat.reduceMod, Nat.reduceDiv, Nat.reduceSub, reduceCtorEq] | ((first | refine goIf_b (fun h => ?_) (fun h => ?_) | refine goG_b (fun h => ?_) (fun h => ?_) | refine goTG_b (fun h => ?_) (fun h => ?_) | refine goOG_b (fun h => ?_) (fun h => ?_)) <;> ((try simp only [Bool.not_eq_true', Bool.not_eq_false'] at h); (try simp only [h]); (try simp only [decide_eq_true_eq, decide_eq_false_iff_not, bne_iff_ne, bne_eq_false_iff_eq, beq_iff_eq, beq_eq_false_iff_ne, ne_eq, Int.not_lt, Int.not_le, Bool.and_eq_true, Bool.and_eq_false_iff, Bool.or_eq_true, Bool.or_eq_false_iff] at h))))
  repeat' (first | simp -implicitDefEqProofs (maxSteps := 1000000) (disch := (first | omega | (simp only [go_sem] <;> omega) | fail)) only [go_sem, ints, bools, mat, reduceIte, Nat.reduceEqDiff, Nat.reduceAdd, Nat.reduceBEq, Nat.reduceMul, Nat.reduceLeDiff, Nat.reduceLT, Nat.reduceMod, Nat.reduceDiv, Nat.reduceSub, reduceCtorEq, c_laws_toInt64S] | ((first | refine goIf_b (fun h => ?_) (fun h => ?_) | refine goG_b (fun h => ?_) (fun h => ?_) | refine goTG_b (fun h => ?_) (fun h => ?_) | refine goOG_b (fun h => ?_) (fun h => ?_)) <;> ((try simp only [Bool.not_eq_true', Bool.not_eq_false'] at h); (try simp only [h]); (try simp only [decide_eq_true_eq, decide_eq_false_iff_not, bne_iff_ne, bne_eq_false_iff_eq, beq_iff_eq, beq_eq_false_iff_ne, ne_eq, Int.not_lt, Int.not_le, Bool.and_eq_true, Bool.and_eq_false_iff, Bool.or_eq_true, Bool.or_eq_false_iff] at h))))
  refine go_loop (fun (j : Nat) => ⟨[(0, .d (ints l)), (3, .sl 0 0 l.length 1), (4, .d (di j))], [some (.dat 1 ((l.take j ++ List.replicate (l.length - j) 0).map di))]⟩) (fun j => j ≤ l.length) (fun j => l.length - j) 0 ?_ ?_ ?_
  · simp -implicitDefEqProofs (maxSteps := 1000000) (disch := (first | omega | (simp only [go_sem] <;> omega) | fail)) only [go_sem, ints, bools, mat, reduceIte, Nat.reduceEqDiff, Nat.reduceAdd, Nat.reduceBEq, Nat.reduceMul, Nat.reduceLeDiff, Nat.reduceLT, Nat.reduceMod, Nat.reduceDiv, Nat.reduceSub, reduceCtorEq]; rfl
  · simp
  · rintro j hj J hJ
    repeat' (first | simp -implicitDefEqProofs (maxSteps := 1000000) (disch := (first | omega | (simp only [go_sem] <;> omega) | fail)) only [go_sem, ints, bools, mat, reduceIte, Nat.reduceEqDiff, Nat.reduceAdd, Nat.reduceBEq, Nat.reduceMul, Nat.reduceLeDiff, Nat.reduceLT, Nat.reduceMod, Nat.reduceDiv, Nat.reduceSub, reduceCtorEq] | ((first | refine goIf_b (fun h => ?_) (fun h => ?_) | refine goG_b (fun h => ?_) (fun h => ?_) | refine goTG_b (fun h => ?_) (fun h => ?_) | refine goOG_b (fun h => ?_) (fun h => ?_)) <;> ((try simp only [Bool.not_eq_true', Bool.not_eq_false'] at h); (try simp only [h]); (try simp only [decide_eq_true_eq, decide_eq_false_iff_not, bne_iff_ne, bne_eq_false_iff_eq, beq_iff_eq, beq_eq_false_iff_ne, ne_eq, Int.not_lt, Int.not_le, Bool.and_eq_true, Bool.and_eq_false_iff, Bool.or_eq_true, Bool.or_eq_false_iff] at h))))
    · refine hJ (j + 1) (by omega) (by omega) _ ?_
      simp -implicitDefEqProofs (maxSteps := 1000000) (disch := (first | omega | (simp only [go_sem] <;> omega) | fail)) only [go_sem, ints, bools, mat, reduceIte, Nat.reduceEqDiff, Nat.reduceAdd, Nat.reduceBEq, Nat.reduceMul, Nat.reduceLeDiff, Nat.reduceLT, Nat.reduceMod, Nat.reduceDiv, Nat.reduceSub, reduceCtorEq]
      rw [fill_step l 0 0 (by omega) rfl]; rfl
    · have : j = l.length := by omega
      subst this; simp
theorem d_laws_szSpace (x : D) (l : List Int) (hx : IsInts x l) (left : Int) (hl : l.length ≤ maxLen) (h0 : 0 ≤ left) (h1 : left ≤ 1048576) :
    Den PA f_laws_szSpace [.d (.agg [x]), .d (di left)] [.any, .any] (.d (di (if left < l.length then -1 else left - l.length))) := by
  refine den_go [] l_laws_szSpace ?_
  simp -implicitDefEqProofs (maxSteps := 1000000) (disch := (first | omega | (simp only [go_sem] <;> omega) | fail)) only [go_sem, ints, bools, mat, reduceIte, Nat.reduceEqDiff, Nat.reduceAdd, Nat.reduceBEq, Nat.reduceMul, Nat.reduceLeDiff, Nat.reduceLT, Nat.reduceMod, Nat.reduceDiv, Nat.reduceSub, reduceCtorEq, c_laws_szSpace]
  first | refine goC_call [.r, .r] (d_laws_szInt64S x l hx left hl h0 h1) ?_ | refine goOC_call [.r, .r] (d_laws_szInt64S x l hx left hl h0 h1) ?_
  repeat' (first | simp -implicitDefEqProofs (maxSteps := 1000000) (disch := (first | omega | (simp only [go_sem] <;> omega) | fail)) only [go_sem, ints, bools, mat, reduceIte, Nat.reduceEqDiff, Nat.reduceAdd, Nat.reduceBEq, Nat.reduceMul, Nat.reduceLeDiff, Nat.reduceLT, Nat.reduceMod, Nat.reduceDiv, Nat.reduceSub, reduceCtorEq] | ((first | refine goIf_b (fun h => ?_) (fun h => ?_) | refine goG_b (fun h => ?_) (fun h => ?_) | refine goTG_b (fun h => ?_) (fun h => ?_) | refine goOG_b (fun h => ?_) (fun h => ?_)) <;> ((try simp only [Bool.not_eq_true', Bool.not_eq_false'] at h); (try simp only [h]); (try simp only [decide_eq_true_eq, decide_eq_false_iff_not, bne_iff_ne, bne_eq_false_iff_eq, beq_iff_eq, beq_eq_false_iff_ne, ne_eq, Int.not_lt, Int.not_le, Bool.and_eq_true, Bool.and_eq_false_iff, Bool.or_eq_true, Bool.or_eq_false_iff] at h))))
  by_cases hh : left < (l.length : Int)
  · rw [if_pos hh]
  · rw [if_neg hh] at h; omega
theorem d_laws_eqSpace (l m : List Int) (hl : l.length < 1048577) :
    Den PA f_laws_eqSpace [.d (.agg [ints l]), .d (.agg [ints m])] [.any, .any] (.d (db (decide (l = m)))) := by
  refine den_go [] l_laws_eqSpace ?_
  simp -implicitDefEqProofs (maxSteps := 1000000) (disch := (first | omega | (simp only [go_sem] <;> omega) | fail)) only [go_sem, ints, bools, mat, reduceIte, Nat.reduceEqDiff, Nat.reduceAdd, Nat.reduceBEq, Nat.reduceMul, Nat.reduceLeDiff, Nat.reduceLT, Nat.reduceMod, Nat.reduceDiv, Nat.reduceSub, reduceCtorEq, c_laws_eqSpace]
  first | refine goC_call [.r, .r] (d_laws_eqInt64S l m hl) ?_ | refine goOC_call [.r, .r] (d_laws_eqInt64S l m hl) ?_
  repeat' (first | simp -implicitDefEqProofs (maxSteps := 1000000) (disch := (first | omega | (simp only [go_sem] <;> omega) | fail)) only [go_sem, ints, bools, mat, reduceIte, Nat.reduceEqDiff, Nat.reduceAdd, Nat.reduceBEq, Nat.reduceMul, Nat.reduceLeDiff, Nat.reduceLT, Nat.reduceMod, Nat.reduceDiv, Nat.reduceSub, reduceCtorEq] | ((first | refine goIf_b (fun h => ?_) (fun h => ?_) | refine goG_b (fun h => ?_) (fun h => ?_) | refine goTG_b (fun h => ?_) (fun h => ?_) | refine goOG_b (fun h => ?_) (fun h => ?_)) <;> ((try simp only [Bool.not_eq_true', Bool.not_eq_false'] at h); (try simp only [h]); (try simp only [decide_eq_true_eq, decide_eq_false_iff_not, bne_iff_ne, bne_eq_false_iff_eq, beq_iff_eq, beq_eq_false_iff_ne, ne_eq, Int.not_lt, Int.not_le, Bool.and_eq_true, Bool.and_eq_false_iff, Bool.or_eq_true, Bool.or_eq_false_iff] at h))))
theorem d_laws_toSpace (x : D) (l : List Int) (hx : IsInts x l) (hl : l.length < 1048577) :
    Den PA f_laws_toSpace [.d (.agg [x])] [.any] (.agg [.own 1 (l.map di)]) := by
  refine den_go [] l_laws_toSpace ?_
  simp -implicitDefEqProofs (maxSteps := 1000000) (disch := (first | omega | (simp only [go_sem] <;> omega) | fail)) only [go_sem, ints, bools, mat, reduceIte, Nat.reduceEqDiff, Nat.reduceAdd, Nat.reduceBEq, Nat.reduceMul, Nat.reduceLeDiff, Nat.reduceLT, Nat.reduceMod, Nat.reduceDiv, Nat.reduceSub, reduceCtorEq, c_laws_toSpace]
  first | refine goC_call [.r] (d_laws_toInt64S x l hx hl) ?_ | refine goOC_call [.r] (d_laws_toInt64S x l hx hl) ?_
  repeat' (first | simp -implicitDefEqProofs (maxSteps := 1000000) (disch := (first | omega | (simp only [go_sem] <;> omega) | fail)) only [go_sem, ints, bools, mat, reduceIte, Nat.reduceEqDiff, Nat.reduceAdd, Nat.reduceBEq, Nat.reduceMul, Nat.reduceLeDiff, Nat.reduceLT, Nat.reduceMod, Nat.reduceDiv, Nat.reduceSub, reduceCtorEq] | ((first | refine goIf_b (fun h => ?_) (fun h => ?_) | refine goG_b (fun h => ?_) (fun h => ?_) | refine goTG_b (fun h => ?_) (fun h => ?_) | refine goOG_b (fun h => ?_) (fun h => ?_)) <;> ((try simp only [Bool.not_eq_true', Bool.not_eq_false'] at h); (try simp only [h]); (try simp only [decide_eq_true_eq, decide_eq_false_iff_not, bne_iff_ne, bne_eq_false_iff_eq, beq_iff_eq, beq_eq_false_iff_ne, ne_eq, Int.not_lt, Int.not_le, Bool.and_eq_true, Bool.and_eq_false_iff, Bool.or_eq_true, Bool.or_eq_false_iff] at h))))
def prodM (l : List Int) : Int := l.foldl (· * ·) 1
theorem take_one (l : List Int) {j : Nat} (h : j < l.length) : l.take (j + 1) = l.take j ++ [l.getD j 0] := by
  rw [List.take_add_one]; simp [h]
theorem prodM_step (l : List Int) {j : Nat} (h : j < l.length) : prodM (l.take (j + 1)) = prodM (l.take j) * l.getD j 0 := by
  rw [take_one l h]; simp [prodM]
theorem prodM_bnd (l : List Int) : ∀ j, j ≤ l.length → (∀ i, i < j → 2 ≤ l.getD i 0 ∧ l.getD i 0 ≤ 4) → 1 ≤ prodM (l.take j) ∧ prodM (l.take j) ≤ 4 ^ j
  | 0, _, _ => by simp [prodM]
  | j + 1, hj, h => by
    obtain ⟨h1, h2⟩ := prodM_bnd l j (by omega) (fun i hi => h i (by omega))
    obtain ⟨h3, h4⟩ := h j (by omega)
    rw [prodM_step l (by omega)]
    constructor
    · have := Int.mul_le_mul h1 (show (1 : Int) ≤ l.getD j 0 by omega) (by omega) (by omega)
      simpa using this
    · rw [Int.pow_succ]
      exact Int.mul_le_mul h2 h4 (by omega) (by omega)
theorem pow4 {j : Nat} (h : j ≤ 8) : (4 : Int) ^ j ≤ 65536 := by
  exact (by decide : ∀ j : Fin 9, (4 : Int) ^ (j : Nat) ≤ 65536) ⟨j, by omega⟩
theorem prodM_small (l : List Int) {j : Nat} (h8 : j ≤ 8) (hj : j ≤ l.length) (h : ∀ i, i < j → 2 ≤ l.getD i 0 ∧ l.getD i 0 ≤ 4) : 1 ≤ prodM (l.take j) ∧ prodM (l.take j) ≤ 65536 := by
  obtain ⟨h1, h2⟩ := prodM_bnd l j hj h
  exact ⟨h1, Int.le_trans h2 (pow4 h8)⟩
/-- A space: one to eight places, two to four digits each, at most 1024 words. -/
def isSpaceM (l : List Int) : Bool := decide (1 ≤ l.length) && decide (l.length ≤ 8) && l.all (fun n => decide (2 ≤ n) && decide (n ≤ 4)) && decide (prodM l ≤ 1024)
theorem isSpaceM_ok (l : List Int) : isSpaceM l = true ↔ (1 ≤ l.length ∧ l.length ≤ 8) ∧ (∀ j, j < l.length → 2 ≤ l.getD j 0 ∧ l.getD j 0 ≤ 4) ∧ prodM l ≤ 1024 := by
  simp only [isSpaceM, Bool.and_eq_true, decide_eq_true_eq, all_getD, and_assoc]
theorem d_spec_l01N (l : List Int) (h8 : l.length ≤ 8) (h : ∀ i, i < l.length → 2 ≤ l.getD i 0 ∧ l.getD i 0 ≤ 4) :
    Den PA f_spec_l01N [.d (.agg [ints l])] [.any] (.d (di (prodM l))) := by
  refine den_go [] l_spec_l01N ?_
  simp -implicitDefEqProofs (maxSteps := 1000000) (disch := (first | omega | (simp only [go_sem] <;> omega) | fail)) only [go_sem, ints, bools, mat, reduceIte, Nat.reduceEqDiff, Nat.reduceAdd, Nat.reduceBEq, Nat.reduceMul, Nat.reduceLeDiff, Nat.reduceLT, Nat.reduceMod, Nat.reduceDiv, Nat.reduceSub, reduceCtorEq, c_spec_l01N]
  refine go_loop (fun (j : Nat) => ⟨[(1, .ref 0 0), (3, .d (di (prodM (l.take j)))), (4, .d (di j))], [some (.var [ints l])]⟩) (fun j => j ≤ l.length) (fun j => l.length - j) 0 ?_ ?_ ?_
  · simp -implicitDefEqProofs (maxSteps := 1000000) (disch := (first | omega | (simp only [go_sem] <;> omega) | fail)) only [go_sem, ints, bools, mat, reduceIte, Nat.reduceEqDiff, Nat.reduceAdd, Nat.reduceBEq, Nat.reduceMul, Nat.reduceLeDiff, Nat.reduceLT, Nat.reduceMod, Nat.reduceDiv, Nat.reduceSub, reduceCtorEq]; rfl
  · simp
  · rintro j hj J hJ
    have hb := prodM_small l (j := j) (by omega) hj (fun i hi => h i (by omega))
    have hb' := fun hj' => prodM_small l (j := j + 1) (by omega) hj' (fun i hi => h i (by omega))
    have hs := fun hj' => prodM_step l (j := j) hj'
    repeat' (first | simp -implicitDefEqProofs (maxSteps := 1000000) (disch := (first | omega | (simp only [go_sem] <;> omega) | fail)) only [go_sem, ints, bools, mat, reduceIte, Nat.reduceEqDiff, Nat.reduceAdd, Nat.reduceBEq, Nat.reduceMul, Nat.reduceLeDiff, Nat.reduceLT, Nat.reduceMod, Nat.reduceDiv, Nat.reduceSub, reduceCtorEq] | ((first | refine goIf_b (fun h => ?_) (fun h => ?_) | refine goG_b (fun h => ?_) (fun h => ?_) | refine goTG_b (fun h => ?_) (fun h => ?_) | refine goOG_b (fun h => ?_) (fun h => ?_)) <;> ((try simp only [Bool.not_eq_true', Bool.not_eq_false'] at h); (try simp only [h]); (try simp only [decide_eq_true_eq, decide_eq_false_iff_not, bne_iff_ne, bne_eq_false_iff_eq, beq_iff_eq, beq_eq_false_iff_ne, ne_eq, Int.not_lt, Int.not_le, Bool.and_eq_true, Bool.and_eq_false_iff, Bool.or_eq_true, Bool.or_eq_false_iff] at h))))
    · rename_i hlt
      have hlt : j < l.length := by omega
      have h1 := hb' (by omega)
      rw [hs hlt] at h1
      refine hJ (j + 1) (by omega) (by omega) _ ?_
      simp -implicitDefEqProofs (maxSteps := 1000000) (disch := (first | omega | (simp only [go_sem] <;> omega) | fail)) only [go_sem, ints, bools, mat, reduceIte, Nat.reduceEqDiff, Nat.reduceAdd, Nat.reduceBEq, Nat.reduceMul, Nat.reduceLeDiff, Nat.reduceLT, Nat.reduceMod, Nat.reduceDiv, Nat.reduceSub, reduceCtorEq]
      rw [hs hlt]; rfl
theorem d_spec_l01Is (l : List Int) (hl : l.length < 1048577) :
    Den PA f_spec_l01Is [.d (.agg [ints l])] [.any] (.d (db (isSpaceM l))) := by
  have e := isSpaceM_ok l
  refine den_go [] l_spec_l01Is ?_
  simp -implicitDefEqProofs (maxSteps := 1000000) (disch := (first | omega | (simp only [go_sem] <;> omega) | fail)) only [go_sem, ints, bools, mat, reduceIte, Nat.reduceEqDiff, Nat.reduceAdd, Nat.reduceBEq, Nat.reduceMul, Nat.reduceLeDiff, Nat.reduceLT, Nat.reduceMod, Nat.reduceDiv, Nat.reduceSub, reduceCtorEq, c_spec_l01Is]
  first | refine goC_call [.r, .r, .r] (d_spec_l01In l.length 1 8) ?_ | refine goOC_call [.r, .r, .r] (d_spec_l01In l.length 1 8) ?_
  repeat' (first | simp -implicitDefEqProofs (maxSteps := 1000000) (disch := (first | omega | (simp only [go_sem] <;> omega) | fail)) only [go_sem, ints, bools, mat, reduceIte, Nat.reduceEqDiff, Nat.reduceAdd, Nat.reduceBEq, Nat.reduceMul, Nat.reduceLeDiff, Nat.reduceLT, Nat.reduceMod, Nat.reduceDiv, Nat.reduceSub, reduceCtorEq] | ((first | refine goIf_b (fun h => ?_) (fun h => ?_) | refine goG_b (fun h => ?_) (fun h => ?_) | refine goTG_b (fun h => ?_) (fun h => ?_) | refine goOG_b (fun h => ?_) (fun h => ?_)) <;> ((try simp only [Bool.not_eq_true', Bool.not_eq_false'] at h); (try simp only [h]); (try simp only [decide_eq_true_eq, decide_eq_false_iff_not, bne_iff_ne, bne_eq_false_iff_eq, beq_iff_eq, beq_eq_false_iff_ne, ne_eq, Int.not_lt, Int.not_le, Bool.and_eq_true, Bool.and_eq_false_iff, Bool.or_eq_true, Bool.or_eq_false_iff] at h))))
  rotate_left
  · exact dbF fun h' => by have := (e.1 h').1; omega
  refine go_loop (fun (j : Nat) => ⟨[(1, .ref 0 0), (3, .d (di j))], [some (.var [ints l])]⟩) (fun j => j ≤ l.length ∧ ∀ i, i < j → 2 ≤ l.getD i 0 ∧ l.getD i 0 ≤ 4) (fun j => l.length - j) 0 ?_ ?_ ?_
  · simp -implicitDefEqProofs (maxSteps := 1000000) (disch := (first | omega | (simp only [go_sem] <;> omega) | fail)) only [go_sem, ints, bools, mat, reduceIte, Nat.reduceEqDiff, Nat.reduceAdd, Nat.reduceBEq, Nat.reduceMul, Nat.reduceLeDiff, Nat.reduceLT, Nat.reduceMod, Nat.reduceDiv, Nat.reduceSub, reduceCtorEq]; rfl
  · simp
  · rintro j ⟨hj, hi⟩ J hJ
    repeat' (first | simp -implicitDefEqProofs (maxSteps := 1000000) (disch := (first | omega | (simp only [go_sem] <;> omega) | fail)) only [go_sem, ints, bools, mat, reduceIte, Nat.reduceEqDiff, Nat.reduceAdd, Nat.reduceBEq, Nat.reduceMul, Nat.reduceLeDiff, Nat.reduceLT, Nat.reduceMod, Nat.reduceDiv, Nat.reduceSub, reduceCtorEq] | ((first | refine goIf_b (fun h => ?_) (fun h => ?_) | refine goG_b (fun h => ?_) (fun h => ?_) | refine goTG_b (fun h => ?_) (fun h => ?_) | refine goOG_b (fun h => ?_) (fun h => ?_)) <;> ((try simp only [Bool.not_eq_true', Bool.not_eq_false'] at h); (try simp only [h]); (try simp only [decide_eq_true_eq, decide_eq_false_iff_not, bne_iff_ne, bne_eq_false_iff_eq, beq_iff_eq, beq_eq_false_iff_ne, ne_eq, Int.not_lt, Int.not_le, Bool.and_eq_true, Bool.and_eq_false_iff, Bool.or_eq_true, Bool.or_eq_false_iff] at h))))
    · first | refine goC_call [.r, .r, .r] (d_spec_l01In (l.getD j 0) 2 4) ?_ | refine goOC_call [.r, .r, .r] (d_spec_l01In (l.getD j 0) 2 4) ?_
      repeat' (first | simp -implicitDefEqProofs (maxSteps := 1000000) (disch := (first | omega | (simp only [go_sem] <;> omega) | fail)) only [go_sem, ints, bools, mat, reduceIte, Nat.reduceEqDiff, Nat.reduceAdd, Nat.reduceBEq, Nat.reduceMul, Nat.reduceLeDiff, Nat.reduceLT, Nat.reduceMod, Nat.reduceDiv, Nat.reduceSub, reduceCtorEq] | ((first | refine goIf_b (fun h => ?_) (fun h => ?_) | refine goG_b (fun h => ?_) (fun h => ?_) | refine goTG_b (fun h => ?_) (fun h => ?_) | refine goOG_b (fun h => ?_) (fun h => ?_)) <;> ((try simp only [Bool.not_eq_true', Bool.not_eq_false'] at h); (try simp only [h]); (try simp only [decide_eq_true_eq, decide_eq_false_iff_not, bne_iff_ne, bne_eq_false_iff_eq, beq_iff_eq, beq_eq_false_iff_ne, ne_eq, Int.not_lt, Int.not_le, Bool.and_eq_true, Bool.and_eq_false_iff, Bool.or_eq_true, Bool.or_eq_false_iff] at h))))
      · refine hJ (j + 1) ⟨by omega, fun i hi' => ?_⟩ (by omega) _ (by simp -implicitDefEqProofs (maxSteps := 1000000) (disch := (first | omega | (simp only [go_sem] <;> omega) | fail)) only [go_sem, ints, bools, mat, reduceIte, Nat.reduceEqDiff, Nat.reduceAdd, Nat.reduceBEq, Nat.reduceMul, Nat.reduceLeDiff, Nat.reduceLT, Nat.reduceMod, Nat.reduceDiv, Nat.reduceSub, reduceCtorEq]; rfl)
        rcases Nat.lt_or_ge i j with h' | h'
        · exact hi i h'
        · have : i = j := by omega
          subst this; assumption
      · exact dbF fun h' => by have := (e.1 h').2.1 j (by omega); omega
    · have hj' : j = l.length := by omega
      subst hj'
      first | refine goC_call [.r] (d_spec_l01N l (by omega) hi) ?_ | refine goOC_call [.r] (d_spec_l01N l (by omega) hi) ?_
      repeat' (first | simp -implicitDefEqProofs (maxSteps := 1000000) (disch := (first | omega | (simp only [go_sem] <;> omega) | fail)) only [go_sem, ints, bools, mat, reduceIte, Nat.reduceEqDiff, Nat.reduceAdd, Nat.reduceBEq, Nat.reduceMul, Nat.reduceLeDiff, Nat.reduceLT, Nat.reduceMod, Nat.reduceDiv, Nat.reduceSub, reduceCtorEq] | ((first | refine goIf_b (fun h => ?_) (fun h => ?_) | refine goG_b (fun h => ?_) (fun h => ?_) | refine goTG_b (fun h => ?_) (fun h => ?_) | refine goOG_b (fun h => ?_) (fun h => ?_)) <;> ((try simp only [Bool.not_eq_true', Bool.not_eq_false'] at h); (try simp only [h]); (try simp only [decide_eq_true_eq, decide_eq_false_iff_not, bne_iff_ne, bne_eq_false_iff_eq, beq_iff_eq, beq_eq_false_iff_ne, ne_eq, Int.not_lt, Int.not_le, Bool.and_eq_true, Bool.and_eq_false_iff, Bool.or_eq_true, Bool.or_eq_false_iff] at h))))
      refine dbv ?_
      cases hm : isSpaceM l with
      | true => exact decide_eq_true (e.1 hm).2.2
      | false =>
        refine decide_eq_false fun hp => ?_
        have := e.2 ⟨by omega, hi, hp⟩
        rw [hm] at this; cases this
theorem d_impl_IsSpace (l : List Int) (hl : l.length < 1048577) :
    Den PA f_impl_IsSpace [.d (.agg [ints l])] [.any] (.d (db (isSpaceM l))) := by
  have e := isSpaceM_ok l
  refine den_go [] l_impl_IsSpace ?_
  repeat' (first | simp -implicitDefEqProofs (maxSteps := 1000000) (disch := (first | omega | (simp only [go_sem] <;> omega) | fail)) only [go_sem, ints, bools, mat, reduceIte, Nat.reduceEqDiff, Nat.reduceAdd, Nat.reduceBEq, Nat.reduceMul, Nat.reduceLeDiff, Nat.reduceLT, Nat.reduceMod, Nat.reduceDiv, Nat.reduceSub, reduceCtorEq, c_impl_IsSpace] | ((first | refine goIf_b (fun h => ?_) (fun h => ?_) | refine goG_b (fun h => ?_) (fun h => ?_) | refine goTG_b (fun h => ?_) (fun h => ?_) | refine goOG_b (fun h => ?_) (fun h => ?_)) <;> ((try simp only [Bool.not_eq_true', Bool.not_eq_false'] at h); (try simp only [h]); (try simp only [decide_eq_true_eq, decide_eq_false_iff_not, bne_iff_ne, bne_eq_false_iff_eq, beq_iff_eq, beq_eq_false_iff_ne, ne_eq, Int.not_lt, Int.not_le, Bool.and_eq_true, Bool.and_eq_false_iff, Bool.or_eq_true, Bool.or_eq_false_iff] at h))))
  · exact dbF fun h' => by have := (e.1 h').1; omega
  · refine go_loop (fun (j : Nat) => ⟨[(3, .d (di (prodM (l.take j)))), (17, .d (ints l)), (18, .d (di l.length)), (19, .d (di j))], []⟩) (fun j => j ≤ l.length ∧ ∀ i, i < j → 2 ≤ l.getD i 0 ∧ l.getD i 0 ≤ 4) (fun j => l.length - j) 0 ?_ ?_ ?_
    · simp -implicitDefEqProofs (maxSteps := 1000000) (disch := (first | omega | (simp only [go_sem] <;> omega) | fail)) only [go_sem, ints, bools, mat, reduceIte, Nat.reduceEqDiff, Nat.reduceAdd, Nat.reduceBEq, Nat.reduceMul, Nat.reduceLeDiff, Nat.reduceLT, Nat.reduceMod, Nat.reduceDiv, Nat.reduceSub, reduceCtorEq]; rfl
    · simp
    · rintro j ⟨hj, hi⟩ J hJ
      have hb := prodM_small l (j := j) (by omega) hj hi
      repeat' (first | simp -implicitDefEqProofs (maxSteps := 1000000) (disch := (first | omega | (simp only [go_sem] <;> omega) | fail)) only [go_sem, ints, bools, mat, reduceIte, Nat.reduceEqDiff, Nat.reduceAdd, Nat.reduceBEq, Nat.reduceMul, Nat.reduceLeDiff, Nat.reduceLT, Nat.reduceMod, Nat.reduceDiv, Nat.reduceSub, reduceCtorEq] | ((first | refine goIf_b (fun h => ?_) (fun h => ?_) | refine goG_b (fun h => ?_) (fun h => ?_) | refine goTG_b (fun h => ?_) (fun h => ?_) | refine goOG_b (fun h => ?_) (fun h => ?_)) <;> ((try simp only [Bool.not_eq_true', Bool.not_eq_false'] at h); (try simp only [h]); (try simp only [decide_eq_true_eq, decide_eq_false_iff_not, bne_iff_ne, bne_eq_false_iff_eq, beq_iff_eq, beq_eq_false_iff_ne, ne_eq, Int.not_lt, Int.not_le, Bool.and_eq_true, Bool.and_eq_false_iff, Bool.or_eq_true, Bool.or_eq_false_iff] at h))))
      · exact dbF fun h' => by have := (e.1 h').2.1 j (by omega); omega
      · have hi' : ∀ i, i < j + 1 → 2 ≤ l.getD i 0 ∧ l.getD i 0 ≤ 4 := fun i hi' => by
          rcases Nat.lt_or_ge i j with h' | h'
          · exact hi i h'
          · have : i = j := by omega
            subst this; exact ⟨by assumption, by assumption⟩
        have hb' := prodM_small l (j := j + 1) (by omega) (by omega) hi'
        have hs := prodM_step l (j := j) (by omega)
        rw [hs] at hb'
        refine hJ (j + 1) ⟨by omega, hi'⟩ (by omega) _ ?_
        simp -implicitDefEqProofs (maxSteps := 1000000) (disch := (first | omega | (simp only [go_sem] <;> omega) | fail)) only [go_sem, ints, bools, mat, reduceIte, Nat.reduceEqDiff, Nat.reduceAdd, Nat.reduceBEq, Nat.reduceMul, Nat.reduceLeDiff, Nat.reduceLT, Nat.reduceMod, Nat.reduceDiv, Nat.reduceSub, reduceCtorEq]
        rw [hs]; rfl
      · exact dbF fun h' => by have := (e.1 h').2.1 j (by omega); omega
      · have hj' : j = l.length := by omega
        subst hj'
        refine dbv ?_
        cases hm : isSpaceM l with
        | true => exact decide_eq_true (e.1 hm).2.2
        | false =>
          refine decide_eq_false fun hp => ?_
          have := e.2 ⟨by omega, hi, hp⟩
          rw [hm] at this; cases this
  · exact dbF fun h' => by have := (e.1 h').1; omega
/-- A slip: for each place a set of signs that is not empty. -/
def isSlipM (l t : List Int) : Bool := decide (t.length = l.length) && (List.range t.length).all fun j => decide (1 ≤ t.getD j 0) && decide (t.getD j 0 < 2 ^ (l.getD j 0).toNat)
theorem isSlipM_ok (l t : List Int) : isSlipM l t = true ↔ t.length = l.length ∧ ∀ j, j < t.length → 1 ≤ t.getD j 0 ∧ t.getD j 0 < 2 ^ (l.getD j 0).toNat := by
  simp only [isSlipM, Bool.and_eq_true, decide_eq_true_eq, List.all_eq_true, List.mem_range]
theorem d_impl_isSlip (l t : List Int) (ht : t.length < 1048577) (hl : ∀ j, j < l.length → 2 ≤ l.getD j 0 ∧ l.getD j 0 ≤ 4) :
    Den PA f_impl_isSlip [.d (.agg [ints l]), .d (ints t)] [.any, .any] (.d (db (isSlipM l t))) := by
  have e := isSlipM_ok l t
  refine den_go [] l_impl_isSlip ?_
  repeat' (first | simp -implicitDefEqProofs (maxSteps := 1000000) (disch := (first | omega | (simp only [go_sem] <;> omega) | fail)) only [go_sem, ints, bools, mat, reduceIte, Nat.reduceEqDiff, Nat.reduceAdd, Nat.reduceBEq, Nat.reduceMul, Nat.reduceLeDiff, Nat.reduceLT, Nat.reduceMod, Nat.reduceDiv, Nat.reduceSub, reduceCtorEq, c_impl_isSlip] | ((first | refine goIf_b (fun h => ?_) (fun h => ?_) | refine goG_b (fun h => ?_) (fun h => ?_) | refine goTG_b (fun h => ?_) (fun h => ?_) | refine goOG_b (fun h => ?_) (fun h => ?_)) <;> ((try simp only [Bool.not_eq_true', Bool.not_eq_false'] at h); (try simp only [h]); (try simp only [decide_eq_true_eq, decide_eq_false_iff_not, bne_iff_ne, bne_eq_false_iff_eq, beq_iff_eq, beq_eq_false_iff_ne, ne_eq, Int.not_lt, Int.not_le, Bool.and_eq_true, Bool.and_eq_false_iff, Bool.or_eq_true, Bool.or_eq_false_iff] at h))))
  · exact dbF fun h' => by have := (e.1 h').1; omega
  refine go_loop (fun (j : Nat) => ⟨[(2, .ref 0 0), (13, .d (ints t)), (14, .d (di t.length)), (15, .d (di j))], [some (.var [ints l])]⟩) (fun j => j ≤ t.length ∧ ∀ i, i < j → 1 ≤ t.getD i 0 ∧ t.getD i 0 < 2 ^ (l.getD i 0).toNat) (fun j => t.length - j) 0 ?_ ?_ ?_
  · (simp -implicitDefEqProofs (maxSteps := 1000000) (disch := (first | omega | (simp only [go_sem] <;> omega) | fail)) only [go_sem, ints, bools, mat, reduceIte, Nat.reduceEqDiff, Nat.reduceAdd, Nat.reduceBEq, Nat.reduceMul, Nat.reduceLeDiff, Nat.reduceLT, Nat.reduceMod, Nat.reduceDiv, Nat.reduceSub, reduceCtorEq] <;> rfl)
  · simp
  · rintro j ⟨hj, hi⟩ J hJ
    have hq := hl j
    have hp := two_pow_lt (b := (l.getD j 0).toNat)
    repeat' (first | simp -implicitDefEqProofs (maxSteps := 1000000) (disch := (first | omega | (simp only [go_sem] <;> omega) | fail)) only [go_sem, ints, bools, mat, reduceIte, Nat.reduceEqDiff, Nat.reduceAdd, Nat.reduceBEq, Nat.reduceMul, Nat.reduceLeDiff, Nat.reduceLT, Nat.reduceMod, Nat.reduceDiv, Nat.reduceSub, reduceCtorEq] | ((first | refine goIf_b (fun h => ?_) (fun h => ?_) | refine goG_b (fun h => ?_) (fun h => ?_) | refine goTG_b (fun h => ?_) (fun h => ?_) | refine goOG_b (fun h => ?_) (fun h => ?_)) <;> ((try simp only [Bool.not_eq_true', Bool.not_eq_false'] at h); (try simp only [h]); (try simp only [decide_eq_true_eq, decide_eq_false_iff_not, bne_iff_ne, bne_eq_false_iff_eq, beq_iff_eq, beq_eq_false_iff_ne, ne_eq, Int.not_lt, Int.not_le, Bool.and_eq_true, Bool.and_eq_false_iff, Bool.or_eq_true, Bool.or_eq_false_iff] at h))))
    · exact dbF fun h' => by have := (e.1 h').2 j (by omega); omega
    · refine hJ (j + 1) ⟨by omega, all_ext hi (by omega)⟩ (by omega) _ (by (simp -implicitDefEqProofs (maxSteps := 1000000) (disch := (first | omega | (simp only [go_sem] <;> omega) | fail)) only [go_sem, ints, bools, mat, reduceIte, Nat.reduceEqDiff, Nat.reduceAdd, Nat.reduceBEq, Nat.reduceMul, Nat.reduceLeDiff, Nat.reduceLT, Nat.reduceMod, Nat.reduceDiv, Nat.reduceSub, reduceCtorEq] <;> rfl))
    · exact dbF fun h' => by have := (e.1 h').2 j (by omega); omega
    · exact dbT (e.2 ⟨by omega, fun i hi' => hi i (by omega)⟩)
theorem isSpaceM_q {l : List Int} (h : isSpaceM l = true) : ∀ j, j < l.length → 2 ≤ l.getD j 0 ∧ l.getD j 0 ≤ 4 := ((isSpaceM_ok l).1 h).2.1
theorem isSpaceM_n {l : List Int} (h : isSpaceM l = true) : 1 ≤ l.length ∧ l.length ≤ 8 := ((isSpaceM_ok l).1 h).1
theorem d_laws_eqSlip (l m : List Int) (hl : l.length < 1048577) :
    Den PA f_laws_eqSlip [.d (ints l), .d (ints m)] [.any, .any] (.d (db (decide (l = m)))) := by
  refine den_go [] l_laws_eqSlip ?_
  repeat' (first | simp -implicitDefEqProofs (maxSteps := 1000000) (disch := (first | omega | (simp only [go_sem] <;> omega) | fail)) only [go_sem, ints, bools, mat, reduceIte, Nat.reduceEqDiff, Nat.reduceAdd, Nat.reduceBEq, Nat.reduceMul, Nat.reduceLeDiff, Nat.reduceLT, Nat.reduceMod, Nat.reduceDiv, Nat.reduceSub, reduceCtorEq, c_laws_eqSlip] | ((first | refine goIf_b (fun h => ?_) (fun h => ?_) | refine goG_b (fun h => ?_) (fun h => ?_) | refine goTG_b (fun h => ?_) (fun h => ?_) | refine goOG_b (fun h => ?_) (fun h => ?_)) <;> ((try simp only [Bool.not_eq_true', Bool.not_eq_false'] at h); (try simp only [h]); (try simp only [decide_eq_true_eq, decide_eq_false_iff_not, bne_iff_ne, bne_eq_false_iff_eq, beq_iff_eq, beq_eq_false_iff_ne, ne_eq, Int.not_lt, Int.not_le, Bool.and_eq_true, Bool.and_eq_false_iff, Bool.or_eq_true, Bool.or_eq_false_iff] at h))))
  · exact dbF fun e => by have := of_decide_eq_true e; subst this; exact h rfl
  refine go_loop (fun (j : Nat) => ⟨[(0, .d (ints l)), (1, .d (ints m)), (5, .d (di j))], []⟩) (fun j => j ≤ l.length ∧ ∀ i, i < j → l.getD i 0 = m.getD i 0) (fun j => l.length - j) 0 ?_ ?_ ?_
  · (simp -implicitDefEqProofs (maxSteps := 1000000) (disch := (first | omega | (simp only [go_sem] <;> omega) | fail)) only [go_sem, ints, bools, mat, reduceIte, Nat.reduceEqDiff, Nat.reduceAdd, Nat.reduceBEq, Nat.reduceMul, Nat.reduceLeDiff, Nat.reduceLT, Nat.reduceMod, Nat.reduceDiv, Nat.reduceSub, reduceCtorEq] <;> rfl)
  · simp
  · rintro j ⟨hj, hi⟩ J hJ
    repeat' (first | simp -implicitDefEqProofs (maxSteps := 1000000) (disch := (first | omega | (simp only [go_sem] <;> omega) | fail)) only [go_sem, ints, bools, mat, reduceIte, Nat.reduceEqDiff, Nat.reduceAdd, Nat.reduceBEq, Nat.reduceMul, Nat.reduceLeDiff, Nat.reduceLT, Nat.reduceMod, Nat.reduceDiv, Nat.reduceSub, reduceCtorEq] | ((first | refine goIf_b (fun h => ?_) (fun h => ?_) | refine goG_b (fun h => ?_) (fun h => ?_) | refine goTG_b (fun h => ?_) (fun h => ?_) | refine goOG_b (fun h => ?_) (fun h => ?_)) <;> ((try simp only [Bool.not_eq_true', Bool.not_eq_false'] at h); (try simp only [h]); (try simp only [decide_eq_true_eq, decide_eq_false_iff_not, bne_iff_ne, bne_eq_false_iff_eq, beq_iff_eq, beq_eq_false_iff_ne, ne_eq, Int.not_lt, Int.not_le, Bool.and_eq_true, Bool.and_eq_false_iff, Bool.or_eq_true, Bool.or_eq_false_iff] at h))))
    · exact dbF fun e => by have := of_decide_eq_true e; subst this; exact h rfl
    · refine hJ (j + 1) ⟨by omega, all_ext hi (by omega)⟩ (by omega) _ (by (simp -implicitDefEqProofs (maxSteps := 1000000) (disch := (first | omega | (simp only [go_sem] <;> omega) | fail)) only [go_sem, ints, bools, mat, reduceIte, Nat.reduceEqDiff, Nat.reduceAdd, Nat.reduceBEq, Nat.reduceMul, Nat.reduceLeDiff, Nat.reduceLT, Nat.reduceMod, Nat.reduceDiv, Nat.reduceSub, reduceCtorEq] <;> rfl))
    · exact dbT (decide_eq_true (eq_getD (by omega) fun i hi' => hi i (by omega)))
theorem sz_ok {l : List Int} {left : Int} (h : 0 ≤ (if left < (l.length : Int) then (-1 : Int) else left - l.length)) : (l.length : Int) ≤ left := by
  by_cases hh : left < (l.length : Int)
  · rw [if_pos hh] at h; omega
  · omega
abbrev nil : D := .v (.slice none 0 0)
def markL (n : Nat) (k : Int) : List Int := (List.range n).map fun (i : Nat) => k + (i : Int)
@[go_sem] theorem markL_len (n : Nat) (k : Int) : (markL n k).length = n := by simp [markL]
theorem markL_get {n : Nat} (k : Int) {j : Nat} (h : j < n) : (markL n k).getD j 0 = k + j := by simp [markL, h]
@[go_sem] theorem take_markL (n : Nat) (k : Int) : (markL n k).take n = markL n k := List.take_of_length_le (by rw [markL_len]; exact Nat.le_refl _)
theorem mark_step (l : List Int) (k : Int) {j : Nat} (h : j < l.length) : (markL j k ++ l.drop j).set j (k + j) = markL (j + 1) k ++ l.drop (j + 1) := by
  apply List.ext_getElem
  · simp [markL]; omega
  · intro i h1 h2
    simp [markL] at h1 h2
    rw [List.getElem_set]
    split
    · subst_vars; simp [markL, List.getElem_append]
    · simp only [List.getElem_append, markL_len]
      split <;> split
      · simp [markL]
      · omega
      · omega
      · simp only [List.getElem_drop]; congr 1; omega
theorem d_laws_markSlip (l : List Int) (k : Int) (hl : l.length < 1048577) (hk : 0 ≤ k) (hk2 : k < 1000000000000) :
    Den PA f_laws_markSlip [.own 1 (l.map di), .d (di k)] [.own 1 ((markL l.length k).map di), .any] (.d (di (k + l.length))) := by
  refine den_go [0] l_laws_markSlip ?_
  repeat' (first | simp -implicitDefEqProofs (maxSteps := 1000000) (disch := (first | omega | (simp only [go_sem] <;> omega) | fail)) only [go_sem, ints, bools, mat, reduceIte, Nat.reduceEqDiff, Nat.reduceAdd, Nat.reduceBEq, Nat.reduceMul, Nat.reduceLeDiff, Nat.reduceLT, Nat.reduceMod, Nat.reduceDiv, Nat.reduceSub, reduceCtorEq, c_laws_markSlip] | ((first | refine goIf_b (fun h => ?_) (fun h => ?_) | refine goG_b (fun h => ?_) (fun h => ?_) | refine goTG_b (fun h => ?_) (fun h => ?_) | refine goOG_b (fun h => ?_) (fun h => ?_)) <;> ((try simp only [Bool.not_eq_true', Bool.not_eq_false'] at h); (try simp only [h]); (try simp only [decide_eq_true_eq, decide_eq_false_iff_not, bne_iff_ne, bne_eq_false_iff_eq, beq_iff_eq, beq_eq_false_iff_ne, ne_eq, Int.not_lt, Int.not_le, Bool.and_eq_true, Bool.and_eq_false_iff, Bool.or_eq_true, Bool.or_eq_false_iff] at h))))
  refine go_loop (fun (j : Nat) => ⟨[(0, .sl 0 0 l.length 1), (1, .d (di (k + j))), (5, .d (di j)), (19, .sl 0 0 l.length 1)], [some (.dat 1 ((markL j k ++ l.drop j).map di))]⟩) (fun j => j ≤ l.length) (fun j => l.length - j) 0 ?_ ?_ ?_
  · simp -implicitDefEqProofs (maxSteps := 1000000) (disch := (first | omega | (simp only [go_sem] <;> omega) | fail)) only [go_sem, ints, bools, mat, reduceIte, Nat.reduceEqDiff, Nat.reduceAdd, Nat.reduceBEq, Nat.reduceMul, Nat.reduceLeDiff, Nat.reduceLT, Nat.reduceMod, Nat.reduceDiv, Nat.reduceSub, reduceCtorEq]; simp [markL]
  · simp
  · rintro j hj J hJ
    have hlen := markL_len j k
    have hst := fun h => mark_step l k (j := j) h
    repeat' (first | simp -implicitDefEqProofs (maxSteps := 1000000) (disch := (first | omega | (simp only [go_sem] <;> omega) | fail)) only [go_sem, ints, bools, mat, reduceIte, Nat.reduceEqDiff, Nat.reduceAdd, Nat.reduceBEq, Nat.reduceMul, Nat.reduceLeDiff, Nat.reduceLT, Nat.reduceMod, Nat.reduceDiv, Nat.reduceSub, reduceCtorEq] | ((first | refine goIf_b (fun h => ?_) (fun h => ?_) | refine goG_b (fun h => ?_) (fun h => ?_) | refine goTG_b (fun h => ?_) (fun h => ?_) | refine goOG_b (fun h => ?_) (fun h => ?_)) <;> ((try simp only [Bool.not_eq_true', Bool.not_eq_false'] at h); (try simp only [h]); (try simp only [decide_eq_true_eq, decide_eq_false_iff_not, bne_iff_ne, bne_eq_false_iff_eq, beq_iff_eq, beq_eq_false_iff_ne, ne_eq, Int.not_lt, Int.not_le, Bool.and_eq_true, Bool.and_eq_false_iff, Bool.or_eq_true, Bool.or_eq_false_iff] at h))))
    · refine hJ (j + 1) (by omega) (by omega) _ ?_
      simp -implicitDefEqProofs (maxSteps := 1000000) (disch := (first | omega | (simp only [go_sem] <;> omega) | fail)) only [go_sem, ints, bools, mat, reduceIte, Nat.reduceEqDiff, Nat.reduceAdd, Nat.reduceBEq, Nat.reduceMul, Nat.reduceLeDiff, Nat.reduceLT, Nat.reduceMod, Nat.reduceDiv, Nat.reduceSub, reduceCtorEq]
      rw [hst (by omega)]; simp only [Int.natCast_add, Int.natCast_one, Int.add_assoc]
    · have : j = l.length := by omega
      subst this; simp
theorem d_laws_markSlip_nil (k : Int) : Den PA f_laws_markSlip [.d nil, .d (di k)] [.any, .any] (.d (di k)) := by
  refine den_go [] l_laws_markSlip ?_
  repeat' (first | simp -implicitDefEqProofs (maxSteps := 1000000) (disch := (first | omega | (simp only [go_sem] <;> omega) | fail)) only [go_sem, ints, bools, mat, reduceIte, Nat.reduceEqDiff, Nat.reduceAdd, Nat.reduceBEq, Nat.reduceMul, Nat.reduceLeDiff, Nat.reduceLT, Nat.reduceMod, Nat.reduceDiv, Nat.reduceSub, reduceCtorEq, c_laws_markSlip] | ((first | refine goIf_b (fun h => ?_) (fun h => ?_) | refine goG_b (fun h => ?_) (fun h => ?_) | refine goTG_b (fun h => ?_) (fun h => ?_) | refine goOG_b (fun h => ?_) (fun h => ?_)) <;> ((try simp only [Bool.not_eq_true', Bool.not_eq_false'] at h); (try simp only [h]); (try simp only [decide_eq_true_eq, decide_eq_false_iff_not, bne_iff_ne, bne_eq_false_iff_eq, beq_iff_eq, beq_eq_false_iff_ne, ne_eq, Int.not_lt, Int.not_le, Bool.and_eq_true, Bool.and_eq_false_iff, Bool.or_eq_true, Bool.or_eq_false_iff] at h))))
  refine go_loop (fun (_ : Unit) => ⟨[(0, .d nil), (1, .d (di k)), (5, .d (di 0)), (19, .any)], []⟩) (fun _ => True) (fun _ => 0) () ?_ trivial ?_
  · (simp -implicitDefEqProofs (maxSteps := 1000000) (disch := (first | omega | (simp only [go_sem] <;> omega) | fail)) only [go_sem, ints, bools, mat, reduceIte, Nat.reduceEqDiff, Nat.reduceAdd, Nat.reduceBEq, Nat.reduceMul, Nat.reduceLeDiff, Nat.reduceLT, Nat.reduceMod, Nat.reduceDiv, Nat.reduceSub, reduceCtorEq] <;> rfl)
  · intro _ _ J _
    repeat' (first | simp -implicitDefEqProofs (maxSteps := 1000000) (disch := (first | omega | (simp only [go_sem] <;> omega) | fail)) only [go_sem, ints, bools, mat, reduceIte, Nat.reduceEqDiff, Nat.reduceAdd, Nat.reduceBEq, Nat.reduceMul, Nat.reduceLeDiff, Nat.reduceLT, Nat.reduceMod, Nat.reduceDiv, Nat.reduceSub, reduceCtorEq] | ((first | refine goIf_b (fun h => ?_) (fun h => ?_) | refine goG_b (fun h => ?_) (fun h => ?_) | refine goTG_b (fun h => ?_) (fun h => ?_) | refine goOG_b (fun h => ?_) (fun h => ?_)) <;> ((try simp only [Bool.not_eq_true', Bool.not_eq_false'] at h); (try simp only [h]); (try simp only [decide_eq_true_eq, decide_eq_false_iff_not, bne_iff_ne, bne_eq_false_iff_eq, beq_iff_eq, beq_eq_false_iff_ne, ne_eq, Int.not_lt, Int.not_le, Bool.and_eq_true, Bool.and_eq_false_iff, Bool.or_eq_true, Bool.or_eq_false_iff] at h))))
theorem d_laws_heldSlip (n : Nat) (k : Int) (hl : n < 1048577) (hk : 0 ≤ k) (hk2 : k < 1000000000000) :
    Den PA f_laws_heldSlip [.d (ints (markL n k)), .d (di k)] [.any, .any] (.d (di (k + n))) := by
  have hlen := markL_len n k
  refine den_go [] l_laws_heldSlip ?_
  repeat' (first | simp -implicitDefEqProofs (maxSteps := 1000000) (disch := (first | omega | (simp only [go_sem] <;> omega) | fail)) only [go_sem, ints, bools, mat, reduceIte, Nat.reduceEqDiff, Nat.reduceAdd, Nat.reduceBEq, Nat.reduceMul, Nat.reduceLeDiff, Nat.reduceLT, Nat.reduceMod, Nat.reduceDiv, Nat.reduceSub, reduceCtorEq, c_laws_heldSlip] | ((first | refine goIf_b (fun h => ?_) (fun h => ?_) | refine goG_b (fun h => ?_) (fun h => ?_) | refine goTG_b (fun h => ?_) (fun h => ?_) | refine goOG_b (fun h => ?_) (fun h => ?_)) <;> ((try simp only [Bool.not_eq_true', Bool.not_eq_false'] at h); (try simp only [h]); (try simp only [decide_eq_true_eq, decide_eq_false_iff_not, bne_iff_ne, bne_eq_false_iff_eq, beq_iff_eq, beq_eq_false_iff_ne, ne_eq, Int.not_lt, Int.not_le, Bool.and_eq_true, Bool.and_eq_false_iff, Bool.or_eq_true, Bool.or_eq_false_iff] at h))))
  refine go_loop (fun (j : Nat) => ⟨[(0, .d (ints (markL n k))), (1, .d (di (k + j))), (5, .d (di j))], []⟩) (fun j => j ≤ n) (fun j => n - j) 0 ?_ ?_ ?_
  · simp -implicitDefEqProofs (maxSteps := 1000000) (disch := (first | omega | (simp only [go_sem] <;> omega) | fail)) only [go_sem, ints, bools, mat, reduceIte, Nat.reduceEqDiff, Nat.reduceAdd, Nat.reduceBEq, Nat.reduceMul, Nat.reduceLeDiff, Nat.reduceLT, Nat.reduceMod, Nat.reduceDiv, Nat.reduceSub, reduceCtorEq]; simp
  · simp
  · rintro j hj J hJ
    have hst := fun h => markL_get k (n := n) (j := j) h
    repeat' (first | simp -implicitDefEqProofs (maxSteps := 1000000) (disch := (first | omega | (simp only [go_sem] <;> omega) | fail)) only [go_sem, ints, bools, mat, reduceIte, Nat.reduceEqDiff, Nat.reduceAdd, Nat.reduceBEq, Nat.reduceMul, Nat.reduceLeDiff, Nat.reduceLT, Nat.reduceMod, Nat.reduceDiv, Nat.reduceSub, reduceCtorEq] | ((first | refine goIf_b (fun h => ?_) (fun h => ?_) | refine goG_b (fun h => ?_) (fun h => ?_) | refine goTG_b (fun h => ?_) (fun h => ?_) | refine goOG_b (fun h => ?_) (fun h => ?_)) <;> ((try simp only [Bool.not_eq_true', Bool.not_eq_false'] at h); (try simp only [h]); (try simp only [decide_eq_true_eq, decide_eq_false_iff_not, bne_iff_ne, bne_eq_false_iff_eq, beq_iff_eq, beq_eq_false_iff_ne, ne_eq, Int.not_lt, Int.not_le, Bool.and_eq_true, Bool.and_eq_false_iff, Bool.or_eq_true, Bool.or_eq_false_iff] at h))))
    · exfalso; rw [hst (by omega)] at h; exact h rfl
    · refine hJ (j + 1) (by omega) (by omega) _ ?_
      simp -implicitDefEqProofs (maxSteps := 1000000) (disch := (first | omega | (simp only [go_sem] <;> omega) | fail)) only [go_sem, ints, bools, mat, reduceIte, Nat.reduceEqDiff, Nat.reduceAdd, Nat.reduceBEq, Nat.reduceMul, Nat.reduceLeDiff, Nat.reduceLT, Nat.reduceMod, Nat.reduceDiv, Nat.reduceSub, reduceCtorEq]
      simp only [Int.natCast_add, Int.natCast_one, Int.add_assoc]
    · have : j = n := by omega
      subst this; rfl
theorem d_laws_heldSlip_nil (k : Int) : Den PA f_laws_heldSlip [.d nil, .d (di k)] [.any, .any] (.d (di k)) := by
  refine den_go [] l_laws_heldSlip ?_
  repeat' (first | simp -implicitDefEqProofs (maxSteps := 1000000) (disch := (first | omega | (simp only [go_sem] <;> omega) | fail)) only [go_sem, ints, bools, mat, reduceIte, Nat.reduceEqDiff, Nat.reduceAdd, Nat.reduceBEq, Nat.reduceMul, Nat.reduceLeDiff, Nat.reduceLT, Nat.reduceMod, Nat.reduceDiv, Nat.reduceSub, reduceCtorEq, c_laws_heldSlip] | ((first | refine goIf_b (fun h => ?_) (fun h => ?_) | refine goG_b (fun h => ?_) (fun h => ?_) | refine goTG_b (fun h => ?_) (fun h => ?_) | refine goOG_b (fun h => ?_) (fun h => ?_)) <;> ((try simp only [Bool.not_eq_true', Bool.not_eq_false'] at h); (try simp only [h]); (try simp only [decide_eq_true_eq, decide_eq_false_iff_not, bne_iff_ne, bne_eq_false_iff_eq, beq_iff_eq, beq_eq_false_iff_ne, ne_eq, Int.not_lt, Int.not_le, Bool.and_eq_true, Bool.and_eq_false_iff, Bool.or_eq_true, Bool.or_eq_false_iff] at h))))
  refine go_loop (fun (_ : Unit) => ⟨[(0, .d nil), (1, .d (di k)), (5, .d (di 0))], []⟩) (fun _ => True) (fun _ => 0) () ?_ trivial ?_
  · (simp -implicitDefEqProofs (maxSteps := 1000000) (disch := (first | omega | (simp only [go_sem] <;> omega) | fail)) only [go_sem, ints, bools, mat, reduceIte, Nat.reduceEqDiff, Nat.reduceAdd, Nat.reduceBEq, Nat.reduceMul, Nat.reduceLeDiff, Nat.reduceLT, Nat.reduceMod, Nat.reduceDiv, Nat.reduceSub, reduceCtorEq] <;> rfl)
  · intro _ _ J _
    repeat' (first | simp -implicitDefEqProofs (maxSteps := 1000000) (disch := (first | omega | (simp only [go_sem] <;> omega) | fail)) only [go_sem, ints, bools, mat, reduceIte, Nat.reduceEqDiff, Nat.reduceAdd, Nat.reduceBEq, Nat.reduceMul, Nat.reduceLeDiff, Nat.reduceLT, Nat.reduceMod, Nat.reduceDiv, Nat.reduceSub, reduceCtorEq] | ((first | refine goIf_b (fun h => ?_) (fun h => ?_) | refine goG_b (fun h => ?_) (fun h => ?_) | refine goTG_b (fun h => ?_) (fun h => ?_) | refine goOG_b (fun h => ?_) (fun h => ?_)) <;> ((try simp only [Bool.not_eq_true', Bool.not_eq_false'] at h); (try simp only [h]); (try simp only [decide_eq_true_eq, decide_eq_false_iff_not, bne_iff_ne, bne_eq_false_iff_eq, beq_iff_eq, beq_eq_false_iff_ne, ne_eq, Int.not_lt, Int.not_le, Bool.and_eq_true, Bool.and_eq_false_iff, Bool.or_eq_true, Bool.or_eq_false_iff] at h))))
theorem d_laws_markInt64S (l : List Int) (k : Int) (hl : l.length < 1048577) (hk : 0 ≤ k) (hk2 : k < 1000000000000) :
    Den PA f_laws_markInt64S [.own 1 (l.map di), .d (di k)] [.own 1 ((markL l.length k).map di), .any] (.d (di (k + l.length))) := by
  refine den_go [0] l_laws_markInt64S ?_
  repeat' (first | simp -implicitDefEqProofs (maxSteps := 1000000) (disch := (first | omega | (simp only [go_sem] <;> omega) | fail)) only [go_sem, ints, bools, mat, reduceIte, Nat.reduceEqDiff, Nat.reduceAdd, Nat.reduceBEq, Nat.reduceMul, Nat.reduceLeDiff, Nat.reduceLT, Nat.reduceMod, Nat.reduceDiv, Nat.reduceSub, reduceCtorEq, c_laws_markInt64S] | ((first | refine goIf_b (fun h => ?_) (fun h => ?_) | refine goG_b (fun h => ?_) (fun h => ?_) | refine goTG_b (fun h => ?_) (fun h => ?_) | refine goOG_b (fun h => ?_) (fun h => ?_)) <;> ((try simp only [Bool.not_eq_true', Bool.not_eq_false'] at h); (try simp only [h]); (try simp only [decide_eq_true_eq, decide_eq_false_iff_not, bne_iff_ne, bne_eq_false_iff_eq, beq_iff_eq, beq_eq_false_iff_ne, ne_eq, Int.not_lt, Int.not_le, Bool.and_eq_true, Bool.and_eq_false_iff, Bool.or_eq_true, Bool.or_eq_false_iff] at h))))
  refine go_loop (fun (j : Nat) => ⟨[(0, .sl 0 0 l.length 1), (1, .d (di (k + j))), (5, .d (di j)), (19, .sl 0 0 l.length 1)], [some (.dat 1 ((markL j k ++ l.drop j).map di))]⟩) (fun j => j ≤ l.length) (fun j => l.length - j) 0 ?_ ?_ ?_
  · simp -implicitDefEqProofs (maxSteps := 1000000) (disch := (first | omega | (simp only [go_sem] <;> omega) | fail)) only [go_sem, ints, bools, mat, reduceIte, Nat.reduceEqDiff, Nat.reduceAdd, Nat.reduceBEq, Nat.reduceMul, Nat.reduceLeDiff, Nat.reduceLT, Nat.reduceMod, Nat.reduceDiv, Nat.reduceSub, reduceCtorEq]; simp [markL]
  · simp
  · rintro j hj J hJ
    have hlen := markL_len j k
    have hst := fun h => mark_step l k (j := j) h
    repeat' (first | simp -implicitDefEqProofs (maxSteps := 1000000) (disch := (first | omega | (simp only [go_sem] <;> omega) | fail)) only [go_sem, ints, bools, mat, reduceIte, Nat.reduceEqDiff, Nat.reduceAdd, Nat.reduceBEq, Nat.reduceMul, Nat.reduceLeDiff, Nat.reduceLT, Nat.reduceMod, Nat.reduceDiv, Nat.reduceSub, reduceCtorEq] | ((first | refine goIf_b (fun h => ?_) (fun h => ?_) | refine goG_b (fun h => ?_) (fun h => ?_) | refine goTG_b (fun h => ?_) (fun h => ?_) | refine goOG_b (fun h => ?_) (fun h => ?_)) <;> ((try simp only [Bool.not_eq_true', Bool.not_eq_false'] at h); (try simp only [h]); (try simp only [decide_eq_true_eq, decide_eq_false_iff_not, bne_iff_ne, bne_eq_false_iff_eq, beq_iff_eq, beq_eq_false_iff_ne, ne_eq, Int.not_lt, Int.not_le, Bool.and_eq_true, Bool.and_eq_false_iff, Bool.or_eq_true, Bool.or_eq_false_iff] at h))))
    · refine hJ (j + 1) (by omega) (by omega) _ ?_
      simp -implicitDefEqProofs (maxSteps := 1000000) (disch := (first | omega | (simp only [go_sem] <;> omega) | fail)) only [go_sem, ints, bools, mat, reduceIte, Nat.reduceEqDiff, Nat.reduceAdd, Nat.reduceBEq, Nat.reduceMul, Nat.reduceLeDiff, Nat.reduceLT, Nat.reduceMod, Nat.reduceDiv, Nat.reduceSub, reduceCtorEq]
      rw [hst (by omega)]; simp only [Int.natCast_add, Int.natCast_one, Int.add_assoc]
    · have : j = l.length := by omega
      subst this; simp
theorem d_laws_eqSlip_nil : Den PA f_laws_eqSlip [.d nil, .d nil] [.any, .any] (.d (db true)) := by
  refine den_go [] l_laws_eqSlip ?_
  repeat' (first | simp -implicitDefEqProofs (maxSteps := 1000000) (disch := (first | omega | (simp only [go_sem] <;> omega) | fail)) only [go_sem, ints, bools, mat, reduceIte, Nat.reduceEqDiff, Nat.reduceAdd, Nat.reduceBEq, Nat.reduceMul, Nat.reduceLeDiff, Nat.reduceLT, Nat.reduceMod, Nat.reduceDiv, Nat.reduceSub, reduceCtorEq, c_laws_eqSlip] | ((first | refine goIf_b (fun h => ?_) (fun h => ?_) | refine goG_b (fun h => ?_) (fun h => ?_) | refine goTG_b (fun h => ?_) (fun h => ?_) | refine goOG_b (fun h => ?_) (fun h => ?_)) <;> ((try simp only [Bool.not_eq_true', Bool.not_eq_false'] at h); (try simp only [h]); (try simp only [decide_eq_true_eq, decide_eq_false_iff_not, bne_iff_ne, bne_eq_false_iff_eq, beq_iff_eq, beq_eq_false_iff_ne, ne_eq, Int.not_lt, Int.not_le, Bool.and_eq_true, Bool.and_eq_false_iff, Bool.or_eq_true, Bool.or_eq_false_iff] at h))))
  refine go_loop (fun (_ : Unit) => ⟨[(0, .d nil), (1, .d nil), (5, .d (di 0))], []⟩) (fun _ => True) (fun _ => 0) () ?_ trivial ?_
  · (simp -implicitDefEqProofs (maxSteps := 1000000) (disch := (first | omega | (simp only [go_sem] <;> omega) | fail)) only [go_sem, ints, bools, mat, reduceIte, Nat.reduceEqDiff, Nat.reduceAdd, Nat.reduceBEq, Nat.reduceMul, Nat.reduceLeDiff, Nat.reduceLT, Nat.reduceMod, Nat.reduceDiv, Nat.reduceSub, reduceCtorEq] <;> rfl)
  · intro _ _ J _
    repeat' (first | simp -implicitDefEqProofs (maxSteps := 1000000) (disch := (first | omega | (simp only [go_sem] <;> omega) | fail)) only [go_sem, ints, bools, mat, reduceIte, Nat.reduceEqDiff, Nat.reduceAdd, Nat.reduceBEq, Nat.reduceMul, Nat.reduceLeDiff, Nat.reduceLT, Nat.reduceMod, Nat.reduceDiv, Nat.reduceSub, reduceCtorEq] | ((first | refine goIf_b (fun h => ?_) (fun h => ?_) | refine goG_b (fun h => ?_) (fun h => ?_) | refine goTG_b (fun h => ?_) (fun h => ?_) | refine goOG_b (fun h => ?_) (fun h => ?_)) <;> ((try simp only [Bool.not_eq_true', Bool.not_eq_false'] at h); (try simp only [h]); (try simp only [decide_eq_true_eq, decide_eq_false_iff_not, bne_iff_ne, bne_eq_false_iff_eq, beq_iff_eq, beq_eq_false_iff_ne, ne_eq, Int.not_lt, Int.not_le, Bool.and_eq_true, Bool.and_eq_false_iff, Bool.or_eq_true, Bool.or_eq_false_iff] at h))))
theorem d_laws_markSpace (l : List Int) (k : Int) (hl : l.length < 1048577) (hk : 0 ≤ k) (hk2 : k < 1000000000000) :
    Den PA f_laws_markSpace [.agg [.own 1 (l.map di)], .d (di k)] [.agg [.own 1 ((markL l.length k).map di)], .any] (.d (di (k + l.length))) := by
  refine den_go [0] l_laws_markSpace ?_
  repeat' (first | simp -implicitDefEqProofs (maxSteps := 1000000) (disch := (first | omega | (simp only [go_sem] <;> omega) | fail)) only [go_sem, ints, bools, mat, reduceIte, Nat.reduceEqDiff, Nat.reduceAdd, Nat.reduceBEq, Nat.reduceMul, Nat.reduceLeDiff, Nat.reduceLT, Nat.reduceMod, Nat.reduceDiv, Nat.reduceSub, reduceCtorEq, c_laws_markSpace] | ((first | refine goIf_b (fun h => ?_) (fun h => ?_) | refine goG_b (fun h => ?_) (fun h => ?_) | refine goTG_b (fun h => ?_) (fun h => ?_) | refine goOG_b (fun h => ?_) (fun h => ?_)) <;> ((try simp only [Bool.not_eq_true', Bool.not_eq_false'] at h); (try simp only [h]); (try simp only [decide_eq_true_eq, decide_eq_false_iff_not, bne_iff_ne, bne_eq_false_iff_eq, beq_iff_eq, beq_eq_false_iff_ne, ne_eq, Int.not_lt, Int.not_le, Bool.and_eq_true, Bool.and_eq_false_iff, Bool.or_eq_true, Bool.or_eq_false_iff] at h))))
  have hm := markL_len l.length k
  first | refine goC_call [.o, .r] (d_laws_markInt64S l k hl hk hk2) ?_ | refine goOC_call [.o, .r] (d_laws_markInt64S l k hl hk hk2) ?_
  repeat' (first | simp -implicitDefEqProofs (maxSteps := 1000000) (disch := (first | omega | (simp only [go_sem] <;> omega) | fail)) only [go_sem, ints, bools, mat, reduceIte, Nat.reduceEqDiff, Nat.reduceAdd, Nat.reduceBEq, Nat.reduceMul, Nat.reduceLeDiff, Nat.reduceLT, Nat.reduceMod, Nat.reduceDiv, Nat.reduceSub, reduceCtorEq] | ((first | refine goIf_b (fun h => ?_) (fun h => ?_) | refine goG_b (fun h => ?_) (fun h => ?_) | refine goTG_b (fun h => ?_) (fun h => ?_) | refine goOG_b (fun h => ?_) (fun h => ?_)) <;> ((try simp only [Bool.not_eq_true', Bool.not_eq_false'] at h); (try simp only [h]); (try simp only [decide_eq_true_eq, decide_eq_false_iff_not, bne_iff_ne, bne_eq_false_iff_eq, beq_iff_eq, beq_eq_false_iff_ne, ne_eq, Int.not_lt, Int.not_le, Bool.and_eq_true, Bool.and_eq_false_iff, Bool.or_eq_true, Bool.or_eq_false_iff] at h))))
@[go_sem] theorem cast_succ_sub (i : Nat) : ((i + 1 : Nat) : Int) - 1 = (i : Int) := by omega
@[go_sem] theorem cast_zero0 : ((0 : Nat) : Int) = 0 := rfl
/-- The digits of a word, the first one first. -/
def digM : List Int → Int → List Int
  | [], _ => []
  | q :: r, w => (w / prodM r) % q :: digM r w
theorem div_le_self {w p : Int} (h : 0 ≤ w) (hp : 1 ≤ p) : 0 ≤ w / p ∧ w / p ≤ w := by
  refine ⟨Int.ediv_nonneg h (by omega), Int.ediv_le_self _ h⟩
def pad8 (ds : List Int) : List Int := (ds ++ List.replicate 8 0).take 8
@[go_sem] theorem pad8_len (ds : List Int) : (pad8 ds).length = 8 := by simp [pad8]
/-- At how many places two words differ. -/
def farM : List Int → List Int → Int
  | a :: r, b :: s => (if a = b then 0 else 1) + farM r s
  | _, _ => 0
abbrev distM (l : List Int) (u w : Int) : Int := farM (digM l u) (digM l w)
@[go_sem] theorem and1_norm {x : Int} (h : 0 ≤ x) : ((x.toNat &&& (1 : Int).toNat : Nat) : Int) = x % 2 := by
  rw [show (1 : Int).toNat = 1 from rfl, and_one_toNat]; omega
def signsN (m : Int) (j : Nat) : List Int := ((List.range j).filter fun d => m / 2 ^ d % 2 == 1).map fun (d : Nat) => (d : Int)
abbrev signsM (m : Int) : List Int := signsN m 4
theorem signsN_step (m : Int) (j : Nat) : signsN m (j + 1) = signsN m j ++ (if m / 2 ^ j % 2 = 1 then [(j : Int)] else []) := by
  simp only [signsN, List.range_succ, List.filter_append, List.map_append]
  congr 1
  by_cases h : m / 2 ^ j % 2 = 1 <;> simp [h]
theorem signsN_len (m : Int) (j : Nat) : (signsN m j).length ≤ j := by
  have := List.length_filter_le (fun d => m / 2 ^ d % 2 == 1) (List.range j)
  simpa [signsN] using this
theorem d_spec_l07Signs (m : Int) (h0 : 0 ≤ m) (h1 : m < 9223372036854775808) : Den PA f_spec_l07Signs [.d (di m)] [.any] (.own 1 ((signsM m).map di)) := by
  refine den_go [] l_spec_l07Signs ?_
  repeat' (first | simp -implicitDefEqProofs (maxSteps := 1000000) (disch := (first | omega | (simp only [go_sem] <;> omega) | fail)) only [go_sem, ints, bools, mat, reduceIte, Nat.reduceEqDiff, Nat.reduceAdd, Nat.reduceBEq, Nat.reduceMul, Nat.reduceLeDiff, Nat.reduceLT, Nat.reduceMod, Nat.reduceDiv, Nat.reduceSub, reduceCtorEq, c_spec_l07Signs] | ((first | refine goIf_b (fun h => ?_) (fun h => ?_) | refine goG_b (fun h => ?_) (fun h => ?_) | refine goTG_b (fun h => ?_) (fun h => ?_) | refine goOG_b (fun h => ?_) (fun h => ?_)) <;> ((try simp only [Bool.not_eq_true', Bool.not_eq_false'] at h); (try simp only [h]); (try simp only [decide_eq_true_eq, decide_eq_false_iff_not, bne_iff_ne, bne_eq_false_iff_eq, beq_iff_eq, beq_eq_false_iff_ne, ne_eq, Int.not_lt, Int.not_le, Bool.and_eq_true, Bool.and_eq_false_iff, Bool.or_eq_true, Bool.or_eq_false_iff] at h))))
  refine go_loop (fun (j : Nat) => ⟨[(0, .d (di m)), (3, .sl 0 0 (signsN m j).length 1), (4, .d (di j))], [some (.dat 1 ((signsN m j).map di))]⟩) (fun j => j ≤ 4) (fun j => 4 - j) 0 ?_ ?_ ?_
  · (simp -implicitDefEqProofs (maxSteps := 1000000) (disch := (first | omega | (simp only [go_sem] <;> omega) | fail)) only [go_sem, ints, bools, mat, reduceIte, Nat.reduceEqDiff, Nat.reduceAdd, Nat.reduceBEq, Nat.reduceMul, Nat.reduceLeDiff, Nat.reduceLT, Nat.reduceMod, Nat.reduceDiv, Nat.reduceSub, reduceCtorEq] <;> rfl)
  · simp
  · rintro j hj J hJ
    have hlen := signsN_len m j
    have hd : 0 ≤ m / 2 ^ j ∧ m / 2 ^ j < 9223372036854775808 := by
      have h2 : (1 : Int) ≤ 2 ^ j := (two_pow_lt (by omega)).2
      have := div_le_self h0 h2
      omega
    repeat' (first | simp -implicitDefEqProofs (maxSteps := 1000000) (disch := (first | omega | (simp only [go_sem] <;> omega) | fail)) only [go_sem, ints, bools, mat, reduceIte, Nat.reduceEqDiff, Nat.reduceAdd, Nat.reduceBEq, Nat.reduceMul, Nat.reduceLeDiff, Nat.reduceLT, Nat.reduceMod, Nat.reduceDiv, Nat.reduceSub, reduceCtorEq] | ((first | refine goIf_b (fun h => ?_) (fun h => ?_) | refine goG_b (fun h => ?_) (fun h => ?_) | refine goTG_b (fun h => ?_) (fun h => ?_) | refine goOG_b (fun h => ?_) (fun h => ?_)) <;> ((try simp only [Bool.not_eq_true', Bool.not_eq_false'] at h); (try simp only [h]); (try simp only [decide_eq_true_eq, decide_eq_false_iff_not, bne_iff_ne, bne_eq_false_iff_eq, beq_iff_eq, beq_eq_false_iff_ne, ne_eq, Int.not_lt, Int.not_le, Bool.and_eq_true, Bool.and_eq_false_iff, Bool.or_eq_true, Bool.or_eq_false_iff] at h))))
    · refine hJ (j + 1) (by omega) (by omega) _ ?_
      simp -implicitDefEqProofs (maxSteps := 1000000) (disch := (first | omega | (simp only [go_sem] <;> omega) | fail)) only [go_sem, ints, bools, mat, reduceIte, Nat.reduceEqDiff, Nat.reduceAdd, Nat.reduceBEq, Nat.reduceMul, Nat.reduceLeDiff, Nat.reduceLT, Nat.reduceMod, Nat.reduceDiv, Nat.reduceSub, reduceCtorEq]
      rw [signsN_step, if_pos (by assumption)]; simp
    · refine hJ (j + 1) (by omega) (by omega) _ ?_
      simp -implicitDefEqProofs (maxSteps := 1000000) (disch := (first | omega | (simp only [go_sem] <;> omega) | fail)) only [go_sem, ints, bools, mat, reduceIte, Nat.reduceEqDiff, Nat.reduceAdd, Nat.reduceBEq, Nat.reduceMul, Nat.reduceLeDiff, Nat.reduceLT, Nat.reduceMod, Nat.reduceDiv, Nat.reduceSub, reduceCtorEq]
      rw [signsN_step, if_neg (by assumption)]; simp
    · have : j = 4 := by omega
      subst this; repeat' (first | simp -implicitDefEqProofs (maxSteps := 1000000) (disch := (first | omega | (simp only [go_sem] <;> omega) | fail)) only [go_sem, ints, bools, mat, reduceIte, Nat.reduceEqDiff, Nat.reduceAdd, Nat.reduceBEq, Nat.reduceMul, Nat.reduceLeDiff, Nat.reduceLT, Nat.reduceMod, Nat.reduceDiv, Nat.reduceSub, reduceCtorEq] | ((first | refine goIf_b (fun h => ?_) (fun h => ?_) | refine goG_b (fun h => ?_) (fun h => ?_) | refine goTG_b (fun h => ?_) (fun h => ?_) | refine goOG_b (fun h => ?_) (fun h => ?_)) <;> ((try simp only [Bool.not_eq_true', Bool.not_eq_false'] at h); (try simp only [h]); (try simp only [decide_eq_true_eq, decide_eq_false_iff_not, bne_iff_ne, bne_eq_false_iff_eq, beq_iff_eq, beq_eq_false_iff_ne, ne_eq, Int.not_lt, Int.not_le, Bool.and_eq_true, Bool.and_eq_false_iff, Bool.or_eq_true, Bool.or_eq_false_iff] at h))))
theorem isSlipM_16 {l t : List Int} (hs : isSpaceM l = true) (h : isSlipM l t = true) : t.length = l.length ∧ ∀ j, j < t.length → 1 ≤ t.getD j 0 ∧ t.getD j 0 < 16 := by
  obtain ⟨h1, h2⟩ := (isSlipM_ok l t).1 h
  refine ⟨h1, fun j hj => ⟨(h2 j hj).1, ?_⟩⟩
  have hq := isSpaceM_q hs j (by omega)
  have h3 := (h2 j hj).2
  have h4 : (2 : Int) ^ (l.getD j 0).toNat ≤ 2 ^ 4 := by
    have h5 : (2 : Nat) ^ (l.getD j 0).toNat ≤ 2 ^ 4 := Nat.pow_le_pow_right (by omega) (by omega)
    exact_mod_cast h5
  omega
theorem flat_dig (ds : List (List Int)) : flat (ds.map fun d => D.agg ((pad8 d).map dy)) = ds.flatMap fun d => (pad8 d).map dy := by
  induction ds with
  | nil => rfl
  | cons d r ih => simp only [flat, List.map_cons, List.flatMap_cons] at ih ⊢; rw [ih]; rfl
theorem drop_dig (ds : List (List Int)) : ∀ i, i < ds.length → ((ds.flatMap fun d => (pad8 d).map dy).drop (i * 8)).take 8 = (pad8 (ds.getD i [])).map dy := by
  induction ds with
  | nil => intro i hi; simp at hi
  | cons d r ih =>
    intro i hi
    rcases i with _ | i
    · rw [List.flatMap_cons, Nat.zero_mul, List.drop_zero, List.take_left' (by simp [pad8_len])]; rfl
    · rw [List.flatMap_cons, Nat.succ_mul, Nat.add_comm, ← List.drop_drop, List.drop_left' (by simp [pad8_len]), ih i (by simpa using hi)]; rfl
theorem len_dig (ds : List (List Int)) : (ds.flatMap fun d => (pad8 d).map dy).length = ds.length * 8 := by
  induction ds with
  | nil => rfl
  | cons d r ih => simp [List.flatMap_cons, ih, Nat.succ_mul, Nat.add_comm, pad8_len]
abbrev digs (ds : List (List Int)) : List D := ds.map fun d => D.agg ((pad8 d).map dy)
@[go_sem] theorem ldC_dig {ds : List (List Int)} {i : Nat} (h : i < ds.length) : ldC true 8 (flat (ds.map fun d => D.agg ((pad8 d).map dy))) (i * 8) = some (.d (.agg ((pad8 (ds.getD i [])).map dy))) := by
  rw [flat_dig]
  have h1 := drop_dig ds i h
  have h2 := len_dig ds
  unfold ldC
  rw [if_pos rfl]
  split
  · rename_i hc
    rw [hc.1, List.drop_zero, List.take_of_length_le (by omega)] at h1
    rw [h1]
  · rw [if_pos (by omega), h1]
@[go_sem] theorem get_dig {ds : List (List Int)} {i : Nat} (h : i < ds.length) : (ds.map fun d => D.agg ((pad8 d).map dy))[i]? = some (D.agg ((pad8 (ds.getD i [])).map dy)) := by simp [h]
@[go_sem] theorem app_dig (ds : List (List Int)) (d : List Int) : (ds.map fun d => D.agg ((pad8 d).map dy)) ++ [D.agg ((pad8 d).map dy)] = (ds ++ [d]).map fun d => D.agg ((pad8 d).map dy) := by simp
@[go_sem] theorem mul_mod8 (i : Nat) : i * 8 % 8 = 0 := Nat.mul_mod_left i 8
@[go_sem] theorem mul_div8 (i : Nat) : i * 8 / 8 = i := by omega
def digsM (l c : List Int) : List (List Int) := c.map (digM l)
@[go_sem] theorem digsM_len (l c : List Int) : (digsM l c).length = c.length := by simp [digsM]
def allW (l : List Int) : List Int := (List.range (prodM l).toNat).map fun (w : Nat) => (w : Int)
@[go_sem] theorem allW_len (l : List Int) : (allW l).length = (prodM l).toNat := by simp [allW]
abbrev lstR (b : Int) (v : List Int) : R := if b = 0 then .tup [.own 1 (v.map di), .d (di 0)] else .tup [.d nil, .d (di b)]
theorem lstR_ok {b : Int} {v : List Int} (h : b = 0) : lstR b v = .tup [.own 1 (v.map di), .d (di 0)] := by simp [lstR, h]
theorem lstR_no {b : Int} {v : List Int} (h : ¬ b = 0) : lstR b v = .tup [.d nil, .d (di b)] := by simp [lstR, h]
/-- How often each number comes up. -/
def histS (o : List Int) (d : Int) : List Int := o.set d.toNat (o.getD d.toNat 0 + 1)
def hist (n : Nat) (ds : List Int) : List Int := ds.foldl histS (List.replicate n 0)
theorem foldl_hist_len (ds : List Int) : ∀ o : List Int, (ds.foldl histS o).length = o.length := by
  induction ds with
  | nil => intro o; rfl
  | cons d r ih => intro o; rw [List.foldl_cons, ih]; simp [histS]
@[go_sem] theorem hist_len (n : Nat) (ds : List Int) : (hist n ds).length = n := by rw [hist, foldl_hist_len]; simp
attribute [go_sem] Nat.sub_zero
/-- The lesser of two. -/
def mn2 (a b : Int) : Int := if b < a then b else a
@[go_sem] theorem mnA_mn2 (a b : Int) : mnA (.d (di a)) (.d (di b)) = some (.d (di (mn2 a b))) := rfl
/-- The greater of two. -/
def mx2 (a b : Int) : Int := if a < b then b else a
@[go_sem] theorem mxA_mx2 (a b : Int) : mxA (.d (di a)) (.d (di b)) = some (.d (di (mx2 a b))) := rfl
def or2 (x d : Int) : Int := ((x.toNat ||| (2 ^ d.toNat : Int).toNat : Nat) : Int)
theorem or2_bnd {x d : Int} (h : 0 ≤ x ∧ x < 16) (hd : 0 ≤ d ∧ d < 4) : 0 ≤ or2 x d ∧ or2 x d < 16 := by
  have h1 : (2 : Int) ^ d.toNat ≤ 2 ^ 3 := by
    have : (2 : Nat) ^ d.toNat ≤ 2 ^ 3 := Nat.pow_le_pow_right (by omega) (by omega)
    exact_mod_cast this
  have h2 : (0 : Int) ≤ 2 ^ d.toNat := Int.pow_nonneg (by omega)
  have := @Nat.or_lt_two_pow x.toNat (2 ^ d.toNat : Int).toNat 4 (by omega) (by omega)
  unfold or2; omega
def orN (t a : List Int) : Nat → List Int
  | 0 => t
  | j + 1 => (orN t a j).set j (or2 ((orN t a j).getD j 0) (a.getD j 0))
@[go_sem] theorem orN_len (t a : List Int) : ∀ j, (orN t a j).length = t.length
  | 0 => rfl
  | j + 1 => by rw [orN, List.length_set, orN_len t a j]
def lsN (l c : List Int) : Nat → List Int
  | 0 => List.replicate l.length 0
  | j + 1 => orN (lsN l c j) (digM l (c.getD j 0)) l.length
@[go_sem] theorem lsN_len (l c : List Int) : ∀ j, (lsN l c j).length = l.length
  | 0 => by simp [lsN]
  | j + 1 => by rw [lsN, orN_len, lsN_len l c j]
/-- How many of the first words of a code are within r of a word. -/
def cntN (l c : List Int) (r u : Int) : Nat → Int
  | 0 => 0
  | j + 1 => cntN l c r u j + (if distM l (c.getD j 0) u ≤ r then 1 else 0)
def mixT (l c : List Int) (r : Int) (j k : Nat) : List Int := (List.range (prodM l).toNat).map fun (i : Nat) => cntN l c r i (if i < k then j + 1 else j)
@[go_sem] theorem mixT_len (l c : List Int) (r : Int) (j k : Nat) : (mixT l c r j k).length = (prodM l).toNat := by simp [mixT]
def timesN (l c : List Int) (r : Int) (j : Nat) : List Int := mixT l c r j 0
@[go_sem] theorem timesN_len (l c : List Int) (r : Int) (j : Nat) : (timesN l c r j).length = (prodM l).toNat := mixT_len _ _ _ _ _
attribute [go_sem] isnA List.drop_length
def and2 (x y : Int) : Int := ((x.toNat &&& y.toNat : Nat) : Int)
def andM (t u : List Int) : List Int := (List.range t.length).map fun (i : Nat) => and2 (t.getD i 0) (u.getD i 0)
@[go_sem] theorem andM_len (t u : List Int) : (andM t u).length = t.length := by simp [andM]
/-- A sum of products. -/
def sN (a b : List Int) : Nat → Int
  | 0 => 0
  | j + 1 => sN a b j + a.getD j 0 * b.getD j 0
def synM (l c : List Int) (w : Int) : List Int := c.map fun u => sN (digM l w) (digM l u) l.length % l.getD 0 0
@[go_sem] theorem synM_len (l c : List Int) (w : Int) : (synM l c w).length = c.length := by simp [synM]
def sumM (l a b : List Int) : List Int := (List.range l.length).map fun (i : Nat) => (a.getD i 0 + b.getD i 0) % l.getD i 0
@[go_sem] theorem sumM_len (l a b : List Int) : (sumM l a b).length = l.length := by simp [sumM]
def wordN (l d : List Int) : Nat → Int
  | 0 => 0
  | j + 1 => wordN l d j * l.getD j 0 + d.getD j 0
/-- The sum of two words. -/
def sumW (l : List Int) (u w : Int) : Int := wordN l (sumM l (digM l u) (digM l w)) l.length
def setN (N : Nat) (c : List Int) : Nat → List Bool
  | 0 => List.replicate N false
  | j + 1 => (setN N c j).set (c.getD j 0).toNat true
@[go_sem] theorem setN_len (N : Nat) (c : List Int) : ∀ j, (setN N c j).length = N
  | 0 => by simp [setN]
  | j + 1 => by rw [setN, List.length_set, setN_len N c j]
/-- How many of the first words of a code are within M of b, and the last of these. -/
def cntB (l c : List Int) (M b : Int) : Nat → Nat
  | 0 => 0
  | j + 1 => if distM l b (c.getD j 0) ≤ M then cntB l c M b j + 1 else cntB l c M b j
def lastB (l c : List Int) (M b : Int) : Nat → Nat
  | 0 => 0
  | j + 1 => if distM l b (c.getD j 0) ≤ M then j else lastB l c M b j
def needN (l c : List Int) (M : Int) (B : List Int) : Nat → List Bool
  | 0 => List.replicate c.length false
  | j + 1 => if cntB l c M (B.getD j 0) c.length = 1 then (needN l c M B j).set (lastB l c M (B.getD j 0) c.length) true else needN l c M B j
@[go_sem] theorem needN_len (l c : List Int) (M : Int) (B : List Int) : ∀ j, (needN l c M B j).length = c.length
  | 0 => by simp [needN]
  | j + 1 => by rw [needN]; split <;> simp [needN_len l c M B j]
@[go_sem] theorem toNat_succ (j : Nat) : ((j : Int) + 1).toNat = j + 1 := by omega
@[go_sem] theorem all_lf_digs (ds : List (List Int)) : (digs ds).all lfD = true := by
  rw [List.all_eq_true]; intro x hx
  obtain ⟨d, _, rfl⟩ := List.mem_map.1 hx
  rw [lfD, lfDs_all, List.all_eq_true]; intro y hy
  obtain ⟨i, _, rfl⟩ := List.mem_map.1 hy
  rfl
@[go_sem] theorem toNat_pred {j : Nat} : ((j : Int) - 1).toNat = j - 1 := by omega
abbrev sortI (l : List Int) : List Int := l.mergeSort (fun x y => decide (x ≤ y))
@[go_sem] theorem sortI_len (l : List Int) : (sortI l).length = l.length := List.length_mergeSort l
/-- i is the place of the first digit other than 0. -/
def fdB (d : List Int) (i : Nat) : Bool := (d.getD i 0 != 0) && (List.range i).all fun j => d.getD j 0 == 0
/-- i is the first place of one of the first j words. -/
def pvB (l c : List Int) (j i : Nat) : Bool := (List.range j).any fun k => fdB (digM l (c.getD k 0)) i
@[go_sem] theorem flat_dy (l : List Int) : flat (l.map dy) = l.map dy := flat_one _ l
@[go_sem] theorem all_one_dy (l : List Int) : (l.map dy).all isOne = true := by rw [List.all_map]; simp [isOne]
attribute [go_sem] slaM
/-- The first places of the first j words, as a row of n marks. -/
def firN (l c : List Int) (n j : Nat) : List Bool := (List.range n).map fun i => pvB l c j i
@[go_sem] theorem firN_len (l c : List Int) (n j : Nat) : (firN l c n j).length = n := by simp [firN]
@[go_sem] theorem getB2 {l : List Bool} {j : Nat} (h : j < l.length) : (l.map db)[j]? = some (db (l.getD j false)) := by simp [h]
@[go_sem] theorem mask32 {x : Int} (h : 0 ≤ x) (h' : x < 4294967296) : binA .and (.d (.v (.int .u64 x))) (.d (.v (.int .u64 4294967295))) = some (.d (.v (.int .u64 x))) := by
  have e : (BitVec.ofInt 64 x &&& BitVec.ofInt 64 4294967295).toNat = x.toNat := by
    rw [BitVec.toNat_and, ofInt_nat h (by omega), ofInt_nat (by omega) (by omega)]
    have := Nat.and_two_pow_sub_one_eq_mod x.toNat 32
    rw [show (4294967295 : Int).toNat = 2 ^ 32 - 1 from rfl, this]
    exact Nat.mod_eq_of_lt (by omega)
  have e2 : binI .and .u64 x 4294967295 = some (.int .u64 (IntKind.wrap .u64 ((BitVec.ofInt 64 x &&& BitVec.ofInt 64 4294967295).toNat : Nat))) := rfl
  simp only [binA, e2, BinOp.isShift, or_true, if_true, e, Option.map_some]
  rw [wrap_u64 (by omega) (by omega), Int.toNat_of_nonneg h]
@[go_sem] theorem shr32 {x : Int} (h : 0 ≤ x) (h' : x < 4294967296) : binA .shr (.d (.v (.int .u64 x))) (.d (.v (.int .u64 32))) = some (.d (.v (.int .u64 0))) := by
  have e : min (32 : Int).toNat 64 = 32 := rfl
  have h1 : (0 : Int) ≤ 2 ^ 32 := by decide
  simp only [binA, binI, BinOp.isShift, true_or, if_true, if_neg (show ¬ (32 : Int) < 0 by omega), IntKind.bits, e, Option.map_some, Int.fdiv_eq_ediv_of_nonneg _ h1]
  rw [Int.ediv_eq_zero_of_lt h (by exact h')]
@[go_sem] theorem cast_one1 : ((1 : Nat) : Int) = 1 := rfl
/-- A list told by a function. -/
def FL (n : Nat) (f : Nat → Int) : List Int := (List.range (n + 1)).map f
@[go_sem] theorem FL_len (n : Nat) (f : Nat → Int) : (FL n f).length = n + 1 := by simp [FL]
@[go_sem] theorem tn1 (f r : Nat) : ((f : Int) + (2 * (r : Int) + 1)).toNat = f + (2 * r + 1) := by omega
@[go_sem] theorem tn2 (f r : Nat) : ((f : Int) + (2 * (r : Int) + 1) + 1).toNat = f + (2 * r + 2) := by omega
@[go_sem] theorem tn3 (f r : Nat) : ((f : Int) + (2 * (r : Int) + 1 + 1)).toNat = f + (2 * r + 2) := by omega
@[go_sem] theorem tn4 (f r : Nat) : ((f : Int) + (r : Int)).toNat = f + r := by omega
def cpN (l : List Int) : Nat → List Int
  | 0 => []
  | m + 1 => if m = 0 ∨ l.getD m 0 ≠ l.getD (m - 1) 0 then cpN l m ++ [l.getD m 0] else cpN l m
abbrev cpM (l : List Int) : List Int := cpN l l.length
/-- The set of the numbers of a list. -/
abbrev setI (l : List Int) : List Int := cpM (sortI l)
@[go_sem] theorem setI_len_le (l : List Int) : (sortI l).length = l.length := List.length_mergeSort l
/-- A shifted code. -/
abbrev shM (l c : List Int) (w : Int) : List Int := setI (c.map fun u => sumW l u w)
/-- The opposite of a word. -/
def oppD (l a : List Int) : List Int := (List.range l.length).map fun (i : Nat) => (l.getD i 0 - a.getD i 0) % l.getD i 0
@[go_sem] theorem oppD_len (l a : List Int) : (oppD l a).length = l.length := by simp [oppD]
@[go_sem] theorem binA_shru1 {a : Int} (h : 0 ≤ a) (h' : a < 18446744073709551616) : binA .shr (.d (.v (.int .u64 a))) (.d (.v (.int .u64 1))) = some (.d (.v (.int .u64 (a / 2)))) := by
  have e : min (1 : Int).toNat 64 = 1 := rfl
  have h1 : (0 : Int) ≤ 2 ^ 1 := by decide
  simp only [binA, binI, BinOp.isShift, true_or, if_true, if_neg (show ¬ (1 : Int) < 0 by omega), IntKind.bits, e, Option.map_some, Int.fdiv_eq_ediv_of_nonneg _ h1]
  rfl
@[go_sem] theorem capA_nil : capA (.d nil) = some (.d (di 0)) := rfl
@[go_sem] theorem capA_nil' : capA (.d (.v (.slice none 0 0))) = some (.d (di 0)) := rfl
/-- The weight of a word. -/
abbrev wtM (l : List Int) (x : Int) : Int := distM l 0 x
/-- The best of the first words of a list. -/
def bstN (l L : List Int) : Nat → Int
  | 0 => L.getD 0 0
  | k + 1 => if wtM l (L.getD k 0) < wtM l (bstN l L k) then L.getD k 0 else bstN l L k
/-- The leader of the class of a word. -/
def ldW (l c : List Int) (w : Int) : Int := bstN l (shM l c w) (shM l c w).length
def kltB (l : List Int) (t w : Int) (x : Int) : Bool := decide (wtM l x < t ∨ (wtM l x = t ∧ x < w))
def ldL (l c : List Int) (t w : Int) : List Int := (allW l).map fun u => if kltB l t w (ldW l c u) then ldW l c u else -1
@[go_sem] theorem ldL_len (l c : List Int) (t w : Int) : (ldL l c t w).length = (prodM l).toNat := by simp [ldL, allW_len]
/-- Places of a list set to v. -/
def stN (X L : List Int) (v : Int) : Nat → List Int
  | 0 => X
  | k + 1 => (stN X L v k).set (L.getD k 0).toNat v
@[go_sem] theorem stN_len (X L : List Int) (v : Int) : ∀ k, (stN X L v k).length = X.length
  | 0 => rfl
  | k + 1 => by rw [stN, List.length_set, stN_len X L v k]
/-- Digits with the one at i turned. -/
def swD (d : List Int) (i : Nat) : List Int := d.set i (1 - d.getD i 0)
@[go_sem] theorem swD_len (d : List Int) (i : Nat) : (swD d i).length = d.length := by simp [swD]
def nxR (l : List Int) (j : Nat) : List (List Int) := (List.range j).map fun (d : Nat) => l ++ [(d : Int)]
@[go_sem] theorem nxR_len (l : List Int) (j : Nat) : (nxR l j).length = j := by simp [nxR]
def nxT (q : Nat) (ls : List (List Int)) (i : Nat) : List (List Int) := (ls.take i).flatMap fun l => nxR l q
def rowsN (q : Nat) : Nat → List (List Int)
  | 0 => [[]]
  | k + 1 => nxT q (rowsN q k) (rowsN q k).length
def badR (l : List Int) : Bool := match l.findIdx? fun d => d != 0 with | some j => l.getD j 0 != 1 | none => true
def colN (q m : Nat) : List (List Int) := (rowsN q m).filter fun x => !badR x
/-- The Hamming code's space, words. -/
def hamL (q m : Nat) : List Int := List.replicate (colN q m).length (q : Int)
@[go_sem] theorem hamL_len (q m : Nat) : (hamL q m).length = (colN q m).length := by simp [hamL]
abbrev sn (l : List Int) : D := .v (.string (strOfNums l))
@[go_sem] theorem str_46 : (ByteArray.mk #[46]) = strOfNums [46] := rfl
@[go_sem] theorem str_nil : (ByteArray.mk #[]) = strOfNums [] := rfl
@[go_sem] theorem str_45 : (ByteArray.mk #[45]) = strOfNums [45] := rfl
theorem str_app (a b : List Int) : strOfNums a ++ strOfNums b = strOfNums (a ++ b) := by
  apply ByteArray.ext
  simp [strOfNums]
@[go_sem] theorem eqsA_addN {a b : List Int} (h : a.length + b.length < 1048577) : eqsA .add (.d (.v (.string (strOfNums a)))) (.d (.v (.string (strOfNums b)))) = some (.d (.v (.string (strOfNums (a ++ b))))) := by
  have h2 : (strOfNums a).size + (strOfNums b).size ≤ maxLen := by
    rw [strOfNums_size, strOfNums_size]; exact Nat.le_trans (Nat.le_of_lt h) (by decide)
  simp only [eqsA]
  rw [if_pos h2, str_app]
@[go_sem] theorem eqsA_neq_self {s : ByteArray} : eqsA .neq (.d (.v (.string s))) (.d (.v (.string s))) = some (.d (.v (.bool false))) := by simp [eqsA]
def sgB (m : Int) : List Int := (signsM m).map fun d => 48 + d
def txN (t : List Int) : Nat → List Int
  | 0 => []
  | i + 1 => txN t i ++ ((if 0 < i then [46] else []) ++ sgB (t.getD i 0))
theorem sgB_len (m : Int) : (sgB m).length ≤ 4 := by
  have := signsN_len m 4
  simpa [sgB] using this
theorem txN_len (t : List Int) : ∀ i : Nat, (txN t i).length ≤ 5 * i
  | 0 => by simp [txN]
  | i + 1 => by
    have h1 := txN_len t i
    have h2 := sgB_len (t.getD i 0)
    rw [txN, List.length_append, List.length_append]
    split <;> simp only [List.length_cons, List.length_nil] <;> omega
theorem signs_lt (m : Int) (j : Nat) : ∀ i, i < (signsN m j).length → 0 ≤ (signsN m j).getD i 0 ∧ (signsN m j).getD i 0 < j := fun i hi => by
  have h := mem_getD hi
  unfold signsN at h
  obtain ⟨k, hk, e⟩ := List.mem_map.1 h
  have hk2 := List.mem_range.1 (List.mem_filter.1 hk).1
  unfold signsN
  rw [← e]; omega
theorem d_spec_l01Dec (n : Int) (h0 : 0 ≤ n) (h1 : n < 10) : Den PA f_spec_l01Dec [.d (di n)] [.any] (.d (sn [48 + n])) := by
  refine den_go [] l_spec_l01Dec ?_
  repeat' (first | simp -implicitDefEqProofs (maxSteps := 1000000) (disch := (first | omega | (simp only [go_sem] <;> omega) | fail)) only [go_sem, ints, bools, mat, reduceIte, Nat.reduceEqDiff, Nat.reduceAdd, Nat.reduceBEq, Nat.reduceMul, Nat.reduceLeDiff, Nat.reduceLT, Nat.reduceMod, Nat.reduceDiv, Nat.reduceSub, reduceCtorEq, c_spec_l01Dec] | ((first | refine goIf_b (fun h => ?_) (fun h => ?_) | refine goG_b (fun h => ?_) (fun h => ?_) | refine goTG_b (fun h => ?_) (fun h => ?_) | refine goOG_b (fun h => ?_) (fun h => ?_)) <;> ((try simp only [Bool.not_eq_true', Bool.not_eq_false'] at h); (try simp only [h]); (try simp only [decide_eq_true_eq, decide_eq_false_iff_not, bne_iff_ne, bne_eq_false_iff_eq, beq_iff_eq, beq_eq_false_iff_ne, ne_eq, Int.not_lt, Int.not_le, Bool.and_eq_true, Bool.and_eq_false_iff, Bool.or_eq_true, Bool.or_eq_false_iff] at h)) <;> (try (exfalso; omega))))
theorem d_spec_l07Text (t : List Int) (h8 : t.length ≤ 8) (ht : ∀ i, i < t.length → 1 ≤ t.getD i 0 ∧ t.getD i 0 < 16) : Den PA f_spec_l07Text [.d (ints t)] [.any] (.d (sn (txN t t.length))) := by
  refine den_go [] l_spec_l07Text ?_
  repeat' (first | simp -implicitDefEqProofs (maxSteps := 1000000) (disch := (first | omega | (simp only [go_sem] <;> omega) | fail)) only [go_sem, ints, bools, mat, reduceIte, Nat.reduceEqDiff, Nat.reduceAdd, Nat.reduceBEq, Nat.reduceMul, Nat.reduceLeDiff, Nat.reduceLT, Nat.reduceMod, Nat.reduceDiv, Nat.reduceSub, reduceCtorEq, c_spec_l07Text] | ((first | refine goIf_b (fun h => ?_) (fun h => ?_) | refine goG_b (fun h => ?_) (fun h => ?_) | refine goTG_b (fun h => ?_) (fun h => ?_) | refine goOG_b (fun h => ?_) (fun h => ?_)) <;> ((try simp only [Bool.not_eq_true', Bool.not_eq_false'] at h); (try simp only [h]); (try simp only [decide_eq_true_eq, decide_eq_false_iff_not, bne_iff_ne, bne_eq_false_iff_eq, beq_iff_eq, beq_eq_false_iff_ne, ne_eq, Int.not_lt, Int.not_le, Bool.and_eq_true, Bool.and_eq_false_iff, Bool.or_eq_true, Bool.or_eq_false_iff] at h)) <;> (try (exfalso; omega))))
  refine go_loop (fun (i : Nat) => ⟨[(0, .d (ints t)), (3, .d (sn (txN t i))), (8, .d (di t.length)), (9, .d (di i))], []⟩) (fun i => i ≤ t.length) (fun i => t.length - i) 0 ?_ ?_ ?_
  · (simp -implicitDefEqProofs (maxSteps := 1000000) (disch := (first | omega | (simp only [go_sem] <;> omega) | fail)) only [go_sem, ints, bools, mat, reduceIte, Nat.reduceEqDiff, Nat.reduceAdd, Nat.reduceBEq, Nat.reduceMul, Nat.reduceLeDiff, Nat.reduceLT, Nat.reduceMod, Nat.reduceDiv, Nat.reduceSub, reduceCtorEq] <;> rfl)
  · exact Nat.zero_le _
  · rintro i hi J hJ
    have htl := txN_len t i
    by_cases hit : i < t.length
    · have hti := ht i hit
      have hsl : (signsM (t.getD i 0)).length ≤ 4 := signsN_len (t.getD i 0) 4
      have hlt : ∀ k, k < (signsM (t.getD i 0)).length → 0 ≤ (signsM (t.getD i 0)).getD k 0 ∧ (signsM (t.getD i 0)).getD k 0 < (4 : Nat) := signs_lt (t.getD i 0) 4
      have hsB : sgB (t.getD i 0) = (signsM (t.getD i 0)).map fun d => 48 + d := rfl
      have hsig := d_spec_l07Signs (t.getD i 0) (by omega) (by omega)
      generalize signsM (t.getD i 0) = S at *
      by_cases h0 : 0 < i
      · repeat' (first | simp -implicitDefEqProofs (maxSteps := 1000000) (disch := (first | omega | (simp only [go_sem] <;> omega) | fail)) only [go_sem, ints, bools, mat, reduceIte, Nat.reduceEqDiff, Nat.reduceAdd, Nat.reduceBEq, Nat.reduceMul, Nat.reduceLeDiff, Nat.reduceLT, Nat.reduceMod, Nat.reduceDiv, Nat.reduceSub, reduceCtorEq] | ((first | refine goIf_b (fun h => ?_) (fun h => ?_) | refine goG_b (fun h => ?_) (fun h => ?_) | refine goTG_b (fun h => ?_) (fun h => ?_) | refine goOG_b (fun h => ?_) (fun h => ?_)) <;> ((try simp only [Bool.not_eq_true', Bool.not_eq_false'] at h); (try simp only [h]); (try simp only [decide_eq_true_eq, decide_eq_false_iff_not, bne_iff_ne, bne_eq_false_iff_eq, beq_iff_eq, beq_eq_false_iff_ne, ne_eq, Int.not_lt, Int.not_le, Bool.and_eq_true, Bool.and_eq_false_iff, Bool.or_eq_true, Bool.or_eq_false_iff] at h)) <;> (try (exfalso; omega))))
        first | refine goC_call [.r] (hsig) ?_ | refine goOC_call [.r] (hsig) ?_
        repeat' (first | simp -implicitDefEqProofs (maxSteps := 1000000) (disch := (first | omega | (simp only [go_sem] <;> omega) | fail)) only [go_sem, ints, bools, mat, reduceIte, Nat.reduceEqDiff, Nat.reduceAdd, Nat.reduceBEq, Nat.reduceMul, Nat.reduceLeDiff, Nat.reduceLT, Nat.reduceMod, Nat.reduceDiv, Nat.reduceSub, reduceCtorEq] | ((first | refine goIf_b (fun h => ?_) (fun h => ?_) | refine goG_b (fun h => ?_) (fun h => ?_) | refine goTG_b (fun h => ?_) (fun h => ?_) | refine goOG_b (fun h => ?_) (fun h => ?_)) <;> ((try simp only [Bool.not_eq_true', Bool.not_eq_false'] at h); (try simp only [h]); (try simp only [decide_eq_true_eq, decide_eq_false_iff_not, bne_iff_ne, bne_eq_false_iff_eq, beq_iff_eq, beq_eq_false_iff_ne, ne_eq, Int.not_lt, Int.not_le, Bool.and_eq_true, Bool.and_eq_false_iff, Bool.or_eq_true, Bool.or_eq_false_iff] at h)) <;> (try (exfalso; omega))))
        refine go_loop (fun (k : Nat) => ⟨[(0, .d (ints t)), (3, .d (sn (txN t i ++ [46] ++ (S.take k).map fun d => 48 + d))), (5, .sl 0 0 S.length 1), (8, .d (di t.length)), (9, .d (di i)), (22, .d (di S.length)), (23, .d (di k))], [some (.dat 1 (S.map di))]⟩) (fun k => k ≤ S.length) (fun k => S.length - k) 0 ?_ ?_ ?_
        · (simp -implicitDefEqProofs (maxSteps := 1000000) (disch := (first | omega | (simp only [go_sem] <;> omega) | fail)) only [go_sem, ints, bools, mat, reduceIte, Nat.reduceEqDiff, Nat.reduceAdd, Nat.reduceBEq, Nat.reduceMul, Nat.reduceLeDiff, Nat.reduceLT, Nat.reduceMod, Nat.reduceDiv, Nat.reduceSub, reduceCtorEq] <;> rfl)
        · exact Nat.zero_le _
        · rintro k hk J2 hJ2
          by_cases hks : k < S.length
          · have hsg := hlt k hks
            repeat' (first | simp -implicitDefEqProofs (maxSteps := 1000000) (disch := (first | omega | (simp only [go_sem] <;> omega) | fail)) only [go_sem, ints, bools, mat, reduceIte, Nat.reduceEqDiff, Nat.reduceAdd, Nat.reduceBEq, Nat.reduceMul, Nat.reduceLeDiff, Nat.reduceLT, Nat.reduceMod, Nat.reduceDiv, Nat.reduceSub, reduceCtorEq] | ((first | refine goIf_b (fun h => ?_) (fun h => ?_) | refine goG_b (fun h => ?_) (fun h => ?_) | refine goTG_b (fun h => ?_) (fun h => ?_) | refine goOG_b (fun h => ?_) (fun h => ?_)) <;> ((try simp only [Bool.not_eq_true', Bool.not_eq_false'] at h); (try simp only [h]); (try simp only [decide_eq_true_eq, decide_eq_false_iff_not, bne_iff_ne, bne_eq_false_iff_eq, beq_iff_eq, beq_eq_false_iff_ne, ne_eq, Int.not_lt, Int.not_le, Bool.and_eq_true, Bool.and_eq_false_iff, Bool.or_eq_true, Bool.or_eq_false_iff] at h)) <;> (try (exfalso; omega))))
            first | refine goC_call [.r] (d_spec_l01Dec (S.getD k 0) hsg.1 (by omega)) ?_ | refine goOC_call [.r] (d_spec_l01Dec (S.getD k 0) hsg.1 (by omega)) ?_
            repeat' (first | simp -implicitDefEqProofs (maxSteps := 1000000) (disch := (first | omega | (simp only [go_sem] <;> omega) | fail)) only [go_sem, ints, bools, mat, reduceIte, Nat.reduceEqDiff, Nat.reduceAdd, Nat.reduceBEq, Nat.reduceMul, Nat.reduceLeDiff, Nat.reduceLT, Nat.reduceMod, Nat.reduceDiv, Nat.reduceSub, reduceCtorEq] | ((first | refine goIf_b (fun h => ?_) (fun h => ?_) | refine goG_b (fun h => ?_) (fun h => ?_) | refine goTG_b (fun h => ?_) (fun h => ?_) | refine goOG_b (fun h => ?_) (fun h => ?_)) <;> ((try simp only [Bool.not_eq_true', Bool.not_eq_false'] at h); (try simp only [h]); (try simp only [decide_eq_true_eq, decide_eq_false_iff_not, bne_iff_ne, bne_eq_false_iff_eq, beq_iff_eq, beq_eq_false_iff_ne, ne_eq, Int.not_lt, Int.not_le, Bool.and_eq_true, Bool.and_eq_false_iff, Bool.or_eq_true, Bool.or_eq_false_iff] at h)) <;> (try (exfalso; omega))))
            refine hJ2 (k + 1) (by omega) (by omega) _ ?_
            simp -implicitDefEqProofs (maxSteps := 1000000) (disch := (first | omega | (simp only [go_sem] <;> omega) | fail)) only [go_sem, ints, bools, mat, reduceIte, Nat.reduceEqDiff, Nat.reduceAdd, Nat.reduceBEq, Nat.reduceMul, Nat.reduceLeDiff, Nat.reduceLT, Nat.reduceMod, Nat.reduceDiv, Nat.reduceSub, reduceCtorEq]
            rw [take_one _ hks]
            simp
          · have : k = S.length := by omega
            subst this
            repeat' (first | simp -implicitDefEqProofs (maxSteps := 1000000) (disch := (first | omega | (simp only [go_sem] <;> omega) | fail)) only [go_sem, ints, bools, mat, reduceIte, Nat.reduceEqDiff, Nat.reduceAdd, Nat.reduceBEq, Nat.reduceMul, Nat.reduceLeDiff, Nat.reduceLT, Nat.reduceMod, Nat.reduceDiv, Nat.reduceSub, reduceCtorEq] | ((first | refine goIf_b (fun h => ?_) (fun h => ?_) | refine goG_b (fun h => ?_) (fun h => ?_) | refine goTG_b (fun h => ?_) (fun h => ?_) | refine goOG_b (fun h => ?_) (fun h => ?_)) <;> ((try simp only [Bool.not_eq_true', Bool.not_eq_false'] at h); (try simp only [h]); (try simp only [decide_eq_true_eq, decide_eq_false_iff_not, bne_iff_ne, bne_eq_false_iff_eq, beq_iff_eq, beq_eq_false_iff_ne, ne_eq, Int.not_lt, Int.not_le, Bool.and_eq_true, Bool.and_eq_false_iff, Bool.or_eq_true, Bool.or_eq_false_iff] at h)) <;> (try (exfalso; omega))))
            refine hJ (i + 1) (by omega) (by omega) _ ?_
            simp -implicitDefEqProofs (maxSteps := 1000000) (disch := (first | omega | (simp only [go_sem] <;> omega) | fail)) only [go_sem, ints, bools, mat, reduceIte, Nat.reduceEqDiff, Nat.reduceAdd, Nat.reduceBEq, Nat.reduceMul, Nat.reduceLeDiff, Nat.reduceLT, Nat.reduceMod, Nat.reduceDiv, Nat.reduceSub, reduceCtorEq]
            rw [txN, if_pos h0, hsB]
            simp
      · repeat' (first | simp -implicitDefEqProofs (maxSteps := 1000000) (disch := (first | omega | (simp only [go_sem] <;> omega) | fail)) only [go_sem, ints, bools, mat, reduceIte, Nat.reduceEqDiff, Nat.reduceAdd, Nat.reduceBEq, Nat.reduceMul, Nat.reduceLeDiff, Nat.reduceLT, Nat.reduceMod, Nat.reduceDiv, Nat.reduceSub, reduceCtorEq] | ((first | refine goIf_b (fun h => ?_) (fun h => ?_) | refine goG_b (fun h => ?_) (fun h => ?_) | refine goTG_b (fun h => ?_) (fun h => ?_) | refine goOG_b (fun h => ?_) (fun h => ?_)) <;> ((try simp only [Bool.not_eq_true', Bool.not_eq_false'] at h); (try simp only [h]); (try simp only [decide_eq_true_eq, decide_eq_false_iff_not, bne_iff_ne, bne_eq_false_iff_eq, beq_iff_eq, beq_eq_false_iff_ne, ne_eq, Int.not_lt, Int.not_le, Bool.and_eq_true, Bool.and_eq_false_iff, Bool.or_eq_true, Bool.or_eq_false_iff] at h)) <;> (try (exfalso; omega))))
        first | refine goC_call [.r] (hsig) ?_ | refine goOC_call [.r] (hsig) ?_
        repeat' (first | simp -implicitDefEqProofs (maxSteps := 1000000) (disch := (first | omega | (simp only [go_sem] <;> omega) | fail)) only [go_sem, ints, bools, mat, reduceIte, Nat.reduceEqDiff, Nat.reduceAdd, Nat.reduceBEq, Nat.reduceMul, Nat.reduceLeDiff, Nat.reduceLT, Nat.reduceMod, Nat.reduceDiv, Nat.reduceSub, reduceCtorEq] | ((first | refine goIf_b (fun h => ?_) (fun h => ?_) | refine goG_b (fun h => ?_) (fun h => ?_) | refine goTG_b (fun h => ?_) (fun h => ?_) | refine goOG_b (fun h => ?_) (fun h => ?_)) <;> ((try simp only [Bool.not_eq_true', Bool.not_eq_false'] at h); (try simp only [h]); (try simp only [decide_eq_true_eq, decide_eq_false_iff_not, bne_iff_ne, bne_eq_false_iff_eq, beq_iff_eq, beq_eq_false_iff_ne, ne_eq, Int.not_lt, Int.not_le, Bool.and_eq_true, Bool.and_eq_false_iff, Bool.or_eq_true, Bool.or_eq_false_iff] at h)) <;> (try (exfalso; omega))))
        refine go_loop (fun (k : Nat) => ⟨[(0, .d (ints t)), (3, .d (sn (txN t i ++ (S.take k).map fun d => 48 + d))), (5, .sl 0 0 S.length 1), (8, .d (di t.length)), (9, .d (di i)), (22, .d (di S.length)), (23, .d (di k))], [some (.dat 1 (S.map di))]⟩) (fun k => k ≤ S.length) (fun k => S.length - k) 0 ?_ ?_ ?_
        · (simp -implicitDefEqProofs (maxSteps := 1000000) (disch := (first | omega | (simp only [go_sem] <;> omega) | fail)) only [go_sem, ints, bools, mat, reduceIte, Nat.reduceEqDiff, Nat.reduceAdd, Nat.reduceBEq, Nat.reduceMul, Nat.reduceLeDiff, Nat.reduceLT, Nat.reduceMod, Nat.reduceDiv, Nat.reduceSub, reduceCtorEq] <;> rfl)
        · exact Nat.zero_le _
        · rintro k hk J2 hJ2
          by_cases hks : k < S.length
          · have hsg := hlt k hks
            repeat' (first | simp -implicitDefEqProofs (maxSteps := 1000000) (disch := (first | omega | (simp only [go_sem] <;> omega) | fail)) only [go_sem, ints, bools, mat, reduceIte, Nat.reduceEqDiff, Nat.reduceAdd, Nat.reduceBEq, Nat.reduceMul, Nat.reduceLeDiff, Nat.reduceLT, Nat.reduceMod, Nat.reduceDiv, Nat.reduceSub, reduceCtorEq] | ((first | refine goIf_b (fun h => ?_) (fun h => ?_) | refine goG_b (fun h => ?_) (fun h => ?_) | refine goTG_b (fun h => ?_) (fun h => ?_) | refine goOG_b (fun h => ?_) (fun h => ?_)) <;> ((try simp only [Bool.not_eq_true', Bool.not_eq_false'] at h); (try simp only [h]); (try simp only [decide_eq_true_eq, decide_eq_false_iff_not, bne_iff_ne, bne_eq_false_iff_eq, beq_iff_eq, beq_eq_false_iff_ne, ne_eq, Int.not_lt, Int.not_le, Bool.and_eq_true, Bool.and_eq_false_iff, Bool.or_eq_true, Bool.or_eq_false_iff] at h)) <;> (try (exfalso; omega))))
            first | refine goC_call [.r] (d_spec_l01Dec (S.getD k 0) hsg.1 (by omega)) ?_ | refine goOC_call [.r] (d_spec_l01Dec (S.getD k 0) hsg.1 (by omega)) ?_
            repeat' (first | simp -implicitDefEqProofs (maxSteps := 1000000) (disch := (first | omega | (simp only [go_sem] <;> omega) | fail)) only [go_sem, ints, bools, mat, reduceIte, Nat.reduceEqDiff, Nat.reduceAdd, Nat.reduceBEq, Nat.reduceMul, Nat.reduceLeDiff, Nat.reduceLT, Nat.reduceMod, Nat.reduceDiv, Nat.reduceSub, reduceCtorEq] | ((first | refine goIf_b (fun h => ?_) (fun h => ?_) | refine goG_b (fun h => ?_) (fun h => ?_) | refine goTG_b (fun h => ?_) (fun h => ?_) | refine goOG_b (fun h => ?_) (fun h => ?_)) <;> ((try simp only [Bool.not_eq_true', Bool.not_eq_false'] at h); (try simp only [h]); (try simp only [decide_eq_true_eq, decide_eq_false_iff_not, bne_iff_ne, bne_eq_false_iff_eq, beq_iff_eq, beq_eq_false_iff_ne, ne_eq, Int.not_lt, Int.not_le, Bool.and_eq_true, Bool.and_eq_false_iff, Bool.or_eq_true, Bool.or_eq_false_iff] at h)) <;> (try (exfalso; omega))))
            refine hJ2 (k + 1) (by omega) (by omega) _ ?_
            simp -implicitDefEqProofs (maxSteps := 1000000) (disch := (first | omega | (simp only [go_sem] <;> omega) | fail)) only [go_sem, ints, bools, mat, reduceIte, Nat.reduceEqDiff, Nat.reduceAdd, Nat.reduceBEq, Nat.reduceMul, Nat.reduceLeDiff, Nat.reduceLT, Nat.reduceMod, Nat.reduceDiv, Nat.reduceSub, reduceCtorEq]
            rw [take_one _ hks]
            simp
          · have : k = S.length := by omega
            subst this
            repeat' (first | simp -implicitDefEqProofs (maxSteps := 1000000) (disch := (first | omega | (simp only [go_sem] <;> omega) | fail)) only [go_sem, ints, bools, mat, reduceIte, Nat.reduceEqDiff, Nat.reduceAdd, Nat.reduceBEq, Nat.reduceMul, Nat.reduceLeDiff, Nat.reduceLT, Nat.reduceMod, Nat.reduceDiv, Nat.reduceSub, reduceCtorEq] | ((first | refine goIf_b (fun h => ?_) (fun h => ?_) | refine goG_b (fun h => ?_) (fun h => ?_) | refine goTG_b (fun h => ?_) (fun h => ?_) | refine goOG_b (fun h => ?_) (fun h => ?_)) <;> ((try simp only [Bool.not_eq_true', Bool.not_eq_false'] at h); (try simp only [h]); (try simp only [decide_eq_true_eq, decide_eq_false_iff_not, bne_iff_ne, bne_eq_false_iff_eq, beq_iff_eq, beq_eq_false_iff_ne, ne_eq, Int.not_lt, Int.not_le, Bool.and_eq_true, Bool.and_eq_false_iff, Bool.or_eq_true, Bool.or_eq_false_iff] at h)) <;> (try (exfalso; omega))))
            refine hJ (i + 1) (by omega) (by omega) _ ?_
            simp -implicitDefEqProofs (maxSteps := 1000000) (disch := (first | omega | (simp only [go_sem] <;> omega) | fail)) only [go_sem, ints, bools, mat, reduceIte, Nat.reduceEqDiff, Nat.reduceAdd, Nat.reduceBEq, Nat.reduceMul, Nat.reduceLeDiff, Nat.reduceLT, Nat.reduceMod, Nat.reduceDiv, Nat.reduceSub, reduceCtorEq]
            rw [txN, if_neg h0, hsB]
            simp
    · have : i = t.length := by omega
      subst this
      repeat' (first | simp -implicitDefEqProofs (maxSteps := 1000000) (disch := (first | omega | (simp only [go_sem] <;> omega) | fail)) only [go_sem, ints, bools, mat, reduceIte, Nat.reduceEqDiff, Nat.reduceAdd, Nat.reduceBEq, Nat.reduceMul, Nat.reduceLeDiff, Nat.reduceLT, Nat.reduceMod, Nat.reduceDiv, Nat.reduceSub, reduceCtorEq] | ((first | refine goIf_b (fun h => ?_) (fun h => ?_) | refine goG_b (fun h => ?_) (fun h => ?_) | refine goTG_b (fun h => ?_) (fun h => ?_) | refine goOG_b (fun h => ?_) (fun h => ?_)) <;> ((try simp only [Bool.not_eq_true', Bool.not_eq_false'] at h); (try simp only [h]); (try simp only [decide_eq_true_eq, decide_eq_false_iff_not, bne_iff_ne, bne_eq_false_iff_eq, beq_iff_eq, beq_eq_false_iff_ne, ne_eq, Int.not_lt, Int.not_le, Bool.and_eq_true, Bool.and_eq_false_iff, Bool.or_eq_true, Bool.or_eq_false_iff] at h)) <;> (try (exfalso; omega))))
def jnI : List (List Int) → List Int
  | [] => []
  | x :: r => x ++ (r.map ([46] ++ ·)).flatten
theorem jnI_snoc {L : List (List Int)} (h : L ≠ []) (y : List Int) : jnI (L ++ [y]) = jnI L ++ ([46] ++ y) := by
  cases L with
  | nil => exact absurd rfl h
  | cons x r => simp [jnI]
theorem jn_tx (t : List Int) : ∀ i, i ≤ t.length → jnI ((t.take i).map sgB) = txN t i
  | 0, _ => rfl
  | i + 1, h => by
    rw [take_one _ (by omega), List.map_append, txN, ← jn_tx t i (by omega)]
    by_cases h0 : 0 < i
    · rw [if_pos h0]
      exact jnI_snoc (by intro e; have := congrArg List.length e; rw [List.length_map, List.length_take] at this; simp only [List.length_nil] at this; omega) _
    · rw [if_neg h0]
      have : i = 0 := by omega
      subst this
      simp [jnI]
@[go_sem] theorem lnsA_n {l : List Int} : lnsA (.d (.v (.string (strOfNums l)))) = some (.d (.v (.int .i64 l.length))) := by simp [lnsA, strOfNums_size]
theorem str_ext (l : List Int) (a b : Nat) : (strOfNums l).extract a b = strOfNums ((l.take b).drop a) := by
  apply ByteArray.ext
  simp [strOfNums, ByteArray.data_extract, List.map_drop, List.map_take, List.drop_take]
@[go_sem] theorem sltA_n {tm : List (Nat × AV)} {l : List Int} {lo hi : Option Opd} : sltA tm (.d (.v (.string (strOfNums l)))) lo hi = (bndA tm l.length lo hi).map fun p => .d (.v (.string (strOfNums ((l.take p.2).drop p.1)))) := by
  simp only [sltA, strOfNums_size, str_ext]
theorem ixtA_n {l : List Int} (hl : BY l) {i : Nat} (h : i < l.length) : ixtA (.d (.v (.string (strOfNums l)))) (i : Int) = some (.d (dy (l.getD i 0))) := by
  have h1 : i < (strOfNums l).size := by rw [strOfNums_size]; exact h
  have h2 : (strOfNums l)[i]? = some (UInt8.ofNat (l.getD i 0).toNat) := by
    rw [getElem?_pos (strOfNums l) i h1]
    congr 1
    show (strOfNums l).data[i] = _
    simp [strOfNums, h]
  simp only [ixtA]
  rw [if_pos (by omega), Int.toNat_natCast, h2, Option.map_some, byte_nat (hl _ (mem_getD h))]
theorem xtsA_t {l : List Int} {c : Int} (hl : BY l) (hc : 0 ≤ c ∧ c < 256) : xtsA true (.d (.v (.string (strOfNums l)))) (.d (.v (.int .u8 c))) = some (.d (di (fxL c l))) := by
  simp only [xtsA, if_true, fx_n hl hc]
theorem xtsA_f {l : List Int} {c : Int} (hl : BY l) (hc : 0 ≤ c ∧ c < 256) : xtsA false (.d (.v (.string (strOfNums l)))) (.d (.v (.int .u8 c))) = some (.d (di (l.count c : Nat))) := by
  simp only [xtsA, Bool.false_eq_true, if_false, cnt_n hl hc]
theorem BY.drop {l : List Int} (h : BY l) (n : Nat) : BY (l.drop n) := fun x hx => h x (List.mem_of_mem_drop hx)
def spL : List Int → List (List Int)
  | [] => [[]]
  | x :: r => if x = 46 then [] :: spL r else match spL r with
    | p :: ps => (x :: p) :: ps
    | [] => [[x]]
theorem spL_pos (l : List Int) : 0 < (spL l).length := by
  cases l with
  | nil => simp [spL]
  | cons x r =>
    rw [spL]
    split
    · simp
    · split <;> simp
theorem spL_no : ∀ {p : List Int}, 46 ∉ p → spL p = [p]
  | [], _ => rfl
  | x :: r, h => by
    simp only [List.mem_cons, not_or] at h
    rw [spL, if_neg (fun e => h.1 e.symm), spL_no h.2]
theorem spL_cut : ∀ {p : List Int} (r : List Int), 46 ∉ p → spL (p ++ 46 :: r) = p :: spL r
  | [], r, _ => by rw [List.nil_append, spL, if_pos rfl]
  | x :: p, r, h => by
    simp only [List.mem_cons, not_or] at h
    rw [List.cons_append, spL, if_neg (fun e => h.1 e.symm), spL_cut r h.2]
theorem spL_count : ∀ l : List Int, (spL l).length = l.count 46 + 1
  | [] => rfl
  | x :: r => by
    have ih := spL_count r
    rw [spL]
    by_cases h : x = 46
    · subst h; simp [ih]
    · rw [if_neg h, List.count_cons_of_ne h]
      cases hs : spL r with
      | nil => have := spL_pos r; rw [hs] at this; simp at this
      | cons p ps => rw [hs] at ih; simpa using ih
theorem spL_jn (l : List Int) : jnI (spL l) = l := by
  induction l with
  | nil => rfl
  | cons x r ih =>
    have hp := spL_pos r
    rw [spL]
    cases hs : spL r with
    | nil => rw [hs] at hp; simp at hp
    | cons p ps =>
      rw [hs] at ih
      by_cases h : x = 46
      · subst h
        rw [if_pos rfl]
        simp only [jnI, List.map_cons, List.flatten_cons, List.nil_append, List.cons_append] at ih ⊢
        rw [← ih]
      · rw [if_neg h]
        simp only [jnI, List.cons_append] at ih ⊢
        rw [ih]
theorem jn_spL : ∀ {ps : List (List Int)}, ps ≠ [] → (∀ p, p ∈ ps → 46 ∉ p) → spL (jnI ps) = ps
  | [], h, _ => absurd rfl h
  | [p], _, hp => by simp only [jnI, List.map_nil, List.flatten_nil, List.append_nil]; exact spL_no (hp p (by simp))
  | p :: q :: r, _, hp => by
    have ih := jn_spL (ps := q :: r) (by simp) (fun x hx => hp x (by simp at hx ⊢; exact .inr hx))
    have e : jnI (p :: q :: r) = p ++ 46 :: jnI (q :: r) := by simp [jnI]
    rw [e, spL_cut _ (hp p (by simp)), ih]
theorem spL_mem {l : List Int} (h : BY l) : ∀ p, p ∈ spL l → BY p ∧ p.length ≤ l.length := by
  induction l with
  | nil => intro p hp; simp [spL] at hp; subst hp; exact ⟨fun x hx => by simp at hx, by simp⟩
  | cons x r ih =>
    intro p hp
    have hpos := spL_pos r
    rw [spL] at hp
    cases hs : spL r with
    | nil => rw [hs] at hpos; simp at hpos
    | cons q qs =>
      rw [hs] at hp ih
      split at hp
      · rcases List.mem_cons.1 hp with rfl | hp
        · exact ⟨fun x hx => by simp at hx, by simp⟩
        · have := ih h.tail p hp; exact ⟨this.1, by simp; omega⟩
      · rcases List.mem_cons.1 hp with rfl | hp
        · have := ih h.tail q (by simp)
          exact ⟨fun y hy => by
            rcases List.mem_cons.1 hy with rfl | hy
            · exact h _ (by simp)
            · exact this.1 y hy, by simp; omega⟩
        · have := ih h.tail p (by simp [hp]); exact ⟨this.1, by simp; omega⟩
theorem eqsA_ne {l m : List Int} (h : l.length ≠ m.length) : eqsA .eql (.d (.v (.string (strOfNums l)))) (.d (.v (.string (strOfNums m)))) = some (.d (.v (.bool false))) := by
  have h1 : ((strOfNums l).toList == (strOfNums m).toList) = false := by
    rw [beq_eq_false_iff_ne]
    intro e
    rw [ByteArray.toList_eq, ByteArray.toList_eq, strOfNums_data, strOfNums_data] at e
    have := congrArg List.length e
    simp at this; exact h this
  simp only [eqsA, h1]
theorem eqsA_n {l m : List Int} (hl : BY l) (hm : BY m) : eqsA .eql (.d (.v (.string (strOfNums l)))) (.d (.v (.string (strOfNums m)))) = some (.d (.v (.bool (decide (l = m))))) := by
  have h1 : ((strOfNums l).toList == (strOfNums m).toList) = decide (l = m) := by
    rw [Bool.eq_iff_iff, beq_iff_eq, decide_eq_true_eq, ByteArray.toList_eq, ByteArray.toList_eq]
    constructor
    · intro e; exact str_inj hl hm (by cases h1 : strOfNums l; cases h2 : strOfNums m; rw [h1, h2] at e; congr; exact Array.toList_inj.1 e)
    · rintro rfl; rfl
  simp only [eqsA, h1]
theorem d_stringslite_IndexByte (l : List Int) (c : Int) (hl : BY l) (hc : 0 ≤ c ∧ c < 256) : Den PA f_internal_stringslite_IndexByte [.d (sn l), .d (dy c)] [.any, .any] (.d (di (fxL c l))) := by
  have hx := xtsA_t hl hc
  refine den_go [] l_internal_stringslite_IndexByte ?_
  repeat' (first | simp -implicitDefEqProofs (maxSteps := 1000000) (disch := (first | omega | (simp only [go_sem] <;> omega) | fail)) only [go_sem, ints, bools, mat, reduceIte, Nat.reduceEqDiff, Nat.reduceAdd, Nat.reduceBEq, Nat.reduceMul, Nat.reduceLeDiff, Nat.reduceLT, Nat.reduceMod, Nat.reduceDiv, Nat.reduceSub, reduceCtorEq, c_internal_stringslite_IndexByte, hx] | ((first | refine goIf_b (fun h => ?_) (fun h => ?_) | refine goG_b (fun h => ?_) (fun h => ?_) | refine goTG_b (fun h => ?_) (fun h => ?_) | refine goOG_b (fun h => ?_) (fun h => ?_)) <;> ((try simp only [Bool.not_eq_true', Bool.not_eq_false'] at h); (try simp only [h]); (try simp only [decide_eq_true_eq, decide_eq_false_iff_not, bne_iff_ne, bne_eq_false_iff_eq, beq_iff_eq, beq_eq_false_iff_ne, ne_eq, Int.not_lt, Int.not_le, Bool.and_eq_true, Bool.and_eq_false_iff, Bool.or_eq_true, Bool.or_eq_false_iff] at h)) <;> (try (exfalso; omega))))
theorem BY1 {c : Int} (hc : 0 ≤ c ∧ c < 256) : BY [c] := fun x hx => by simp at hx; subst hx; exact hc
theorem d_stringslite_Index (l : List Int) (c : Int) (hl : BY l) (hc : 0 ≤ c ∧ c < 256) : Den PA f_internal_stringslite_Index [.d (sn l), .d (sn [c])] [.any, .any] (.d (di (fxL c l))) := by
  have hi : ixtA (.d (.v (.string (strOfNums [c])))) 0 = some (.d (dy c)) := ixtA_n (BY1 hc) (i := 0) (by simp)
  refine den_go [] l_internal_stringslite_Index ?_
  have hne := eqsA_n (BY1 hc) hl
  by_cases h1 : [c] = l
  · subst h1
    rw [decide_eq_true rfl] at hne
    repeat' (first | simp -implicitDefEqProofs (maxSteps := 1000000) (disch := (first | omega | (simp only [go_sem] <;> omega) | fail)) only [go_sem, ints, bools, mat, reduceIte, Nat.reduceEqDiff, Nat.reduceAdd, Nat.reduceBEq, Nat.reduceMul, Nat.reduceLeDiff, Nat.reduceLT, Nat.reduceMod, Nat.reduceDiv, Nat.reduceSub, reduceCtorEq, c_internal_stringslite_Index, hi, hne] | ((first | refine goIf_b (fun h => ?_) (fun h => ?_) | refine goG_b (fun h => ?_) (fun h => ?_) | refine goTG_b (fun h => ?_) (fun h => ?_) | refine goOG_b (fun h => ?_) (fun h => ?_)) <;> ((try simp only [Bool.not_eq_true', Bool.not_eq_false'] at h); (try simp only [h]); (try simp only [decide_eq_true_eq, decide_eq_false_iff_not, bne_iff_ne, bne_eq_false_iff_eq, beq_iff_eq, beq_eq_false_iff_ne, ne_eq, Int.not_lt, Int.not_le, Bool.and_eq_true, Bool.and_eq_false_iff, Bool.or_eq_true, Bool.or_eq_false_iff] at h)) <;> (try (exfalso; omega))))
    simp [fxL]
  · rw [decide_eq_false h1] at hne
    repeat' (first | simp -implicitDefEqProofs (maxSteps := 1000000) (disch := (first | omega | (simp only [go_sem] <;> omega) | fail)) only [go_sem, ints, bools, mat, reduceIte, Nat.reduceEqDiff, Nat.reduceAdd, Nat.reduceBEq, Nat.reduceMul, Nat.reduceLeDiff, Nat.reduceLT, Nat.reduceMod, Nat.reduceDiv, Nat.reduceSub, reduceCtorEq, c_internal_stringslite_Index, hi, hne] | ((first | refine goIf_b (fun h => ?_) (fun h => ?_) | refine goG_b (fun h => ?_) (fun h => ?_) | refine goTG_b (fun h => ?_) (fun h => ?_) | refine goOG_b (fun h => ?_) (fun h => ?_)) <;> ((try simp only [Bool.not_eq_true', Bool.not_eq_false'] at h); (try simp only [h]); (try simp only [decide_eq_true_eq, decide_eq_false_iff_not, bne_iff_ne, bne_eq_false_iff_eq, beq_iff_eq, beq_eq_false_iff_ne, ne_eq, Int.not_lt, Int.not_le, Bool.and_eq_true, Bool.and_eq_false_iff, Bool.or_eq_true, Bool.or_eq_false_iff] at h)) <;> (try (exfalso; omega))))
    first | refine goC_call [.r, .r] (d_stringslite_IndexByte l c hl hc) ?_ | refine goOC_call [.r, .r] (d_stringslite_IndexByte l c hl hc) ?_
    repeat' (first | simp -implicitDefEqProofs (maxSteps := 1000000) (disch := (first | omega | (simp only [go_sem] <;> omega) | fail)) only [go_sem, ints, bools, mat, reduceIte, Nat.reduceEqDiff, Nat.reduceAdd, Nat.reduceBEq, Nat.reduceMul, Nat.reduceLeDiff, Nat.reduceLT, Nat.reduceMod, Nat.reduceDiv, Nat.reduceSub, reduceCtorEq] | ((first | refine goIf_b (fun h => ?_) (fun h => ?_) | refine goG_b (fun h => ?_) (fun h => ?_) | refine goTG_b (fun h => ?_) (fun h => ?_) | refine goOG_b (fun h => ?_) (fun h => ?_)) <;> ((try simp only [Bool.not_eq_true', Bool.not_eq_false'] at h); (try simp only [h]); (try simp only [decide_eq_true_eq, decide_eq_false_iff_not, bne_iff_ne, bne_eq_false_iff_eq, beq_iff_eq, beq_eq_false_iff_ne, ne_eq, Int.not_lt, Int.not_le, Bool.and_eq_true, Bool.and_eq_false_iff, Bool.or_eq_true, Bool.or_eq_false_iff] at h)) <;> (try (exfalso; omega))))
theorem d_strings_Index (l : List Int) (c : Int) (hl : BY l) (hc : 0 ≤ c ∧ c < 256) : Den PA f_strings_Index [.d (sn l), .d (sn [c])] [.any, .any] (.d (di (fxL c l))) := by
  refine den_go [] l_strings_Index ?_
  repeat' (first | simp -implicitDefEqProofs (maxSteps := 1000000) (disch := (first | omega | (simp only [go_sem] <;> omega) | fail)) only [go_sem, ints, bools, mat, reduceIte, Nat.reduceEqDiff, Nat.reduceAdd, Nat.reduceBEq, Nat.reduceMul, Nat.reduceLeDiff, Nat.reduceLT, Nat.reduceMod, Nat.reduceDiv, Nat.reduceSub, reduceCtorEq, c_strings_Index] | ((first | refine goIf_b (fun h => ?_) (fun h => ?_) | refine goG_b (fun h => ?_) (fun h => ?_) | refine goTG_b (fun h => ?_) (fun h => ?_) | refine goOG_b (fun h => ?_) (fun h => ?_)) <;> ((try simp only [Bool.not_eq_true', Bool.not_eq_false'] at h); (try simp only [h]); (try simp only [decide_eq_true_eq, decide_eq_false_iff_not, bne_iff_ne, bne_eq_false_iff_eq, beq_iff_eq, beq_eq_false_iff_ne, ne_eq, Int.not_lt, Int.not_le, Bool.and_eq_true, Bool.and_eq_false_iff, Bool.or_eq_true, Bool.or_eq_false_iff] at h)) <;> (try (exfalso; omega))))
  first | refine goC_call [.r, .r] (d_stringslite_Index l c hl hc) ?_ | refine goOC_call [.r, .r] (d_stringslite_Index l c hl hc) ?_
  repeat' (first | simp -implicitDefEqProofs (maxSteps := 1000000) (disch := (first | omega | (simp only [go_sem] <;> omega) | fail)) only [go_sem, ints, bools, mat, reduceIte, Nat.reduceEqDiff, Nat.reduceAdd, Nat.reduceBEq, Nat.reduceMul, Nat.reduceLeDiff, Nat.reduceLT, Nat.reduceMod, Nat.reduceDiv, Nat.reduceSub, reduceCtorEq] | ((first | refine goIf_b (fun h => ?_) (fun h => ?_) | refine goG_b (fun h => ?_) (fun h => ?_) | refine goTG_b (fun h => ?_) (fun h => ?_) | refine goOG_b (fun h => ?_) (fun h => ?_)) <;> ((try simp only [Bool.not_eq_true', Bool.not_eq_false'] at h); (try simp only [h]); (try simp only [decide_eq_true_eq, decide_eq_false_iff_not, bne_iff_ne, bne_eq_false_iff_eq, beq_iff_eq, beq_eq_false_iff_ne, ne_eq, Int.not_lt, Int.not_le, Bool.and_eq_true, Bool.and_eq_false_iff, Bool.or_eq_true, Bool.or_eq_false_iff] at h)) <;> (try (exfalso; omega))))
theorem d_strings_Count (l : List Int) (c : Int) (hl : BY l) (hc : 0 ≤ c ∧ c < 256) : Den PA f_strings_Count [.d (sn l), .d (sn [c])] [.any, .any] (.d (di (l.count c : Nat))) := by
  have hi : ixtA (.d (.v (.string (strOfNums [c])))) 0 = some (.d (dy c)) := ixtA_n (BY1 hc) (i := 0) (by simp)
  have hx := xtsA_f hl hc
  refine den_go [] l_strings_Count ?_
  repeat' (first | simp -implicitDefEqProofs (maxSteps := 1000000) (disch := (first | omega | (simp only [go_sem] <;> omega) | fail)) only [go_sem, ints, bools, mat, reduceIte, Nat.reduceEqDiff, Nat.reduceAdd, Nat.reduceBEq, Nat.reduceMul, Nat.reduceLeDiff, Nat.reduceLT, Nat.reduceMod, Nat.reduceDiv, Nat.reduceSub, reduceCtorEq, c_strings_Count, hi, hx] | ((first | refine goIf_b (fun h => ?_) (fun h => ?_) | refine goG_b (fun h => ?_) (fun h => ?_) | refine goTG_b (fun h => ?_) (fun h => ?_) | refine goOG_b (fun h => ?_) (fun h => ?_)) <;> ((try simp only [Bool.not_eq_true', Bool.not_eq_false'] at h); (try simp only [h]); (try simp only [decide_eq_true_eq, decide_eq_false_iff_not, bne_iff_ne, bne_eq_false_iff_eq, beq_iff_eq, beq_eq_false_iff_ne, ne_eq, Int.not_lt, Int.not_le, Bool.and_eq_true, Bool.and_eq_false_iff, Bool.or_eq_true, Bool.or_eq_false_iff] at h)) <;> (try (exfalso; omega))))
theorem d_strings_genSplit (l : List Int) (hl : BY l) (hll : l.length < 1048577) : Den PA f_strings_genSplit [.d (sn l), .d (sn [46]), .d (di 0), .d (di (-1))] [.any, .any, .any, .any] (.own 1 ((spL l).map fun x => sn x)) := by
  have hcl : l.count 46 ≤ l.length := List.count_le_length
  have hsl := spL_count l
  have hne : eqsA .eql (.d (.v (.string (strOfNums [46])))) (.d (.v (.string (strOfNums [])))) = some (.d (.v (.bool false))) := eqsA_ne (by decide)
  refine den_go [] l_strings_genSplit ?_
  repeat' (first | simp -implicitDefEqProofs (maxSteps := 1000000) (disch := (first | omega | (simp only [go_sem] <;> omega) | fail)) only [go_sem, ints, bools, mat, reduceIte, Nat.reduceEqDiff, Nat.reduceAdd, Nat.reduceBEq, Nat.reduceMul, Nat.reduceLeDiff, Nat.reduceLT, Nat.reduceMod, Nat.reduceDiv, Nat.reduceSub, reduceCtorEq, c_strings_genSplit, hne] | ((first | refine goIf_b (fun h => ?_) (fun h => ?_) | refine goG_b (fun h => ?_) (fun h => ?_) | refine goTG_b (fun h => ?_) (fun h => ?_) | refine goOG_b (fun h => ?_) (fun h => ?_)) <;> ((try simp only [Bool.not_eq_true', Bool.not_eq_false'] at h); (try simp only [h]); (try simp only [decide_eq_true_eq, decide_eq_false_iff_not, bne_iff_ne, bne_eq_false_iff_eq, beq_iff_eq, beq_eq_false_iff_ne, ne_eq, Int.not_lt, Int.not_le, Bool.and_eq_true, Bool.and_eq_false_iff, Bool.or_eq_true, Bool.or_eq_false_iff] at h)) <;> (try (exfalso; omega))))
  first | refine goC_call [.r, .r] (d_strings_Count l 46 hl (by decide)) ?_ | refine goOC_call [.r, .r] (d_strings_Count l 46 hl (by decide)) ?_
  generalize l.count 46 = cnt at *
  repeat' (first | simp -implicitDefEqProofs (maxSteps := 1000000) (disch := (first | omega | (simp only [go_sem] <;> omega) | fail)) only [go_sem, ints, bools, mat, reduceIte, Nat.reduceEqDiff, Nat.reduceAdd, Nat.reduceBEq, Nat.reduceMul, Nat.reduceLeDiff, Nat.reduceLT, Nat.reduceMod, Nat.reduceDiv, Nat.reduceSub, reduceCtorEq] | ((first | refine goIf_b (fun h => ?_) (fun h => ?_) | refine goG_b (fun h => ?_) (fun h => ?_) | refine goTG_b (fun h => ?_) (fun h => ?_) | refine goOG_b (fun h => ?_) (fun h => ?_)) <;> ((try simp only [Bool.not_eq_true', Bool.not_eq_false'] at h); (try simp only [h]); (try simp only [decide_eq_true_eq, decide_eq_false_iff_not, bne_iff_ne, bne_eq_false_iff_eq, beq_iff_eq, beq_eq_false_iff_ne, ne_eq, Int.not_lt, Int.not_le, Bool.and_eq_true, Bool.and_eq_false_iff, Bool.or_eq_true, Bool.or_eq_false_iff] at h)) <;> (try (exfalso; omega))))
  refine go_loop (fun (p : Nat × List Int) => ⟨[(0, .d (sn p.2)), (1, .d (sn [46])), (2, .d (di 0)), (3, .d (di cnt)), (9, .sl 0 0 (cnt + 1) 1), (10, .d (di p.1))], [some (.dat 1 (((spL l).take p.1 ++ List.replicate (cnt + 1 - p.1) []).map fun x => sn x))]⟩) (fun p => p.1 ≤ cnt ∧ (spL l).drop p.1 = spL p.2 ∧ BY p.2 ∧ p.2.length ≤ l.length) (fun p => cnt - p.1) (0, l) ?_ ?_ ?_
  · simp -implicitDefEqProofs (maxSteps := 1000000) (disch := (first | omega | (simp only [go_sem] <;> omega) | fail)) only [go_sem, ints, bools, mat, reduceIte, Nat.reduceEqDiff, Nat.reduceAdd, Nat.reduceBEq, Nat.reduceMul, Nat.reduceLeDiff, Nat.reduceLT, Nat.reduceMod, Nat.reduceDiv, Nat.reduceSub, reduceCtorEq]
    have e : (if (l.length : Int) + 1 < (cnt : Int) + 1 then (l.length : Int) + 1 else (cnt : Int) + 1) = (cnt : Int) + 1 := if_neg (by omega)
    have e2 : ((cnt : Int) + 1).toNat = cnt + 1 := by omega
    have e3 : (cnt : Int) + 1 - 1 = cnt := by omega
    rw [e, e2, e3]
    simp
  · exact ⟨Nat.zero_le _, rfl, hl, Nat.le_refl _⟩
  · rintro ⟨i, r⟩ ⟨h1, h2, h3, h4⟩ J hJ
    dsimp only at h1 h2 h3 h4 ⊢
    have hdl := congrArg List.length h2
    rw [List.length_drop, hsl] at hdl
    have hfl : ((spL l).take i ++ List.replicate (cnt + 1 - i) []).length = cnt + 1 := by simp [hsl]; omega
    by_cases hi : i < cnt
    · rcases fx_cases 46 r with ⟨f1, f2⟩ | ⟨k, f1, f2, f3, f4⟩
      · exfalso
        rw [spL_no f2] at hdl
        simp at hdl; omega
      · repeat' (first | simp -implicitDefEqProofs (maxSteps := 1000000) (disch := (first | omega | (simp only [go_sem] <;> omega) | fail)) only [go_sem, ints, bools, mat, reduceIte, Nat.reduceEqDiff, Nat.reduceAdd, Nat.reduceBEq, Nat.reduceMul, Nat.reduceLeDiff, Nat.reduceLT, Nat.reduceMod, Nat.reduceDiv, Nat.reduceSub, reduceCtorEq] | ((first | refine goIf_b (fun h => ?_) (fun h => ?_) | refine goG_b (fun h => ?_) (fun h => ?_) | refine goTG_b (fun h => ?_) (fun h => ?_) | refine goOG_b (fun h => ?_) (fun h => ?_)) <;> ((try simp only [Bool.not_eq_true', Bool.not_eq_false'] at h); (try simp only [h]); (try simp only [decide_eq_true_eq, decide_eq_false_iff_not, bne_iff_ne, bne_eq_false_iff_eq, beq_iff_eq, beq_eq_false_iff_ne, ne_eq, Int.not_lt, Int.not_le, Bool.and_eq_true, Bool.and_eq_false_iff, Bool.or_eq_true, Bool.or_eq_false_iff] at h)) <;> (try (exfalso; omega))))
        first | refine goC_call [.r, .r] (d_strings_Index r 46 h3 (by decide)) ?_ | refine goOC_call [.r, .r] (d_strings_Index r 46 h3 (by decide)) ?_
        rw [f1]
        have hsr : spL r = r.take k :: spL (r.drop (k + 1)) := by
          conv => lhs; rw [f3]
          exact spL_cut _ f4
        have hgi : (spL l).getD i [] = r.take k := by
          have : ((spL l).drop i).getD 0 [] = r.take k := by rw [h2, hsr]; rfl
          simpa [List.getD_eq_getElem?_getD, List.getElem?_drop] using this
        have hfs := fill_step (spL l) ([] : List Int) [] (n := cnt + 1) (j := i) (by omega) hsl
        rw [hgi] at hfs
        repeat' (first | simp -implicitDefEqProofs (maxSteps := 1000000) (disch := (first | omega | (simp only [go_sem] <;> omega) | fail)) only [go_sem, ints, bools, mat, reduceIte, Nat.reduceEqDiff, Nat.reduceAdd, Nat.reduceBEq, Nat.reduceMul, Nat.reduceLeDiff, Nat.reduceLT, Nat.reduceMod, Nat.reduceDiv, Nat.reduceSub, reduceCtorEq] | ((first | refine goIf_b (fun h => ?_) (fun h => ?_) | refine goG_b (fun h => ?_) (fun h => ?_) | refine goTG_b (fun h => ?_) (fun h => ?_) | refine goOG_b (fun h => ?_) (fun h => ?_)) <;> ((try simp only [Bool.not_eq_true', Bool.not_eq_false'] at h); (try simp only [h]); (try simp only [decide_eq_true_eq, decide_eq_false_iff_not, bne_iff_ne, bne_eq_false_iff_eq, beq_iff_eq, beq_eq_false_iff_ne, ne_eq, Int.not_lt, Int.not_le, Bool.and_eq_true, Bool.and_eq_false_iff, Bool.or_eq_true, Bool.or_eq_false_iff] at h)) <;> (try (exfalso; omega))))
        refine hJ (i + 1, r.drop (k + 1)) ⟨by omega, ?_, BY.drop h3 _, by simp; omega⟩ (by dsimp only; omega) _ ?_
        · dsimp only
          rw [← List.drop_drop, h2, hsr]; rfl
        · simp -implicitDefEqProofs (maxSteps := 1000000) (disch := (first | omega | (simp only [go_sem] <;> omega) | fail)) only [go_sem, ints, bools, mat, reduceIte, Nat.reduceEqDiff, Nat.reduceAdd, Nat.reduceBEq, Nat.reduceMul, Nat.reduceLeDiff, Nat.reduceLT, Nat.reduceMod, Nat.reduceDiv, Nat.reduceSub, reduceCtorEq]
          rw [← hfs, List.map_set]
          simp
    · have : i = cnt := by omega
      subst this
      have hr1 : (spL r).length = 1 := by omega
      have hno : 46 ∉ r := by
        rw [spL_count] at hr1
        exact List.count_eq_zero.1 (by omega)
      have hgi : (spL l).getD i [] = r := by
        have : ((spL l).drop i).getD 0 [] = r := by rw [h2, spL_no hno]; rfl
        simpa [List.getD_eq_getElem?_getD, List.getElem?_drop] using this
      have hfs := fill_step (spL l) ([] : List Int) [] (n := i + 1) (j := i) (by omega) hsl
      have e2 : (spL l).take (i + 1) = spL l := List.take_of_length_le (by omega)
      rw [hgi, e2, show i + 1 - (i + 1) = 0 by omega, List.replicate_zero, List.append_nil] at hfs
      have hms := congrArg (List.map fun x => sn x) hfs
      rw [List.map_set] at hms
      repeat' (first | simp -implicitDefEqProofs (maxSteps := 1000000) (disch := (first | omega | (simp only [go_sem] <;> omega) | fail)) only [go_sem, ints, bools, mat, reduceIte, Nat.reduceEqDiff, Nat.reduceAdd, Nat.reduceBEq, Nat.reduceMul, Nat.reduceLeDiff, Nat.reduceLT, Nat.reduceMod, Nat.reduceDiv, Nat.reduceSub, reduceCtorEq] | ((first | refine goIf_b (fun h => ?_) (fun h => ?_) | refine goG_b (fun h => ?_) (fun h => ?_) | refine goTG_b (fun h => ?_) (fun h => ?_) | refine goOG_b (fun h => ?_) (fun h => ?_)) <;> ((try simp only [Bool.not_eq_true', Bool.not_eq_false'] at h); (try simp only [h]); (try simp only [decide_eq_true_eq, decide_eq_false_iff_not, bne_iff_ne, bne_eq_false_iff_eq, beq_iff_eq, beq_eq_false_iff_ne, ne_eq, Int.not_lt, Int.not_le, Bool.and_eq_true, Bool.and_eq_false_iff, Bool.or_eq_true, Bool.or_eq_false_iff] at h)) <;> (try (exfalso; omega))))
      exact hms
theorem d_strings_Split (l : List Int) (hl : BY l) (hll : l.length < 1048577) : Den PA f_strings_Split [.d (sn l), .d (sn [46])] [.any, .any] (.own 1 ((spL l).map fun x => sn x)) := by
  refine den_go [] l_strings_Split ?_
  repeat' (first | simp -implicitDefEqProofs (maxSteps := 1000000) (disch := (first | omega | (simp only [go_sem] <;> omega) | fail)) only [go_sem, ints, bools, mat, reduceIte, Nat.reduceEqDiff, Nat.reduceAdd, Nat.reduceBEq, Nat.reduceMul, Nat.reduceLeDiff, Nat.reduceLT, Nat.reduceMod, Nat.reduceDiv, Nat.reduceSub, reduceCtorEq, c_strings_Split] | ((first | refine goIf_b (fun h => ?_) (fun h => ?_) | refine goG_b (fun h => ?_) (fun h => ?_) | refine goTG_b (fun h => ?_) (fun h => ?_) | refine goOG_b (fun h => ?_) (fun h => ?_)) <;> ((try simp only [Bool.not_eq_true', Bool.not_eq_false'] at h); (try simp only [h]); (try simp only [decide_eq_true_eq, decide_eq_false_iff_not, bne_iff_ne, bne_eq_false_iff_eq, beq_iff_eq, beq_eq_false_iff_ne, ne_eq, Int.not_lt, Int.not_le, Bool.and_eq_true, Bool.and_eq_false_iff, Bool.or_eq_true, Bool.or_eq_false_iff] at h)) <;> (try (exfalso; omega))))
  first | refine goC_call [.r, .r, .r, .r] (d_strings_genSplit l hl hll) ?_ | refine goOC_call [.r, .r, .r, .r] (d_strings_genSplit l hl hll) ?_
  repeat' (first | simp -implicitDefEqProofs (maxSteps := 1000000) (disch := (first | omega | (simp only [go_sem] <;> omega) | fail)) only [go_sem, ints, bools, mat, reduceIte, Nat.reduceEqDiff, Nat.reduceAdd, Nat.reduceBEq, Nat.reduceMul, Nat.reduceLeDiff, Nat.reduceLT, Nat.reduceMod, Nat.reduceDiv, Nat.reduceSub, reduceCtorEq] | ((first | refine goIf_b (fun h => ?_) (fun h => ?_) | refine goG_b (fun h => ?_) (fun h => ?_) | refine goTG_b (fun h => ?_) (fun h => ?_) | refine goOG_b (fun h => ?_) (fun h => ?_)) <;> ((try simp only [Bool.not_eq_true', Bool.not_eq_false'] at h); (try simp only [h]); (try simp only [decide_eq_true_eq, decide_eq_false_iff_not, bne_iff_ne, bne_eq_false_iff_eq, beq_iff_eq, beq_eq_false_iff_ne, ne_eq, Int.not_lt, Int.not_le, Bool.and_eq_true, Bool.and_eq_false_iff, Bool.or_eq_true, Bool.or_eq_false_iff] at h)) <;> (try (exfalso; omega))))
@[go_sem] theorem flat_sn (l : List (List Int)) : flat (l.map fun x => sn x) = l.map fun x => sn x := by
  induction l with
  | nil => rfl
  | cons x r ih => simp only [flat, List.map_cons, List.flatMap_cons, D.cells] at ih ⊢; rw [ih]; rfl
@[go_sem] theorem getSn {l : List (List Int)} {j : Nat} (h : j < l.length) : (l.map fun x => sn x)[j]? = some (sn (l.getD j [])) := by simp [h]
theorem take_drop_snoc (l : List Int) {a i : Nat} (h1 : a ≤ i) (h2 : i < l.length) : (l.drop a).take (i + 1 - a) = (l.drop a).take (i - a) ++ [l.getD i 0] := by
  have e : i + 1 - a = (i - a) + 1 := by omega
  rw [e, List.take_add_one]
  congr 1
  simp [List.getElem?_drop, show a + (i - a) = i by omega, h2]
theorem drop_cut (l : List Int) {a i : Nat} (h1 : a ≤ i) (h2 : i < l.length) : l.drop a = (l.drop a).take (i - a) ++ l.getD i 0 :: l.drop (i + 1) := by
  have h := List.take_append_drop (i - a) (l.drop a)
  rw [List.drop_drop, show a + (i - a) = i by omega] at h
  have h3 : l.drop i = l.getD i 0 :: l.drop (i + 1) := by
    rw [List.drop_eq_getElem_cons h2]; simp [h2]
  rw [h3] at h
  exact h.symm
theorem d_spec_l01Split (l : List Int) (hl : BY l) (hll : l.length < 1048577) : Den PA f_spec_l01Split [.d (sn l), .d (dy 46)] [.any, .any] (.own 1 ((spL l).map fun x => sn x)) := by
  have hsl := spL_count l
  have hcl : l.count 46 ≤ l.length := List.count_le_length
  refine den_go [] l_spec_l01Split ?_
  repeat' (first | simp -implicitDefEqProofs (maxSteps := 1000000) (disch := (first | omega | (simp only [go_sem] <;> omega) | fail)) only [go_sem, ints, bools, mat, reduceIte, Nat.reduceEqDiff, Nat.reduceAdd, Nat.reduceBEq, Nat.reduceMul, Nat.reduceLeDiff, Nat.reduceLT, Nat.reduceMod, Nat.reduceDiv, Nat.reduceSub, reduceCtorEq, c_spec_l01Split] | ((first | refine goIf_b (fun h => ?_) (fun h => ?_) | refine goG_b (fun h => ?_) (fun h => ?_) | refine goTG_b (fun h => ?_) (fun h => ?_) | refine goOG_b (fun h => ?_) (fun h => ?_)) <;> ((try simp only [Bool.not_eq_true', Bool.not_eq_false'] at h); (try simp only [h]); (try simp only [decide_eq_true_eq, decide_eq_false_iff_not, bne_iff_ne, bne_eq_false_iff_eq, beq_iff_eq, beq_eq_false_iff_ne, ne_eq, Int.not_lt, Int.not_le, Bool.and_eq_true, Bool.and_eq_false_iff, Bool.or_eq_true, Bool.or_eq_false_iff] at h)) <;> (try (exfalso; omega))))
  refine go_loop (fun (p : Nat × Nat × List (List Int)) => ⟨[(0, .d (sn l)), (1, .d (dy 46)), (5, .sl 0 0 p.2.2.length 1), (6, .d (di p.2.1)), (7, .d (di p.1))], [some (.dat 1 (p.2.2.map fun x => sn x))]⟩) (fun p => p.2.1 ≤ p.1 ∧ p.1 ≤ l.length ∧ p.2.2 ++ spL (l.drop p.2.1) = spL l ∧ 46 ∉ (l.drop p.2.1).take (p.1 - p.2.1)) (fun p => l.length - p.1) (0, 0, []) ?_ ?_ ?_
  · (simp -implicitDefEqProofs (maxSteps := 1000000) (disch := (first | omega | (simp only [go_sem] <;> omega) | fail)) only [go_sem, ints, bools, mat, reduceIte, Nat.reduceEqDiff, Nat.reduceAdd, Nat.reduceBEq, Nat.reduceMul, Nat.reduceLeDiff, Nat.reduceLT, Nat.reduceMod, Nat.reduceDiv, Nat.reduceSub, reduceCtorEq] <;> rfl)
  · exact ⟨Nat.le_refl _, Nat.zero_le _, rfl, by simp⟩
  · rintro ⟨i, a, out⟩ ⟨h1, h2, h3, h4⟩ J hJ
    dsimp only at h1 h2 h3 h4 ⊢
    have hol := congrArg List.length h3
    have hpp := spL_pos (l.drop a)
    rw [List.length_append, hsl] at hol
    by_cases hi : i < l.length
    · have hix := ixtA_n hl hi
      have hc := drop_cut l h1 hi
      by_cases h46 : l.getD i 0 = 46
      · rw [h46] at hix hc
        have hsr : spL (l.drop a) = (l.drop a).take (i - a) :: spL (l.drop (i + 1)) := by
          conv => lhs; rw [hc]
          exact spL_cut _ h4
        repeat' (first | simp -implicitDefEqProofs (maxSteps := 1000000) (disch := (first | omega | (simp only [go_sem] <;> omega) | fail)) only [go_sem, ints, bools, mat, reduceIte, Nat.reduceEqDiff, Nat.reduceAdd, Nat.reduceBEq, Nat.reduceMul, Nat.reduceLeDiff, Nat.reduceLT, Nat.reduceMod, Nat.reduceDiv, Nat.reduceSub, reduceCtorEq, hix] | ((first | refine goIf_b (fun h => ?_) (fun h => ?_) | refine goG_b (fun h => ?_) (fun h => ?_) | refine goTG_b (fun h => ?_) (fun h => ?_) | refine goOG_b (fun h => ?_) (fun h => ?_)) <;> ((try simp only [Bool.not_eq_true', Bool.not_eq_false'] at h); (try simp only [h]); (try simp only [decide_eq_true_eq, decide_eq_false_iff_not, bne_iff_ne, bne_eq_false_iff_eq, beq_iff_eq, beq_eq_false_iff_ne, ne_eq, Int.not_lt, Int.not_le, Bool.and_eq_true, Bool.and_eq_false_iff, Bool.or_eq_true, Bool.or_eq_false_iff] at h)) <;> (try (exfalso; omega))))
        refine hJ (i + 1, i + 1, out ++ [(l.drop a).take (i - a)]) ⟨Nat.le_refl _, hi, ?_, by simp⟩ (by dsimp only; omega) _ ?_
        · dsimp only; rw [← h3, hsr]; simp
        · simp -implicitDefEqProofs (maxSteps := 1000000) (disch := (first | omega | (simp only [go_sem] <;> omega) | fail)) only [go_sem, ints, bools, mat, reduceIte, Nat.reduceEqDiff, Nat.reduceAdd, Nat.reduceBEq, Nat.reduceMul, Nat.reduceLeDiff, Nat.reduceLT, Nat.reduceMod, Nat.reduceDiv, Nat.reduceSub, reduceCtorEq]
          simp [List.drop_take]
      · repeat' (first | simp -implicitDefEqProofs (maxSteps := 1000000) (disch := (first | omega | (simp only [go_sem] <;> omega) | fail)) only [go_sem, ints, bools, mat, reduceIte, Nat.reduceEqDiff, Nat.reduceAdd, Nat.reduceBEq, Nat.reduceMul, Nat.reduceLeDiff, Nat.reduceLT, Nat.reduceMod, Nat.reduceDiv, Nat.reduceSub, reduceCtorEq, hix] | ((first | refine goIf_b (fun h => ?_) (fun h => ?_) | refine goG_b (fun h => ?_) (fun h => ?_) | refine goTG_b (fun h => ?_) (fun h => ?_) | refine goOG_b (fun h => ?_) (fun h => ?_)) <;> ((try simp only [Bool.not_eq_true', Bool.not_eq_false'] at h); (try simp only [h]); (try simp only [decide_eq_true_eq, decide_eq_false_iff_not, bne_iff_ne, bne_eq_false_iff_eq, beq_iff_eq, beq_eq_false_iff_ne, ne_eq, Int.not_lt, Int.not_le, Bool.and_eq_true, Bool.and_eq_false_iff, Bool.or_eq_true, Bool.or_eq_false_iff] at h)) <;> (try (exfalso; omega))))
        refine hJ (i + 1, a, out) ⟨by dsimp only; omega, hi, h3, ?_⟩ (by dsimp only; omega) _ (by (simp -implicitDefEqProofs (maxSteps := 1000000) (disch := (first | omega | (simp only [go_sem] <;> omega) | fail)) only [go_sem, ints, bools, mat, reduceIte, Nat.reduceEqDiff, Nat.reduceAdd, Nat.reduceBEq, Nat.reduceMul, Nat.reduceLeDiff, Nat.reduceLT, Nat.reduceMod, Nat.reduceDiv, Nat.reduceSub, reduceCtorEq] <;> rfl))
        dsimp only
        rw [take_drop_snoc l h1 hi]
        simp only [List.mem_append, List.mem_singleton, not_or]
        exact ⟨h4, fun e => h46 e.symm⟩
    · have : i = l.length := by omega
      subst this
      rw [List.take_of_length_le (by simp)] at h4
      repeat' (first | simp -implicitDefEqProofs (maxSteps := 1000000) (disch := (first | omega | (simp only [go_sem] <;> omega) | fail)) only [go_sem, ints, bools, mat, reduceIte, Nat.reduceEqDiff, Nat.reduceAdd, Nat.reduceBEq, Nat.reduceMul, Nat.reduceLeDiff, Nat.reduceLT, Nat.reduceMod, Nat.reduceDiv, Nat.reduceSub, reduceCtorEq] | ((first | refine goIf_b (fun h => ?_) (fun h => ?_) | refine goG_b (fun h => ?_) (fun h => ?_) | refine goTG_b (fun h => ?_) (fun h => ?_) | refine goOG_b (fun h => ?_) (fun h => ?_)) <;> ((try simp only [Bool.not_eq_true', Bool.not_eq_false'] at h); (try simp only [h]); (try simp only [decide_eq_true_eq, decide_eq_false_iff_not, bne_iff_ne, bne_eq_false_iff_eq, beq_iff_eq, beq_eq_false_iff_ne, ne_eq, Int.not_lt, Int.not_le, Bool.and_eq_true, Bool.and_eq_false_iff, Bool.or_eq_true, Bool.or_eq_false_iff] at h)) <;> (try (exfalso; omega))))
      rw [← h3, spL_no h4]; simp
def ptS (m c : Int) : Int := if 48 ≤ c ∧ c ≤ 51 then or2 m (c - 48) else m
def ptB (p : List Int) : Int := p.foldl ptS 0
theorem ptB_snoc (p : List Int) {k : Nat} (h : k < p.length) : ptB (p.take (k + 1)) = ptS (ptB (p.take k)) (p.getD k 0) := by
  rw [take_one _ h]; simp [ptB]
theorem ptS_bnd {m c : Int} (h : 0 ≤ m ∧ m < 16) : 0 ≤ ptS m c ∧ ptS m c < 16 := by
  unfold ptS
  split
  · exact or2_bnd h (by omega)
  · exact h
theorem ptB_bnd (p : List Int) : ∀ k, k ≤ p.length → 0 ≤ ptB (p.take k) ∧ ptB (p.take k) < 16
  | 0, _ => by simp [ptB]
  | k + 1, h => by rw [ptB_snoc p (by omega)]; exact ptS_bnd (ptB_bnd p k (by omega))
abbrev ascA (p : List Int) : Prop := ∀ j, j < p.length → 48 ≤ p.getD j 0 ∧ p.getD j 0 ≤ 51 ∧ ptB (p.take j) / 2 ^ (p.getD j 0 - 48).toNat = 0
theorem sg_or : ∀ (m : Fin 16) (d : Fin 4), ((m.val : Int)) / 2 ^ d.val = 0 → sgB (or2 (m.val : Int) (d.val : Int)) = sgB (m.val : Int) ++ [48 + (d.val : Int)] := by decide
theorem sg_asc16 : ∀ m : Fin 16, ptB (sgB (m.val : Int)) = m.val ∧ 46 ∉ sgB (m.val : Int) ∧ ∀ j : Fin 4, j.val < (sgB (m.val : Int)).length → 48 ≤ (sgB (m.val : Int)).getD j.val 0 ∧ (sgB (m.val : Int)).getD j.val 0 ≤ 51 ∧ ptB ((sgB (m.val : Int)).take j.val) / 2 ^ ((sgB (m.val : Int)).getD j.val 0 - 48).toNat = 0 := by decide
theorem sg_asc {m : Int} (h : 0 ≤ m ∧ m < 16) : ptB (sgB m) = m ∧ 46 ∉ sgB m ∧ ascA (sgB m) := by
  have h1 := sg_asc16 ⟨m.toNat, by omega⟩
  have e : ((m.toNat : Nat) : Int) = m := by omega
  simp only [e] at h1
  have hl := sgB_len m
  exact ⟨h1.1, h1.2.1, fun j hj => h1.2.2 ⟨j, by omega⟩ hj⟩
theorem asc_sg {p : List Int} (h : ascA p) : ∀ k, k ≤ p.length → sgB (ptB (p.take k)) = p.take k
  | 0, _ => by rw [List.take_zero]; decide
  | k + 1, hk => by
    have ih := asc_sg h k (by omega)
    obtain ⟨h1, h2, h3⟩ := h k (by omega)
    have hb := ptB_bnd p k (by omega)
    have h4 := sg_or ⟨(ptB (p.take k)).toNat, by omega⟩ ⟨(p.getD k 0 - 48).toNat, by omega⟩
    have e1 : (((ptB (p.take k)).toNat : Nat) : Int) = ptB (p.take k) := by omega
    have e2 : (((p.getD k 0 - 48).toNat : Nat) : Int) = p.getD k 0 - 48 := by omega
    simp only [e1, e2] at h4
    rw [ptB_snoc p (by omega), ptS, if_pos ⟨h1, h2⟩, h4 h3, ih, take_one p (by omega)]
    congr 2
    omega
theorem asc_eq {p : List Int} (h : ascA p) : sgB (ptB p) = p := by simpa using asc_sg h p.length (Nat.le_refl _)
def psT (l : List Int) : List Int := (spL l).map ptB
@[go_sem] theorem psT_len (l : List Int) : (psT l).length = (spL l).length := by simp [psT]
def psG (l0 l : List Int) : Bool := isSlipM l0 (psT l) && decide (txN (psT l) (psT l).length = l)
def psC (l0 l : List Int) : Int := if isSpaceM l0 = true then (if psG l0 l = true then 0 else 6) else 1
theorem jn_all (t : List Int) : jnI (t.map sgB) = txN t t.length := by
  have := jn_tx t t.length (Nat.le_refl _)
  rwa [List.take_length] at this
theorem psG_ok {l0 l : List Int} (hs : isSpaceM l0 = true) : psG l0 l = true ↔ l.length ≤ 40 ∧ (∀ i, i < (spL l).length → ascA ((spL l).getD i [])) ∧ isSlipM l0 (psT l) = true := by
  have hn := isSpaceM_n hs
  simp only [psG, Bool.and_eq_true, decide_eq_true_eq]
  constructor
  · rintro ⟨h1, h2⟩
    obtain ⟨h3, h4⟩ := isSlipM_16 hs h1
    have hne : (psT l).map sgB ≠ [] := fun e => by
      have e1 := congrArg List.length e
      have e2 := spL_pos l
      rw [List.length_map, psT_len, List.length_nil] at e1
      omega
    have hsp : spL l = (psT l).map sgB := by
      have h5 := jn_spL hne (fun p hp => by
        obtain ⟨m, hm, rfl⟩ := List.mem_map.1 hp
        obtain ⟨i, hi, rfl⟩ := List.mem_iff_getElem.1 hm
        have h6 := h4 i hi
        have e : (psT l).getD i 0 = (psT l)[i] := by simp [hi]
        rw [e] at h6
        exact (sg_asc (by omega)).2.1)
      rw [jn_all, h2] at h5
      exact h5
    refine ⟨?_, fun i hi => ?_, h1⟩
    · have := txN_len (psT l) (psT l).length
      rw [h2] at this; omega
    · have hi2 : i < (psT l).length := by rw [psT_len]; exact hi
      have h6 := h4 i hi2
      have e : (spL l).getD i [] = sgB ((psT l).getD i 0) := by
        have : (spL l).getD i [] = ((psT l).map sgB).getD i [] := by rw [← hsp]
        rw [this]; simp [hi2]
      rw [e]
      exact (sg_asc (by omega)).2.2
  · rintro ⟨_, h2, h3⟩
    refine ⟨h3, ?_⟩
    rw [← jn_all]
    have e : (psT l).map sgB = spL l := by
      rw [psT, List.map_map]
      apply List.ext_getElem (by simp)
      intro i h4 h5
      have := asc_eq (h2 i h5)
      simpa [h5] using this
    rw [e, spL_jn]
theorem psT_step (l : List Int) {i : Nat} (h : i < (spL l).length) : (psT l).take (i + 1) = (psT l).take i ++ [ptB ((spL l).getD i [])] := by
  rw [take_one _ (by rw [psT_len]; exact h)]
  congr 1
  simp [psT, h]
theorem d_impl_ParseSlip (l0 l : List Int) (hl0 : l0.length < 1048577) (hl : BY l) (hll : l.length < 1048577) : Den PA f_impl_ParseSlip [.d (.agg [ints l0]), .d (sn l)] [.any, .any] (lstR (psC l0 l) (psT l)) := by
  have hT := psT_len l
  by_cases hs : isSpaceM l0 = true
  · have hn := isSpaceM_n hs
    have hq := isSpaceM_q hs
    have hG := psG_ok (l := l) hs
    have hok : psG l0 l = true → lstR (psC l0 l) (psT l) = .tup [.own 1 ((psT l).map di), .d (di 0)] := fun h => by
      rw [lstR_ok]; rw [psC, if_pos hs, if_pos h]
    have hno : ¬ psG l0 l = true → lstR (psC l0 l) (psT l) = .tup [.d nil, .d (di 6)] := fun h => by
      have e : psC l0 l = 6 := by rw [psC, if_pos hs, if_neg h]
      rw [lstR_no (by rw [e]; decide), e]
    generalize lstR (psC l0 l) (psT l) = res at *
    have hcl : l.count 46 ≤ l.length := List.count_le_length
    have hsl := spL_count l
    have hsm := spL_mem hl
    refine den_go [] l_impl_ParseSlip ?_
    repeat' (first | simp -implicitDefEqProofs (maxSteps := 1000000) (disch := (first | omega | (simp only [go_sem] <;> omega) | fail)) only [go_sem, ints, bools, mat, reduceIte, Nat.reduceEqDiff, Nat.reduceAdd, Nat.reduceBEq, Nat.reduceMul, Nat.reduceLeDiff, Nat.reduceLT, Nat.reduceMod, Nat.reduceDiv, Nat.reduceSub, reduceCtorEq, c_impl_ParseSlip] | ((first | refine goIf_b (fun h => ?_) (fun h => ?_) | refine goG_b (fun h => ?_) (fun h => ?_) | refine goTG_b (fun h => ?_) (fun h => ?_) | refine goOG_b (fun h => ?_) (fun h => ?_)) <;> ((try simp only [Bool.not_eq_true', Bool.not_eq_false'] at h); (try simp only [h]); (try simp only [decide_eq_true_eq, decide_eq_false_iff_not, bne_iff_ne, bne_eq_false_iff_eq, beq_iff_eq, beq_eq_false_iff_ne, ne_eq, Int.not_lt, Int.not_le, Bool.and_eq_true, Bool.and_eq_false_iff, Bool.or_eq_true, Bool.or_eq_false_iff] at h)) <;> (try (exfalso; omega))))
    first | refine goC_call [.r] (d_impl_IsSpace l0 hl0) ?_ | refine goOC_call [.r] (d_impl_IsSpace l0 hl0) ?_
    rw [hs]
    by_cases h40 : l.length ≤ 40
    · repeat' (first | simp -implicitDefEqProofs (maxSteps := 1000000) (disch := (first | omega | (simp only [go_sem] <;> omega) | fail)) only [go_sem, ints, bools, mat, reduceIte, Nat.reduceEqDiff, Nat.reduceAdd, Nat.reduceBEq, Nat.reduceMul, Nat.reduceLeDiff, Nat.reduceLT, Nat.reduceMod, Nat.reduceDiv, Nat.reduceSub, reduceCtorEq] | ((first | refine goIf_b (fun h => ?_) (fun h => ?_) | refine goG_b (fun h => ?_) (fun h => ?_) | refine goTG_b (fun h => ?_) (fun h => ?_) | refine goOG_b (fun h => ?_) (fun h => ?_)) <;> ((try simp only [Bool.not_eq_true', Bool.not_eq_false'] at h); (try simp only [h]); (try simp only [decide_eq_true_eq, decide_eq_false_iff_not, bne_iff_ne, bne_eq_false_iff_eq, beq_iff_eq, beq_eq_false_iff_ne, ne_eq, Int.not_lt, Int.not_le, Bool.and_eq_true, Bool.and_eq_false_iff, Bool.or_eq_true, Bool.or_eq_false_iff] at h)) <;> (try (exfalso; omega))))
      first | refine goC_call [.r, .r] (d_strings_Split l hl hll) ?_ | refine goOC_call [.r, .r] (d_strings_Split l hl hll) ?_
      repeat' (first | simp -implicitDefEqProofs (maxSteps := 1000000) (disch := (first | omega | (simp only [go_sem] <;> omega) | fail)) only [go_sem, ints, bools, mat, reduceIte, Nat.reduceEqDiff, Nat.reduceAdd, Nat.reduceBEq, Nat.reduceMul, Nat.reduceLeDiff, Nat.reduceLT, Nat.reduceMod, Nat.reduceDiv, Nat.reduceSub, reduceCtorEq] | ((first | refine goIf_b (fun h => ?_) (fun h => ?_) | refine goG_b (fun h => ?_) (fun h => ?_) | refine goTG_b (fun h => ?_) (fun h => ?_) | refine goOG_b (fun h => ?_) (fun h => ?_)) <;> ((try simp only [Bool.not_eq_true', Bool.not_eq_false'] at h); (try simp only [h]); (try simp only [decide_eq_true_eq, decide_eq_false_iff_not, bne_iff_ne, bne_eq_false_iff_eq, beq_iff_eq, beq_eq_false_iff_ne, ne_eq, Int.not_lt, Int.not_le, Bool.and_eq_true, Bool.and_eq_false_iff, Bool.or_eq_true, Bool.or_eq_false_iff] at h)) <;> (try (exfalso; omega))))
      refine go_loop (fun (i : Nat) => ⟨[(2, .ref 0 0), (6, .sl 1 0 i 1), (19, .sl 2 0 (spL l).length 1), (20, .d (di (spL l).length)), (21, .d (di i))], [some (.var [ints l0]), some (.dat 1 (((psT l).take i).map di)), some (.dat 1 ((spL l).map fun x => sn x))]⟩) (fun i => i ≤ (spL l).length ∧ ∀ j, j < i → ascA ((spL l).getD j [])) (fun i => (spL l).length - i) 0 ?_ ?_ ?_
      · (simp -implicitDefEqProofs (maxSteps := 1000000) (disch := (first | omega | (simp only [go_sem] <;> omega) | fail)) only [go_sem, ints, bools, mat, reduceIte, Nat.reduceEqDiff, Nat.reduceAdd, Nat.reduceBEq, Nat.reduceMul, Nat.reduceLeDiff, Nat.reduceLT, Nat.reduceMod, Nat.reduceDiv, Nat.reduceSub, reduceCtorEq] <;> rfl)
      · exact ⟨Nat.zero_le _, fun j hj => by omega⟩
      · rintro i ⟨hi, ha⟩ J hJ
        by_cases hil : i < (spL l).length
        · have hst := psT_step l hil
          obtain ⟨hpb, hpl⟩ := hsm _ (show (spL l).getD i [] ∈ spL l by simp [hil])
          have hasc := fun h : psG l0 l = true => (hG.1 h).2.1 i hil
          repeat' (first | simp -implicitDefEqProofs (maxSteps := 1000000) (disch := (first | omega | (simp only [go_sem] <;> omega) | fail)) only [go_sem, ints, bools, mat, reduceIte, Nat.reduceEqDiff, Nat.reduceAdd, Nat.reduceBEq, Nat.reduceMul, Nat.reduceLeDiff, Nat.reduceLT, Nat.reduceMod, Nat.reduceDiv, Nat.reduceSub, reduceCtorEq] | ((first | refine goIf_b (fun h => ?_) (fun h => ?_) | refine goG_b (fun h => ?_) (fun h => ?_) | refine goTG_b (fun h => ?_) (fun h => ?_) | refine goOG_b (fun h => ?_) (fun h => ?_)) <;> ((try simp only [Bool.not_eq_true', Bool.not_eq_false'] at h); (try simp only [h]); (try simp only [decide_eq_true_eq, decide_eq_false_iff_not, bne_iff_ne, bne_eq_false_iff_eq, beq_iff_eq, beq_eq_false_iff_ne, ne_eq, Int.not_lt, Int.not_le, Bool.and_eq_true, Bool.and_eq_false_iff, Bool.or_eq_true, Bool.or_eq_false_iff] at h)) <;> (try (exfalso; omega))))
          refine go_loop (fun (k : Nat) => ⟨[(2, .ref 0 0), (6, .sl 1 0 i 1), (8, .d (sn ((spL l).getD i []))), (9, .d (di (ptB (((spL l).getD i []).take k)))), (19, .sl 2 0 (spL l).length 1), (20, .d (di (spL l).length)), (21, .d (di i)), (26, .d (di ((spL l).getD i []).length)), (27, .d (di k))], [some (.var [ints l0]), some (.dat 1 (((psT l).take i).map di)), some (.dat 1 ((spL l).map fun x => sn x))]⟩) (fun k => k ≤ ((spL l).getD i []).length ∧ ∀ j, j < k → 48 ≤ ((spL l).getD i []).getD j 0 ∧ ((spL l).getD i []).getD j 0 ≤ 51 ∧ ptB (((spL l).getD i []).take j) / 2 ^ (((spL l).getD i []).getD j 0 - 48).toNat = 0) (fun k => ((spL l).getD i []).length - k) 0 ?_ ?_ ?_
          · (simp -implicitDefEqProofs (maxSteps := 1000000) (disch := (first | omega | (simp only [go_sem] <;> omega) | fail)) only [go_sem, ints, bools, mat, reduceIte, Nat.reduceEqDiff, Nat.reduceAdd, Nat.reduceBEq, Nat.reduceMul, Nat.reduceLeDiff, Nat.reduceLT, Nat.reduceMod, Nat.reduceDiv, Nat.reduceSub, reduceCtorEq] <;> rfl)
          · exact ⟨Nat.zero_le _, fun j hj => by omega⟩
          · rintro k ⟨hk, hk2⟩ J2 hJ2
            by_cases hkl : k < ((spL l).getD i []).length
            · have hix := ixtA_n hpb hkl
              have hbb := hpb _ (mem_getD hkl)
              have hpm := ptB_bnd ((spL l).getD i []) k hk
              have hps := ptB_snoc ((spL l).getD i []) hkl
              have hda : 48 ≤ ((spL l).getD i []).getD k 0 → 0 ≤ ptB (((spL l).getD i []).take k) / 2 ^ (((spL l).getD i []).getD k 0 - 48).toNat := fun _ => Int.ediv_nonneg hpm.1 (Int.pow_nonneg (by omega))
              have hpw := two_pow_lt (b := (((spL l).getD i []).getD k 0 - 48).toNat)
              repeat' (first | simp -implicitDefEqProofs (maxSteps := 1000000) (disch := (first | omega | (simp only [go_sem] <;> omega) | fail)) only [go_sem, ints, bools, mat, reduceIte, Nat.reduceEqDiff, Nat.reduceAdd, Nat.reduceBEq, Nat.reduceMul, Nat.reduceLeDiff, Nat.reduceLT, Nat.reduceMod, Nat.reduceDiv, Nat.reduceSub, reduceCtorEq, hix] | ((first | refine goIf_b (fun h => ?_) (fun h => ?_) | refine goG_b (fun h => ?_) (fun h => ?_) | refine goTG_b (fun h => ?_) (fun h => ?_) | refine goOG_b (fun h => ?_) (fun h => ?_)) <;> ((try simp only [Bool.not_eq_true', Bool.not_eq_false'] at h); (try simp only [h]); (try simp only [decide_eq_true_eq, decide_eq_false_iff_not, bne_iff_ne, bne_eq_false_iff_eq, beq_iff_eq, beq_eq_false_iff_ne, ne_eq, Int.not_lt, Int.not_le, Bool.and_eq_true, Bool.and_eq_false_iff, Bool.or_eq_true, Bool.or_eq_false_iff] at h)) <;> (try (exfalso; omega))))
              · rw [hno fun h' => absurd (hasc h' k hkl).2.2 (by assumption)]
                repeat' (first | simp -implicitDefEqProofs (maxSteps := 1000000) (disch := (first | omega | (simp only [go_sem] <;> omega) | fail)) only [go_sem, ints, bools, mat, reduceIte, Nat.reduceEqDiff, Nat.reduceAdd, Nat.reduceBEq, Nat.reduceMul, Nat.reduceLeDiff, Nat.reduceLT, Nat.reduceMod, Nat.reduceDiv, Nat.reduceSub, reduceCtorEq] | ((first | refine goIf_b (fun h => ?_) (fun h => ?_) | refine goG_b (fun h => ?_) (fun h => ?_) | refine goTG_b (fun h => ?_) (fun h => ?_) | refine goOG_b (fun h => ?_) (fun h => ?_)) <;> ((try simp only [Bool.not_eq_true', Bool.not_eq_false'] at h); (try simp only [h]); (try simp only [decide_eq_true_eq, decide_eq_false_iff_not, bne_iff_ne, bne_eq_false_iff_eq, beq_iff_eq, beq_eq_false_iff_ne, ne_eq, Int.not_lt, Int.not_le, Bool.and_eq_true, Bool.and_eq_false_iff, Bool.or_eq_true, Bool.or_eq_false_iff] at h)) <;> (try (exfalso; omega))))
              · refine hJ2 (k + 1) ⟨by omega, all_ext hk2 ⟨by assumption, by assumption, by assumption⟩⟩ (by omega) _ ?_
                simp -implicitDefEqProofs (maxSteps := 1000000) (disch := (first | omega | (simp only [go_sem] <;> omega) | fail)) only [go_sem, ints, bools, mat, reduceIte, Nat.reduceEqDiff, Nat.reduceAdd, Nat.reduceBEq, Nat.reduceMul, Nat.reduceLeDiff, Nat.reduceLT, Nat.reduceMod, Nat.reduceDiv, Nat.reduceSub, reduceCtorEq]
                rw [hps, ptS, if_pos ⟨by assumption, by assumption⟩]; rfl
              · rw [hno fun h' => absurd (hasc h' k hkl).2.1 (by omega)]
                repeat' (first | simp -implicitDefEqProofs (maxSteps := 1000000) (disch := (first | omega | (simp only [go_sem] <;> omega) | fail)) only [go_sem, ints, bools, mat, reduceIte, Nat.reduceEqDiff, Nat.reduceAdd, Nat.reduceBEq, Nat.reduceMul, Nat.reduceLeDiff, Nat.reduceLT, Nat.reduceMod, Nat.reduceDiv, Nat.reduceSub, reduceCtorEq] | ((first | refine goIf_b (fun h => ?_) (fun h => ?_) | refine goG_b (fun h => ?_) (fun h => ?_) | refine goTG_b (fun h => ?_) (fun h => ?_) | refine goOG_b (fun h => ?_) (fun h => ?_)) <;> ((try simp only [Bool.not_eq_true', Bool.not_eq_false'] at h); (try simp only [h]); (try simp only [decide_eq_true_eq, decide_eq_false_iff_not, bne_iff_ne, bne_eq_false_iff_eq, beq_iff_eq, beq_eq_false_iff_ne, ne_eq, Int.not_lt, Int.not_le, Bool.and_eq_true, Bool.and_eq_false_iff, Bool.or_eq_true, Bool.or_eq_false_iff] at h)) <;> (try (exfalso; omega))))
              · rw [hno fun h' => absurd (hasc h' k hkl).1 (by omega)]
                repeat' (first | simp -implicitDefEqProofs (maxSteps := 1000000) (disch := (first | omega | (simp only [go_sem] <;> omega) | fail)) only [go_sem, ints, bools, mat, reduceIte, Nat.reduceEqDiff, Nat.reduceAdd, Nat.reduceBEq, Nat.reduceMul, Nat.reduceLeDiff, Nat.reduceLT, Nat.reduceMod, Nat.reduceDiv, Nat.reduceSub, reduceCtorEq] | ((first | refine goIf_b (fun h => ?_) (fun h => ?_) | refine goG_b (fun h => ?_) (fun h => ?_) | refine goTG_b (fun h => ?_) (fun h => ?_) | refine goOG_b (fun h => ?_) (fun h => ?_)) <;> ((try simp only [Bool.not_eq_true', Bool.not_eq_false'] at h); (try simp only [h]); (try simp only [decide_eq_true_eq, decide_eq_false_iff_not, bne_iff_ne, bne_eq_false_iff_eq, beq_iff_eq, beq_eq_false_iff_ne, ne_eq, Int.not_lt, Int.not_le, Bool.and_eq_true, Bool.and_eq_false_iff, Bool.or_eq_true, Bool.or_eq_false_iff] at h)) <;> (try (exfalso; omega))))
            · have : k = ((spL l).getD i []).length := by omega
              subst this
              repeat' (first | simp -implicitDefEqProofs (maxSteps := 1000000) (disch := (first | omega | (simp only [go_sem] <;> omega) | fail)) only [go_sem, ints, bools, mat, reduceIte, Nat.reduceEqDiff, Nat.reduceAdd, Nat.reduceBEq, Nat.reduceMul, Nat.reduceLeDiff, Nat.reduceLT, Nat.reduceMod, Nat.reduceDiv, Nat.reduceSub, reduceCtorEq] | ((first | refine goIf_b (fun h => ?_) (fun h => ?_) | refine goG_b (fun h => ?_) (fun h => ?_) | refine goTG_b (fun h => ?_) (fun h => ?_) | refine goOG_b (fun h => ?_) (fun h => ?_)) <;> ((try simp only [Bool.not_eq_true', Bool.not_eq_false'] at h); (try simp only [h]); (try simp only [decide_eq_true_eq, decide_eq_false_iff_not, bne_iff_ne, bne_eq_false_iff_eq, beq_iff_eq, beq_eq_false_iff_ne, ne_eq, Int.not_lt, Int.not_le, Bool.and_eq_true, Bool.and_eq_false_iff, Bool.or_eq_true, Bool.or_eq_false_iff] at h)) <;> (try (exfalso; omega))))
              refine hJ (i + 1) ⟨by omega, all_ext ha hk2⟩ (by omega) _ ?_
              simp -implicitDefEqProofs (maxSteps := 1000000) (disch := (first | omega | (simp only [go_sem] <;> omega) | fail)) only [go_sem, ints, bools, mat, reduceIte, Nat.reduceEqDiff, Nat.reduceAdd, Nat.reduceBEq, Nat.reduceMul, Nat.reduceLeDiff, Nat.reduceLT, Nat.reduceMod, Nat.reduceDiv, Nat.reduceSub, reduceCtorEq]
              rw [hst]; simp
        · have : i = (spL l).length := by omega
          subst this
          rw [List.take_of_length_le (by omega)]
          repeat' (first | simp -implicitDefEqProofs (maxSteps := 1000000) (disch := (first | omega | (simp only [go_sem] <;> omega) | fail)) only [go_sem, ints, bools, mat, reduceIte, Nat.reduceEqDiff, Nat.reduceAdd, Nat.reduceBEq, Nat.reduceMul, Nat.reduceLeDiff, Nat.reduceLT, Nat.reduceMod, Nat.reduceDiv, Nat.reduceSub, reduceCtorEq] | ((first | refine goIf_b (fun h => ?_) (fun h => ?_) | refine goG_b (fun h => ?_) (fun h => ?_) | refine goTG_b (fun h => ?_) (fun h => ?_) | refine goOG_b (fun h => ?_) (fun h => ?_)) <;> ((try simp only [Bool.not_eq_true', Bool.not_eq_false'] at h); (try simp only [h]); (try simp only [decide_eq_true_eq, decide_eq_false_iff_not, bne_iff_ne, bne_eq_false_iff_eq, beq_iff_eq, beq_eq_false_iff_ne, ne_eq, Int.not_lt, Int.not_le, Bool.and_eq_true, Bool.and_eq_false_iff, Bool.or_eq_true, Bool.or_eq_false_iff] at h)) <;> (try (exfalso; omega))))
          have hisl := d_impl_isSlip l0 (psT l) (by omega) hq
          by_cases hsp : isSlipM l0 (psT l) = true
          · rw [hok (hG.2 ⟨h40, ha, hsp⟩)]
            rw [hsp] at hisl
            first | refine goC_call [.r, .r] (hisl) ?_ | refine goOC_call [.r, .r] (hisl) ?_
            repeat' (first | simp -implicitDefEqProofs (maxSteps := 1000000) (disch := (first | omega | (simp only [go_sem] <;> omega) | fail)) only [go_sem, ints, bools, mat, reduceIte, Nat.reduceEqDiff, Nat.reduceAdd, Nat.reduceBEq, Nat.reduceMul, Nat.reduceLeDiff, Nat.reduceLT, Nat.reduceMod, Nat.reduceDiv, Nat.reduceSub, reduceCtorEq] | ((first | refine goIf_b (fun h => ?_) (fun h => ?_) | refine goG_b (fun h => ?_) (fun h => ?_) | refine goTG_b (fun h => ?_) (fun h => ?_) | refine goOG_b (fun h => ?_) (fun h => ?_)) <;> ((try simp only [Bool.not_eq_true', Bool.not_eq_false'] at h); (try simp only [h]); (try simp only [decide_eq_true_eq, decide_eq_false_iff_not, bne_iff_ne, bne_eq_false_iff_eq, beq_iff_eq, beq_eq_false_iff_ne, ne_eq, Int.not_lt, Int.not_le, Bool.and_eq_true, Bool.and_eq_false_iff, Bool.or_eq_true, Bool.or_eq_false_iff] at h)) <;> (try (exfalso; omega))))
          · rw [hno (fun h => hsp (hG.1 h).2.2)]
            rw [Bool.not_eq_true] at hsp
            rw [hsp] at hisl
            first | refine goC_call [.r, .r] (hisl) ?_ | refine goOC_call [.r, .r] (hisl) ?_
            repeat' (first | simp -implicitDefEqProofs (maxSteps := 1000000) (disch := (first | omega | (simp only [go_sem] <;> omega) | fail)) only [go_sem, ints, bools, mat, reduceIte, Nat.reduceEqDiff, Nat.reduceAdd, Nat.reduceBEq, Nat.reduceMul, Nat.reduceLeDiff, Nat.reduceLT, Nat.reduceMod, Nat.reduceDiv, Nat.reduceSub, reduceCtorEq] | ((first | refine goIf_b (fun h => ?_) (fun h => ?_) | refine goG_b (fun h => ?_) (fun h => ?_) | refine goTG_b (fun h => ?_) (fun h => ?_) | refine goOG_b (fun h => ?_) (fun h => ?_)) <;> ((try simp only [Bool.not_eq_true', Bool.not_eq_false'] at h); (try simp only [h]); (try simp only [decide_eq_true_eq, decide_eq_false_iff_not, bne_iff_ne, bne_eq_false_iff_eq, beq_iff_eq, beq_eq_false_iff_ne, ne_eq, Int.not_lt, Int.not_le, Bool.and_eq_true, Bool.and_eq_false_iff, Bool.or_eq_true, Bool.or_eq_false_iff] at h)) <;> (try (exfalso; omega))))
    · rw [hno (fun h => h40 (hG.1 h).1)]
      repeat' (first | simp -implicitDefEqProofs (maxSteps := 1000000) (disch := (first | omega | (simp only [go_sem] <;> omega) | fail)) only [go_sem, ints, bools, mat, reduceIte, Nat.reduceEqDiff, Nat.reduceAdd, Nat.reduceBEq, Nat.reduceMul, Nat.reduceLeDiff, Nat.reduceLT, Nat.reduceMod, Nat.reduceDiv, Nat.reduceSub, reduceCtorEq] | ((first | refine goIf_b (fun h => ?_) (fun h => ?_) | refine goG_b (fun h => ?_) (fun h => ?_) | refine goTG_b (fun h => ?_) (fun h => ?_) | refine goOG_b (fun h => ?_) (fun h => ?_)) <;> ((try simp only [Bool.not_eq_true', Bool.not_eq_false'] at h); (try simp only [h]); (try simp only [decide_eq_true_eq, decide_eq_false_iff_not, bne_iff_ne, bne_eq_false_iff_eq, beq_iff_eq, beq_eq_false_iff_ne, ne_eq, Int.not_lt, Int.not_le, Bool.and_eq_true, Bool.and_eq_false_iff, Bool.or_eq_true, Bool.or_eq_false_iff] at h)) <;> (try (exfalso; omega))))
  · have e : psC l0 l = 1 := if_neg hs
    rw [lstR_no (by rw [e]; decide), e]
    refine den_go [] l_impl_ParseSlip ?_
    repeat' (first | simp -implicitDefEqProofs (maxSteps := 1000000) (disch := (first | omega | (simp only [go_sem] <;> omega) | fail)) only [go_sem, ints, bools, mat, reduceIte, Nat.reduceEqDiff, Nat.reduceAdd, Nat.reduceBEq, Nat.reduceMul, Nat.reduceLeDiff, Nat.reduceLT, Nat.reduceMod, Nat.reduceDiv, Nat.reduceSub, reduceCtorEq, c_impl_ParseSlip] | ((first | refine goIf_b (fun h => ?_) (fun h => ?_) | refine goG_b (fun h => ?_) (fun h => ?_) | refine goTG_b (fun h => ?_) (fun h => ?_) | refine goOG_b (fun h => ?_) (fun h => ?_)) <;> ((try simp only [Bool.not_eq_true', Bool.not_eq_false'] at h); (try simp only [h]); (try simp only [decide_eq_true_eq, decide_eq_false_iff_not, bne_iff_ne, bne_eq_false_iff_eq, beq_iff_eq, beq_eq_false_iff_ne, ne_eq, Int.not_lt, Int.not_le, Bool.and_eq_true, Bool.and_eq_false_iff, Bool.or_eq_true, Bool.or_eq_false_iff] at h)) <;> (try (exfalso; omega))))
    first | refine goC_call [.r] (d_impl_IsSpace l0 hl0) ?_ | refine goOC_call [.r] (d_impl_IsSpace l0 hl0) ?_
    rw [Bool.not_eq_true] at hs
    rw [hs]
    repeat' (first | simp -implicitDefEqProofs (maxSteps := 1000000) (disch := (first | omega | (simp only [go_sem] <;> omega) | fail)) only [go_sem, ints, bools, mat, reduceIte, Nat.reduceEqDiff, Nat.reduceAdd, Nat.reduceBEq, Nat.reduceMul, Nat.reduceLeDiff, Nat.reduceLT, Nat.reduceMod, Nat.reduceDiv, Nat.reduceSub, reduceCtorEq] | ((first | refine goIf_b (fun h => ?_) (fun h => ?_) | refine goG_b (fun h => ?_) (fun h => ?_) | refine goTG_b (fun h => ?_) (fun h => ?_) | refine goOG_b (fun h => ?_) (fun h => ?_)) <;> ((try simp only [Bool.not_eq_true', Bool.not_eq_false'] at h); (try simp only [h]); (try simp only [decide_eq_true_eq, decide_eq_false_iff_not, bne_iff_ne, bne_eq_false_iff_eq, beq_iff_eq, beq_eq_false_iff_ne, ne_eq, Int.not_lt, Int.not_le, Bool.and_eq_true, Bool.and_eq_false_iff, Bool.or_eq_true, Bool.or_eq_false_iff] at h)) <;> (try (exfalso; omega))))
theorem BY_sg (m : Int) : BY (sgB m) := fun x hx => by
  obtain ⟨d, hd, rfl⟩ := List.mem_map.1 hx
  obtain ⟨k, hk, rfl⟩ := List.mem_map.1 hd
  have := List.mem_range.1 (List.mem_filter.1 hk).1
  omega
theorem BY_tx (t : List Int) : ∀ i, BY (txN t i)
  | 0 => fun x hx => by simp [txN] at hx
  | i + 1 => fun x hx => by
    rw [txN, List.mem_append, List.mem_append] at hx
    rcases hx with hx | hx | hx
    · exact BY_tx t i x hx
    · split at hx
      · simp at hx; subst hx; decide
      · simp at hx
    · exact BY_sg _ x hx
theorem d_spec_l07Is_long (l t : List Int) (ht : t.length < 1099511627776) (hl : ∀ j, j < l.length → 2 ≤ l.getD j 0 ∧ l.getD j 0 ≤ 4) :
    Den PA f_spec_l07Is [.d (.agg [ints l]), .d (ints t)] [.any, .any] (.d (db (isSlipM l t))) := by
  have e := isSlipM_ok l t
  refine den_go [] l_spec_l07Is ?_
  repeat' (first | simp -implicitDefEqProofs (maxSteps := 1000000) (disch := (first | omega | (simp only [go_sem] <;> omega) | fail)) only [go_sem, ints, bools, mat, reduceIte, Nat.reduceEqDiff, Nat.reduceAdd, Nat.reduceBEq, Nat.reduceMul, Nat.reduceLeDiff, Nat.reduceLT, Nat.reduceMod, Nat.reduceDiv, Nat.reduceSub, reduceCtorEq, c_spec_l07Is] | ((first | refine goIf_b (fun h => ?_) (fun h => ?_) | refine goG_b (fun h => ?_) (fun h => ?_) | refine goTG_b (fun h => ?_) (fun h => ?_) | refine goOG_b (fun h => ?_) (fun h => ?_)) <;> ((try simp only [Bool.not_eq_true', Bool.not_eq_false'] at h); (try simp only [h]); (try simp only [decide_eq_true_eq, decide_eq_false_iff_not, bne_iff_ne, bne_eq_false_iff_eq, beq_iff_eq, beq_eq_false_iff_ne, ne_eq, Int.not_lt, Int.not_le, Bool.and_eq_true, Bool.and_eq_false_iff, Bool.or_eq_true, Bool.or_eq_false_iff] at h))))
  · exact dbF fun h' => by have := (e.1 h').1; omega
  refine go_loop (fun (j : Nat) => ⟨[(1, .d (ints t)), (2, .ref 0 0), (13, .d (di t.length)), (14, .d (di j))], [some (.var [ints l])]⟩) (fun j => j ≤ t.length ∧ ∀ i, i < j → 1 ≤ t.getD i 0 ∧ t.getD i 0 < 2 ^ (l.getD i 0).toNat) (fun j => t.length - j) 0 ?_ ?_ ?_
  · (simp -implicitDefEqProofs (maxSteps := 1000000) (disch := (first | omega | (simp only [go_sem] <;> omega) | fail)) only [go_sem, ints, bools, mat, reduceIte, Nat.reduceEqDiff, Nat.reduceAdd, Nat.reduceBEq, Nat.reduceMul, Nat.reduceLeDiff, Nat.reduceLT, Nat.reduceMod, Nat.reduceDiv, Nat.reduceSub, reduceCtorEq] <;> rfl)
  · simp
  · rintro j ⟨hj, hi⟩ J hJ
    have hq := hl j
    have hp := two_pow_lt (b := (l.getD j 0).toNat)
    repeat' (first | simp -implicitDefEqProofs (maxSteps := 1000000) (disch := (first | omega | (simp only [go_sem] <;> omega) | fail)) only [go_sem, ints, bools, mat, reduceIte, Nat.reduceEqDiff, Nat.reduceAdd, Nat.reduceBEq, Nat.reduceMul, Nat.reduceLeDiff, Nat.reduceLT, Nat.reduceMod, Nat.reduceDiv, Nat.reduceSub, reduceCtorEq] | ((first | refine goIf_b (fun h => ?_) (fun h => ?_) | refine goG_b (fun h => ?_) (fun h => ?_) | refine goTG_b (fun h => ?_) (fun h => ?_) | refine goOG_b (fun h => ?_) (fun h => ?_)) <;> ((try simp only [Bool.not_eq_true', Bool.not_eq_false'] at h); (try simp only [h]); (try simp only [decide_eq_true_eq, decide_eq_false_iff_not, bne_iff_ne, bne_eq_false_iff_eq, beq_iff_eq, beq_eq_false_iff_ne, ne_eq, Int.not_lt, Int.not_le, Bool.and_eq_true, Bool.and_eq_false_iff, Bool.or_eq_true, Bool.or_eq_false_iff] at h))))
    · first | refine goC_call [.r, .r, .r] (d_spec_l01In (t.getD j 0) 1 (2 ^ (l.getD j 0).toNat - 1)) ?_ | refine goOC_call [.r, .r, .r] (d_spec_l01In (t.getD j 0) 1 (2 ^ (l.getD j 0).toNat - 1)) ?_
      repeat' (first | simp -implicitDefEqProofs (maxSteps := 1000000) (disch := (first | omega | (simp only [go_sem] <;> omega) | fail)) only [go_sem, ints, bools, mat, reduceIte, Nat.reduceEqDiff, Nat.reduceAdd, Nat.reduceBEq, Nat.reduceMul, Nat.reduceLeDiff, Nat.reduceLT, Nat.reduceMod, Nat.reduceDiv, Nat.reduceSub, reduceCtorEq] | ((first | refine goIf_b (fun h => ?_) (fun h => ?_) | refine goG_b (fun h => ?_) (fun h => ?_) | refine goTG_b (fun h => ?_) (fun h => ?_) | refine goOG_b (fun h => ?_) (fun h => ?_)) <;> ((try simp only [Bool.not_eq_true', Bool.not_eq_false'] at h); (try simp only [h]); (try simp only [decide_eq_true_eq, decide_eq_false_iff_not, bne_iff_ne, bne_eq_false_iff_eq, beq_iff_eq, beq_eq_false_iff_ne, ne_eq, Int.not_lt, Int.not_le, Bool.and_eq_true, Bool.and_eq_false_iff, Bool.or_eq_true, Bool.or_eq_false_iff] at h))))
      · refine hJ (j + 1) ⟨by omega, all_ext hi (by omega)⟩ (by omega) _ (by (simp -implicitDefEqProofs (maxSteps := 1000000) (disch := (first | omega | (simp only [go_sem] <;> omega) | fail)) only [go_sem, ints, bools, mat, reduceIte, Nat.reduceEqDiff, Nat.reduceAdd, Nat.reduceBEq, Nat.reduceMul, Nat.reduceLeDiff, Nat.reduceLT, Nat.reduceMod, Nat.reduceDiv, Nat.reduceSub, reduceCtorEq] <;> rfl))
      · exact dbF fun h' => by have := (e.1 h').2 j (by omega); omega
    · exact dbT (e.2 ⟨by omega, fun i hi' => hi i (by omega)⟩)
theorem d_spec_l07Read (l0 l : List Int) (hs : isSpaceM l0 = true) (hl : BY l) (hll : l.length < 1048577) : Den PA f_spec_l07Read [.d (.agg [ints l0]), .d (sn l)] [.any, .any] (.tup [.own 1 ((psT l).map di), .d (db (psG l0 l))]) := by
  have hT := psT_len l
  have hn := isSpaceM_n hs
  have hq := isSpaceM_q hs
  have hcl : l.count 46 ≤ l.length := List.count_le_length
  have hsl := spL_count l
  have hsm := spL_mem hl
  refine den_go [] l_spec_l07Read ?_
  repeat' (first | simp -implicitDefEqProofs (maxSteps := 1000000) (disch := (first | omega | (simp only [go_sem] <;> omega) | fail)) only [go_sem, ints, bools, mat, reduceIte, Nat.reduceEqDiff, Nat.reduceAdd, Nat.reduceBEq, Nat.reduceMul, Nat.reduceLeDiff, Nat.reduceLT, Nat.reduceMod, Nat.reduceDiv, Nat.reduceSub, reduceCtorEq, c_spec_l07Read] | ((first | refine goIf_b (fun h => ?_) (fun h => ?_) | refine goG_b (fun h => ?_) (fun h => ?_) | refine goTG_b (fun h => ?_) (fun h => ?_) | refine goOG_b (fun h => ?_) (fun h => ?_)) <;> ((try simp only [Bool.not_eq_true', Bool.not_eq_false'] at h); (try simp only [h]); (try simp only [decide_eq_true_eq, decide_eq_false_iff_not, bne_iff_ne, bne_eq_false_iff_eq, beq_iff_eq, beq_eq_false_iff_ne, ne_eq, Int.not_lt, Int.not_le, Bool.and_eq_true, Bool.and_eq_false_iff, Bool.or_eq_true, Bool.or_eq_false_iff] at h)) <;> (try (exfalso; omega))))
  first | refine goC_call [.r, .r] (d_spec_l01Split l hl hll) ?_ | refine goOC_call [.r, .r] (d_spec_l01Split l hl hll) ?_
  repeat' (first | simp -implicitDefEqProofs (maxSteps := 1000000) (disch := (first | omega | (simp only [go_sem] <;> omega) | fail)) only [go_sem, ints, bools, mat, reduceIte, Nat.reduceEqDiff, Nat.reduceAdd, Nat.reduceBEq, Nat.reduceMul, Nat.reduceLeDiff, Nat.reduceLT, Nat.reduceMod, Nat.reduceDiv, Nat.reduceSub, reduceCtorEq] | ((first | refine goIf_b (fun h => ?_) (fun h => ?_) | refine goG_b (fun h => ?_) (fun h => ?_) | refine goTG_b (fun h => ?_) (fun h => ?_) | refine goOG_b (fun h => ?_) (fun h => ?_)) <;> ((try simp only [Bool.not_eq_true', Bool.not_eq_false'] at h); (try simp only [h]); (try simp only [decide_eq_true_eq, decide_eq_false_iff_not, bne_iff_ne, bne_eq_false_iff_eq, beq_iff_eq, beq_eq_false_iff_ne, ne_eq, Int.not_lt, Int.not_le, Bool.and_eq_true, Bool.and_eq_false_iff, Bool.or_eq_true, Bool.or_eq_false_iff] at h)) <;> (try (exfalso; omega))))
  refine go_loop (fun (i : Nat) => ⟨[(1, .d (sn l)), (2, .ref 0 0), (6, .sl 1 0 (spL l).length 1), (7, .sl 2 0 i 1), (15, .d (di (spL l).length)), (16, .d (di i))], [some (.var [ints l0]), some (.dat 1 ((spL l).map fun x => sn x)), some (.dat 1 (((psT l).take i).map di))]⟩) (fun i => i ≤ (spL l).length) (fun i => (spL l).length - i) 0 ?_ ?_ ?_
  · (simp -implicitDefEqProofs (maxSteps := 1000000) (disch := (first | omega | (simp only [go_sem] <;> omega) | fail)) only [go_sem, ints, bools, mat, reduceIte, Nat.reduceEqDiff, Nat.reduceAdd, Nat.reduceBEq, Nat.reduceMul, Nat.reduceLeDiff, Nat.reduceLT, Nat.reduceMod, Nat.reduceDiv, Nat.reduceSub, reduceCtorEq] <;> rfl)
  · exact Nat.zero_le _
  · rintro i hi J hJ
    by_cases hil : i < (spL l).length
    · have hst := psT_step l hil
      obtain ⟨hpb, hpl⟩ := hsm _ (show (spL l).getD i [] ∈ spL l by simp [hil])
      repeat' (first | simp -implicitDefEqProofs (maxSteps := 1000000) (disch := (first | omega | (simp only [go_sem] <;> omega) | fail)) only [go_sem, ints, bools, mat, reduceIte, Nat.reduceEqDiff, Nat.reduceAdd, Nat.reduceBEq, Nat.reduceMul, Nat.reduceLeDiff, Nat.reduceLT, Nat.reduceMod, Nat.reduceDiv, Nat.reduceSub, reduceCtorEq] | ((first | refine goIf_b (fun h => ?_) (fun h => ?_) | refine goG_b (fun h => ?_) (fun h => ?_) | refine goTG_b (fun h => ?_) (fun h => ?_) | refine goOG_b (fun h => ?_) (fun h => ?_)) <;> ((try simp only [Bool.not_eq_true', Bool.not_eq_false'] at h); (try simp only [h]); (try simp only [decide_eq_true_eq, decide_eq_false_iff_not, bne_iff_ne, bne_eq_false_iff_eq, beq_iff_eq, beq_eq_false_iff_ne, ne_eq, Int.not_lt, Int.not_le, Bool.and_eq_true, Bool.and_eq_false_iff, Bool.or_eq_true, Bool.or_eq_false_iff] at h)) <;> (try (exfalso; omega))))
      refine go_loop (fun (k : Nat) => ⟨[(1, .d (sn l)), (2, .ref 0 0), (6, .sl 1 0 (spL l).length 1), (7, .sl 2 0 i 1), (8, .d (di i)), (9, .d (di (ptB (((spL l).getD i []).take k)))), (10, .d (di k)), (15, .d (di (spL l).length)), (16, .d (di i))], [some (.var [ints l0]), some (.dat 1 ((spL l).map fun x => sn x)), some (.dat 1 (((psT l).take i).map di))]⟩) (fun k => k ≤ ((spL l).getD i []).length) (fun k => ((spL l).getD i []).length - k) 0 ?_ ?_ ?_
      · (simp -implicitDefEqProofs (maxSteps := 1000000) (disch := (first | omega | (simp only [go_sem] <;> omega) | fail)) only [go_sem, ints, bools, mat, reduceIte, Nat.reduceEqDiff, Nat.reduceAdd, Nat.reduceBEq, Nat.reduceMul, Nat.reduceLeDiff, Nat.reduceLT, Nat.reduceMod, Nat.reduceDiv, Nat.reduceSub, reduceCtorEq] <;> rfl)
      · exact Nat.zero_le _
      · rintro k hk J2 hJ2
        by_cases hkl : k < ((spL l).getD i []).length
        · have hix := ixtA_n hpb hkl
          have hbb := hpb _ (mem_getD hkl)
          have hpm := ptB_bnd ((spL l).getD i []) k hk
          have hps := ptB_snoc ((spL l).getD i []) hkl
          have hpw := two_pow_lt (b := (((spL l).getD i []).getD k 0 - 48).toNat)
          repeat' (first | simp -implicitDefEqProofs (maxSteps := 1000000) (disch := (first | omega | (simp only [go_sem] <;> omega) | fail)) only [go_sem, ints, bools, mat, reduceIte, Nat.reduceEqDiff, Nat.reduceAdd, Nat.reduceBEq, Nat.reduceMul, Nat.reduceLeDiff, Nat.reduceLT, Nat.reduceMod, Nat.reduceDiv, Nat.reduceSub, reduceCtorEq, hix] | ((first | refine goIf_b (fun h => ?_) (fun h => ?_) | refine goG_b (fun h => ?_) (fun h => ?_) | refine goTG_b (fun h => ?_) (fun h => ?_) | refine goOG_b (fun h => ?_) (fun h => ?_)) <;> ((try simp only [Bool.not_eq_true', Bool.not_eq_false'] at h); (try simp only [h]); (try simp only [decide_eq_true_eq, decide_eq_false_iff_not, bne_iff_ne, bne_eq_false_iff_eq, beq_iff_eq, beq_eq_false_iff_ne, ne_eq, Int.not_lt, Int.not_le, Bool.and_eq_true, Bool.and_eq_false_iff, Bool.or_eq_true, Bool.or_eq_false_iff] at h)) <;> (try (exfalso; omega))))
          · refine hJ2 (k + 1) (by omega) (by omega) _ ?_
            simp -implicitDefEqProofs (maxSteps := 1000000) (disch := (first | omega | (simp only [go_sem] <;> omega) | fail)) only [go_sem, ints, bools, mat, reduceIte, Nat.reduceEqDiff, Nat.reduceAdd, Nat.reduceBEq, Nat.reduceMul, Nat.reduceLeDiff, Nat.reduceLT, Nat.reduceMod, Nat.reduceDiv, Nat.reduceSub, reduceCtorEq]
            rw [hps, ptS, if_pos ⟨by assumption, by assumption⟩]; rfl
          · refine hJ2 (k + 1) (by omega) (by omega) _ ?_
            simp -implicitDefEqProofs (maxSteps := 1000000) (disch := (first | omega | (simp only [go_sem] <;> omega) | fail)) only [go_sem, ints, bools, mat, reduceIte, Nat.reduceEqDiff, Nat.reduceAdd, Nat.reduceBEq, Nat.reduceMul, Nat.reduceLeDiff, Nat.reduceLT, Nat.reduceMod, Nat.reduceDiv, Nat.reduceSub, reduceCtorEq]
            rw [hps, ptS, if_neg (by omega)]; rfl
          · refine hJ2 (k + 1) (by omega) (by omega) _ ?_
            simp -implicitDefEqProofs (maxSteps := 1000000) (disch := (first | omega | (simp only [go_sem] <;> omega) | fail)) only [go_sem, ints, bools, mat, reduceIte, Nat.reduceEqDiff, Nat.reduceAdd, Nat.reduceBEq, Nat.reduceMul, Nat.reduceLeDiff, Nat.reduceLT, Nat.reduceMod, Nat.reduceDiv, Nat.reduceSub, reduceCtorEq]
            rw [hps, ptS, if_neg (by omega)]; rfl
        · have : k = ((spL l).getD i []).length := by omega
          subst this
          repeat' (first | simp -implicitDefEqProofs (maxSteps := 1000000) (disch := (first | omega | (simp only [go_sem] <;> omega) | fail)) only [go_sem, ints, bools, mat, reduceIte, Nat.reduceEqDiff, Nat.reduceAdd, Nat.reduceBEq, Nat.reduceMul, Nat.reduceLeDiff, Nat.reduceLT, Nat.reduceMod, Nat.reduceDiv, Nat.reduceSub, reduceCtorEq] | ((first | refine goIf_b (fun h => ?_) (fun h => ?_) | refine goG_b (fun h => ?_) (fun h => ?_) | refine goTG_b (fun h => ?_) (fun h => ?_) | refine goOG_b (fun h => ?_) (fun h => ?_)) <;> ((try simp only [Bool.not_eq_true', Bool.not_eq_false'] at h); (try simp only [h]); (try simp only [decide_eq_true_eq, decide_eq_false_iff_not, bne_iff_ne, bne_eq_false_iff_eq, beq_iff_eq, beq_eq_false_iff_ne, ne_eq, Int.not_lt, Int.not_le, Bool.and_eq_true, Bool.and_eq_false_iff, Bool.or_eq_true, Bool.or_eq_false_iff] at h)) <;> (try (exfalso; omega))))
          refine hJ (i + 1) (by omega) (by omega) _ ?_
          simp -implicitDefEqProofs (maxSteps := 1000000) (disch := (first | omega | (simp only [go_sem] <;> omega) | fail)) only [go_sem, ints, bools, mat, reduceIte, Nat.reduceEqDiff, Nat.reduceAdd, Nat.reduceBEq, Nat.reduceMul, Nat.reduceLeDiff, Nat.reduceLT, Nat.reduceMod, Nat.reduceDiv, Nat.reduceSub, reduceCtorEq]
          rw [hst]; simp
    · have : i = (spL l).length := by omega
      subst this
      rw [List.take_of_length_le (by omega)]
      have hisl := d_spec_l07Is_long l0 (psT l) (by omega) hq
      by_cases hsp : isSlipM l0 (psT l) = true
      · obtain ⟨h3, h4⟩ := isSlipM_16 hs hsp
        rw [hsp] at hisl
        repeat' (first | simp -implicitDefEqProofs (maxSteps := 1000000) (disch := (first | omega | (simp only [go_sem] <;> omega) | fail)) only [go_sem, ints, bools, mat, reduceIte, Nat.reduceEqDiff, Nat.reduceAdd, Nat.reduceBEq, Nat.reduceMul, Nat.reduceLeDiff, Nat.reduceLT, Nat.reduceMod, Nat.reduceDiv, Nat.reduceSub, reduceCtorEq] | ((first | refine goIf_b (fun h => ?_) (fun h => ?_) | refine goG_b (fun h => ?_) (fun h => ?_) | refine goTG_b (fun h => ?_) (fun h => ?_) | refine goOG_b (fun h => ?_) (fun h => ?_)) <;> ((try simp only [Bool.not_eq_true', Bool.not_eq_false'] at h); (try simp only [h]); (try simp only [decide_eq_true_eq, decide_eq_false_iff_not, bne_iff_ne, bne_eq_false_iff_eq, beq_iff_eq, beq_eq_false_iff_ne, ne_eq, Int.not_lt, Int.not_le, Bool.and_eq_true, Bool.and_eq_false_iff, Bool.or_eq_true, Bool.or_eq_false_iff] at h)) <;> (try (exfalso; omega))))
        first | refine goC_call [.r, .r] (hisl) ?_ | refine goOC_call [.r, .r] (hisl) ?_
        repeat' (first | simp -implicitDefEqProofs (maxSteps := 1000000) (disch := (first | omega | (simp only [go_sem] <;> omega) | fail)) only [go_sem, ints, bools, mat, reduceIte, Nat.reduceEqDiff, Nat.reduceAdd, Nat.reduceBEq, Nat.reduceMul, Nat.reduceLeDiff, Nat.reduceLT, Nat.reduceMod, Nat.reduceDiv, Nat.reduceSub, reduceCtorEq] | ((first | refine goIf_b (fun h => ?_) (fun h => ?_) | refine goG_b (fun h => ?_) (fun h => ?_) | refine goTG_b (fun h => ?_) (fun h => ?_) | refine goOG_b (fun h => ?_) (fun h => ?_)) <;> ((try simp only [Bool.not_eq_true', Bool.not_eq_false'] at h); (try simp only [h]); (try simp only [decide_eq_true_eq, decide_eq_false_iff_not, bne_iff_ne, bne_eq_false_iff_eq, beq_iff_eq, beq_eq_false_iff_ne, ne_eq, Int.not_lt, Int.not_le, Bool.and_eq_true, Bool.and_eq_false_iff, Bool.or_eq_true, Bool.or_eq_false_iff] at h)) <;> (try (exfalso; omega))))
        first | refine goC_call [.r] (d_spec_l07Text (psT l) (by omega) h4) ?_ | refine goOC_call [.r] (d_spec_l07Text (psT l) (by omega) h4) ?_
        have heq := eqsA_n (BY_tx (psT l) (psT l).length) hl
        rw [hT] at heq
        repeat' (first | simp -implicitDefEqProofs (maxSteps := 1000000) (disch := (first | omega | (simp only [go_sem] <;> omega) | fail)) only [go_sem, ints, bools, mat, reduceIte, Nat.reduceEqDiff, Nat.reduceAdd, Nat.reduceBEq, Nat.reduceMul, Nat.reduceLeDiff, Nat.reduceLT, Nat.reduceMod, Nat.reduceDiv, Nat.reduceSub, reduceCtorEq, heq] | ((first | refine goIf_b (fun h => ?_) (fun h => ?_) | refine goG_b (fun h => ?_) (fun h => ?_) | refine goTG_b (fun h => ?_) (fun h => ?_) | refine goOG_b (fun h => ?_) (fun h => ?_)) <;> ((try simp only [Bool.not_eq_true', Bool.not_eq_false'] at h); (try simp only [h]); (try simp only [decide_eq_true_eq, decide_eq_false_iff_not, bne_iff_ne, bne_eq_false_iff_eq, beq_iff_eq, beq_eq_false_iff_ne, ne_eq, Int.not_lt, Int.not_le, Bool.and_eq_true, Bool.and_eq_false_iff, Bool.or_eq_true, Bool.or_eq_false_iff] at h)) <;> (try (exfalso; omega))))
        simp [psG, hsp, hT]
      · rw [Bool.not_eq_true] at hsp
        rw [hsp] at hisl
        repeat' (first | simp -implicitDefEqProofs (maxSteps := 1000000) (disch := (first | omega | (simp only [go_sem] <;> omega) | fail)) only [go_sem, ints, bools, mat, reduceIte, Nat.reduceEqDiff, Nat.reduceAdd, Nat.reduceBEq, Nat.reduceMul, Nat.reduceLeDiff, Nat.reduceLT, Nat.reduceMod, Nat.reduceDiv, Nat.reduceSub, reduceCtorEq] | ((first | refine goIf_b (fun h => ?_) (fun h => ?_) | refine goG_b (fun h => ?_) (fun h => ?_) | refine goTG_b (fun h => ?_) (fun h => ?_) | refine goOG_b (fun h => ?_) (fun h => ?_)) <;> ((try simp only [Bool.not_eq_true', Bool.not_eq_false'] at h); (try simp only [h]); (try simp only [decide_eq_true_eq, decide_eq_false_iff_not, bne_iff_ne, bne_eq_false_iff_eq, beq_iff_eq, beq_eq_false_iff_ne, ne_eq, Int.not_lt, Int.not_le, Bool.and_eq_true, Bool.and_eq_false_iff, Bool.or_eq_true, Bool.or_eq_false_iff] at h)) <;> (try (exfalso; omega))))
        first | refine goC_call [.r, .r] (hisl) ?_ | refine goOC_call [.r, .r] (hisl) ?_
        repeat' (first | simp -implicitDefEqProofs (maxSteps := 1000000) (disch := (first | omega | (simp only [go_sem] <;> omega) | fail)) only [go_sem, ints, bools, mat, reduceIte, Nat.reduceEqDiff, Nat.reduceAdd, Nat.reduceBEq, Nat.reduceMul, Nat.reduceLeDiff, Nat.reduceLT, Nat.reduceMod, Nat.reduceDiv, Nat.reduceSub, reduceCtorEq] | ((first | refine goIf_b (fun h => ?_) (fun h => ?_) | refine goG_b (fun h => ?_) (fun h => ?_) | refine goTG_b (fun h => ?_) (fun h => ?_) | refine goOG_b (fun h => ?_) (fun h => ?_)) <;> ((try simp only [Bool.not_eq_true', Bool.not_eq_false'] at h); (try simp only [h]); (try simp only [decide_eq_true_eq, decide_eq_false_iff_not, bne_iff_ne, bne_eq_false_iff_eq, beq_iff_eq, beq_eq_false_iff_ne, ne_eq, Int.not_lt, Int.not_le, Bool.and_eq_true, Bool.and_eq_false_iff, Bool.or_eq_true, Bool.or_eq_false_iff] at h)) <;> (try (exfalso; omega))))
        simp [psG, hsp]
theorem d_spec_ParseSlip (l0 l : List Int) (hl0 : l0.length < 1048577) (hl : BY l) (hll : l.length < 1048577) : Den PA f_spec_ParseSlip [.d (.agg [ints l0]), .d (sn l)] [.any, .any] (lstR (psC l0 l) (psT l)) := by
  have his := d_spec_l01Is l0 hl0
  by_cases hs : isSpaceM l0 = true
  · have hrd := d_spec_l07Read l0 l hs hl hll
    rw [hs] at his
    refine den_go [] l_spec_ParseSlip ?_
    repeat' (first | simp -implicitDefEqProofs (maxSteps := 1000000) (disch := (first | omega | (simp only [go_sem] <;> omega) | fail)) only [go_sem, ints, bools, mat, reduceIte, Nat.reduceEqDiff, Nat.reduceAdd, Nat.reduceBEq, Nat.reduceMul, Nat.reduceLeDiff, Nat.reduceLT, Nat.reduceMod, Nat.reduceDiv, Nat.reduceSub, reduceCtorEq, c_spec_ParseSlip] | ((first | refine goIf_b (fun h => ?_) (fun h => ?_) | refine goG_b (fun h => ?_) (fun h => ?_) | refine goTG_b (fun h => ?_) (fun h => ?_) | refine goOG_b (fun h => ?_) (fun h => ?_)) <;> ((try simp only [Bool.not_eq_true', Bool.not_eq_false'] at h); (try simp only [h]); (try simp only [decide_eq_true_eq, decide_eq_false_iff_not, bne_iff_ne, bne_eq_false_iff_eq, beq_iff_eq, beq_eq_false_iff_ne, ne_eq, Int.not_lt, Int.not_le, Bool.and_eq_true, Bool.and_eq_false_iff, Bool.or_eq_true, Bool.or_eq_false_iff] at h)) <;> (try (exfalso; omega))))
    first | refine goC_call [.r] (his) ?_ | refine goOC_call [.r] (his) ?_
    by_cases hG : psG l0 l = true
    · rw [lstR_ok (show psC l0 l = 0 by rw [psC, if_pos hs, if_pos hG])]
      rw [hG] at hrd
      repeat' (first | simp -implicitDefEqProofs (maxSteps := 1000000) (disch := (first | omega | (simp only [go_sem] <;> omega) | fail)) only [go_sem, ints, bools, mat, reduceIte, Nat.reduceEqDiff, Nat.reduceAdd, Nat.reduceBEq, Nat.reduceMul, Nat.reduceLeDiff, Nat.reduceLT, Nat.reduceMod, Nat.reduceDiv, Nat.reduceSub, reduceCtorEq] | ((first | refine goIf_b (fun h => ?_) (fun h => ?_) | refine goG_b (fun h => ?_) (fun h => ?_) | refine goTG_b (fun h => ?_) (fun h => ?_) | refine goOG_b (fun h => ?_) (fun h => ?_)) <;> ((try simp only [Bool.not_eq_true', Bool.not_eq_false'] at h); (try simp only [h]); (try simp only [decide_eq_true_eq, decide_eq_false_iff_not, bne_iff_ne, bne_eq_false_iff_eq, beq_iff_eq, beq_eq_false_iff_ne, ne_eq, Int.not_lt, Int.not_le, Bool.and_eq_true, Bool.and_eq_false_iff, Bool.or_eq_true, Bool.or_eq_false_iff] at h)) <;> (try (exfalso; omega))))
      first | refine goC_call [.r, .r] (hrd) ?_ | refine goOC_call [.r, .r] (hrd) ?_
      repeat' (first | simp -implicitDefEqProofs (maxSteps := 1000000) (disch := (first | omega | (simp only [go_sem] <;> omega) | fail)) only [go_sem, ints, bools, mat, reduceIte, Nat.reduceEqDiff, Nat.reduceAdd, Nat.reduceBEq, Nat.reduceMul, Nat.reduceLeDiff, Nat.reduceLT, Nat.reduceMod, Nat.reduceDiv, Nat.reduceSub, reduceCtorEq] | ((first | refine goIf_b (fun h => ?_) (fun h => ?_) | refine goG_b (fun h => ?_) (fun h => ?_) | refine goTG_b (fun h => ?_) (fun h => ?_) | refine goOG_b (fun h => ?_) (fun h => ?_)) <;> ((try simp only [Bool.not_eq_true', Bool.not_eq_false'] at h); (try simp only [h]); (try simp only [decide_eq_true_eq, decide_eq_false_iff_not, bne_iff_ne, bne_eq_false_iff_eq, beq_iff_eq, beq_eq_false_iff_ne, ne_eq, Int.not_lt, Int.not_le, Bool.and_eq_true, Bool.and_eq_false_iff, Bool.or_eq_true, Bool.or_eq_false_iff] at h)) <;> (try (exfalso; omega))))
    · have e : psC l0 l = 6 := by rw [psC, if_pos hs, if_neg hG]
      rw [lstR_no (by rw [e]; decide), e]
      rw [Bool.not_eq_true] at hG
      rw [hG] at hrd
      repeat' (first | simp -implicitDefEqProofs (maxSteps := 1000000) (disch := (first | omega | (simp only [go_sem] <;> omega) | fail)) only [go_sem, ints, bools, mat, reduceIte, Nat.reduceEqDiff, Nat.reduceAdd, Nat.reduceBEq, Nat.reduceMul, Nat.reduceLeDiff, Nat.reduceLT, Nat.reduceMod, Nat.reduceDiv, Nat.reduceSub, reduceCtorEq] | ((first | refine goIf_b (fun h => ?_) (fun h => ?_) | refine goG_b (fun h => ?_) (fun h => ?_) | refine goTG_b (fun h => ?_) (fun h => ?_) | refine goOG_b (fun h => ?_) (fun h => ?_)) <;> ((try simp only [Bool.not_eq_true', Bool.not_eq_false'] at h); (try simp only [h]); (try simp only [decide_eq_true_eq, decide_eq_false_iff_not, bne_iff_ne, bne_eq_false_iff_eq, beq_iff_eq, beq_eq_false_iff_ne, ne_eq, Int.not_lt, Int.not_le, Bool.and_eq_true, Bool.and_eq_false_iff, Bool.or_eq_true, Bool.or_eq_false_iff] at h)) <;> (try (exfalso; omega))))
      first | refine goC_call [.r, .r] (hrd) ?_ | refine goOC_call [.r, .r] (hrd) ?_
      repeat' (first | simp -implicitDefEqProofs (maxSteps := 1000000) (disch := (first | omega | (simp only [go_sem] <;> omega) | fail)) only [go_sem, ints, bools, mat, reduceIte, Nat.reduceEqDiff, Nat.reduceAdd, Nat.reduceBEq, Nat.reduceMul, Nat.reduceLeDiff, Nat.reduceLT, Nat.reduceMod, Nat.reduceDiv, Nat.reduceSub, reduceCtorEq] | ((first | refine goIf_b (fun h => ?_) (fun h => ?_) | refine goG_b (fun h => ?_) (fun h => ?_) | refine goTG_b (fun h => ?_) (fun h => ?_) | refine goOG_b (fun h => ?_) (fun h => ?_)) <;> ((try simp only [Bool.not_eq_true', Bool.not_eq_false'] at h); (try simp only [h]); (try simp only [decide_eq_true_eq, decide_eq_false_iff_not, bne_iff_ne, bne_eq_false_iff_eq, beq_iff_eq, beq_eq_false_iff_ne, ne_eq, Int.not_lt, Int.not_le, Bool.and_eq_true, Bool.and_eq_false_iff, Bool.or_eq_true, Bool.or_eq_false_iff] at h)) <;> (try (exfalso; omega))))
  · have e : psC l0 l = 1 := if_neg hs
    rw [lstR_no (by rw [e]; decide), e]
    rw [Bool.not_eq_true] at hs
    rw [hs] at his
    refine den_go [] l_spec_ParseSlip ?_
    repeat' (first | simp -implicitDefEqProofs (maxSteps := 1000000) (disch := (first | omega | (simp only [go_sem] <;> omega) | fail)) only [go_sem, ints, bools, mat, reduceIte, Nat.reduceEqDiff, Nat.reduceAdd, Nat.reduceBEq, Nat.reduceMul, Nat.reduceLeDiff, Nat.reduceLT, Nat.reduceMod, Nat.reduceDiv, Nat.reduceSub, reduceCtorEq, c_spec_ParseSlip] | ((first | refine goIf_b (fun h => ?_) (fun h => ?_) | refine goG_b (fun h => ?_) (fun h => ?_) | refine goTG_b (fun h => ?_) (fun h => ?_) | refine goOG_b (fun h => ?_) (fun h => ?_)) <;> ((try simp only [Bool.not_eq_true', Bool.not_eq_false'] at h); (try simp only [h]); (try simp only [decide_eq_true_eq, decide_eq_false_iff_not, bne_iff_ne, bne_eq_false_iff_eq, beq_iff_eq, beq_eq_false_iff_ne, ne_eq, Int.not_lt, Int.not_le, Bool.and_eq_true, Bool.and_eq_false_iff, Bool.or_eq_true, Bool.or_eq_false_iff] at h)) <;> (try (exfalso; omega))))
    first | refine goC_call [.r] (his) ?_ | refine goOC_call [.r] (his) ?_
    repeat' (first | simp -implicitDefEqProofs (maxSteps := 1000000) (disch := (first | omega | (simp only [go_sem] <;> omega) | fail)) only [go_sem, ints, bools, mat, reduceIte, Nat.reduceEqDiff, Nat.reduceAdd, Nat.reduceBEq, Nat.reduceMul, Nat.reduceLeDiff, Nat.reduceLT, Nat.reduceMod, Nat.reduceDiv, Nat.reduceSub, reduceCtorEq] | ((first | refine goIf_b (fun h => ?_) (fun h => ?_) | refine goG_b (fun h => ?_) (fun h => ?_) | refine goTG_b (fun h => ?_) (fun h => ?_) | refine goOG_b (fun h => ?_) (fun h => ?_)) <;> ((try simp only [Bool.not_eq_true', Bool.not_eq_false'] at h); (try simp only [h]); (try simp only [decide_eq_true_eq, decide_eq_false_iff_not, bne_iff_ne, bne_eq_false_iff_eq, beq_iff_eq, beq_eq_false_iff_ne, ne_eq, Int.not_lt, Int.not_le, Bool.and_eq_true, Bool.and_eq_false_iff, Bool.or_eq_true, Bool.or_eq_false_iff] at h)) <;> (try (exfalso; omega))))
@[go_sem] theorem binA_shr33 {a : Int} : binA .shr (.d (.v (.int .u64 a))) (.d (.v (.int .u64 33))) = some (.d (.v (.int .u64 (a / 8589934592)))) := by
  have e : min (33 : Int).toNat 64 = 33 := rfl
  have h1 : (0 : Int) ≤ 2 ^ 33 := by decide
  simp only [binA, binI, BinOp.isShift, true_or, if_true, if_neg (show ¬ (33 : Int) < 0 by omega), IntKind.bits, e, Option.map_some, Int.fdiv_eq_ediv_of_nonneg _ h1]
  rfl
@[go_sem] theorem binA_mask24 {a : Int} (h : 0 ≤ a) (h' : a < 18446744073709551616) : binA .and (.d (.v (.int .u64 a))) (.d (.v (.int .u64 16777215))) = some (.d (.v (.int .u64 (a % 16777216)))) := by
  have e1 : (BitVec.ofInt 64 a).toNat = a.toNat := by rw [BitVec.toNat_ofInt]; omega
  have e2 : (BitVec.ofInt 64 16777215).toNat = 16777215 := by decide
  have e3 : (BitVec.ofInt 64 a &&& BitVec.ofInt 64 16777215).toNat = a.toNat % 16777216 := by
    rw [BitVec.toNat_and, e1, e2]; exact Nat.and_two_pow_sub_one_eq_mod a.toNat 24
  have e4 : binI .and .u64 a 16777215 = some (.int .u64 (IntKind.wrap .u64 ((BitVec.ofInt 64 a &&& BitVec.ofInt 64 16777215).toNat : Nat))) := rfl
  simp only [binA, e4, BinOp.isShift, or_true, if_true, e3, Option.map_some]
  rw [wrap_u64 (by omega) (by omega)]
  congr 4
  omega
attribute [go_sem] mkBlk
def leaB (o : Option (Option Blk)) (k i : Nat) (s : Sto) : R × Sto :=
  match o with
  | some (some (.var cs)) => (.boxm (cs.map .d), s.set i none)
  | some (some (.mix cs)) => (.boxm (leaL (leaA k) cs (s.set i none)).1, (leaL (leaA k) cs (s.set i none)).2)
  | _ => (.any, s)
@[go_sem] theorem leaA_ref (k i : Nat) (s : Sto) : leaA (k + 1) (.ref i 0) s = leaB s[i]? k i s := by
  simp only [leaA, leaB] <;> (rcases s[i]? with _ | _ | b <;> first | rfl | (cases b <;> rfl))
@[go_sem] theorem leaB_var (cs : List D) (k i : Nat) (s : Sto) : leaB (some (some (.var cs))) k i s = (.boxm (cs.map .d), s.set i none) := rfl
@[go_sem] theorem RLes_boxm (x y xs ys : List R) : RLes (.boxm x :: xs) (.boxm y :: ys) = (x = y ∧ RLes xs ys) := by
  apply propext
  constructor
  · intro h; cases h with | cons h hs => cases h; exact ⟨rfl, hs⟩
  · rintro ⟨rfl, hs⟩; exact .cons .refl hs
theorem d_laws_FnExactParseSlip (x0 : D) (l0 : List Int) (hx0 : IsInts x0 l0) (hl0 : l0.length ≤ maxLen) (hi0 : ∀ n, n ∈ l0 → in64 n) (s1 : ByteArray) (hs1 : s1.size ≤ maxLen) :
    Den PA f_laws_FnExactParseSlip [.d (.agg [x0]), .d (.v (.string s1))] [.any, .any] (.d (db true)) := by
  obtain ⟨l1, rfl, hl1⟩ : ∃ l, s1 = strOfNums l ∧ BY l := ⟨_, (str_of s1).symm, str_BY s1⟩
  refine den_go [] l_laws_FnExactParseSlip ?_
  repeat' (first | simp -implicitDefEqProofs (maxSteps := 1000000) (disch := (first | omega | (simp only [go_sem] <;> omega) | fail)) only [go_sem, ints, bools, mat, reduceIte, Nat.reduceEqDiff, Nat.reduceAdd, Nat.reduceBEq, Nat.reduceMul, Nat.reduceLeDiff, Nat.reduceLT, Nat.reduceMod, Nat.reduceDiv, Nat.reduceSub, reduceCtorEq, c_laws_FnExactParseSlip] | ((first | refine goIf_b (fun h => ?_) (fun h => ?_) | refine goG_b (fun h => ?_) (fun h => ?_) | refine goTG_b (fun h => ?_) (fun h => ?_) | refine goOG_b (fun h => ?_) (fun h => ?_)) <;> ((try simp only [Bool.not_eq_true', Bool.not_eq_false'] at h); (try simp only [h]); (try simp only [decide_eq_true_eq, decide_eq_false_iff_not, bne_iff_ne, bne_eq_false_iff_eq, beq_iff_eq, beq_eq_false_iff_ne, ne_eq, Int.not_lt, Int.not_le, Bool.and_eq_true, Bool.and_eq_false_iff, Bool.or_eq_true, Bool.or_eq_false_iff] at h))))
  first | refine goC_call [.r, .r] (d_laws_szSpace x0 l0 hx0 1048576 hl0 (by omega) (by omega)) ?_ | refine goOC_call [.r, .r] (d_laws_szSpace x0 l0 hx0 1048576 hl0 (by omega) (by omega)) ?_
  repeat' (first | simp -implicitDefEqProofs (maxSteps := 1000000) (disch := (first | omega | (simp only [go_sem] <;> omega) | fail)) only [go_sem, ints, bools, mat, reduceIte, Nat.reduceEqDiff, Nat.reduceAdd, Nat.reduceBEq, Nat.reduceMul, Nat.reduceLeDiff, Nat.reduceLT, Nat.reduceMod, Nat.reduceDiv, Nat.reduceSub, reduceCtorEq] | ((first | refine goIf_b (fun h => ?_) (fun h => ?_) | refine goG_b (fun h => ?_) (fun h => ?_) | refine goTG_b (fun h => ?_) (fun h => ?_) | refine goOG_b (fun h => ?_) (fun h => ?_)) <;> ((try simp only [Bool.not_eq_true', Bool.not_eq_false'] at h); (try simp only [h]); (try simp only [decide_eq_true_eq, decide_eq_false_iff_not, bne_iff_ne, bne_eq_false_iff_eq, beq_iff_eq, beq_eq_false_iff_ne, ne_eq, Int.not_lt, Int.not_le, Bool.and_eq_true, Bool.and_eq_false_iff, Bool.or_eq_true, Bool.or_eq_false_iff] at h))))
  have hz0 := sz_ok h
  have hsp := d_spec_ParseSlip l0 l1 (by omega) hl1 (by omega)
  have him := d_impl_ParseSlip l0 l1 (by omega) hl1 (by omega)
  by_cases hb : psC l0 l1 = 0
  · have hv : (psT l1).length < 1048577 := by
      have hs : isSpaceM l0 = true := by
        rcases Decidable.em (isSpaceM l0 = true) with h | h
        · exact h
        · rw [psC, if_neg h] at hb; omega
      have hg : psG l0 l1 = true := by
        rcases Decidable.em (psG l0 l1 = true) with h | h
        · exact h
        · rw [psC, if_pos hs, if_neg h] at hb; omega
      have h1 := (isSlipM_16 hs ((psG_ok hs).1 hg).2.2).1
      omega
    rw [lstR_ok hb] at hsp him
    generalize psT l1 = T at *
    repeat' (first | simp -implicitDefEqProofs (maxSteps := 1000000) (disch := (first | omega | (simp only [go_sem] <;> omega) | fail)) only [go_sem, ints, bools, mat, reduceIte, Nat.reduceEqDiff, Nat.reduceAdd, Nat.reduceBEq, Nat.reduceMul, Nat.reduceLeDiff, Nat.reduceLT, Nat.reduceMod, Nat.reduceDiv, Nat.reduceSub, reduceCtorEq] | ((first | refine goIf_b (fun h => ?_) (fun h => ?_) | refine goG_b (fun h => ?_) (fun h => ?_) | refine goTG_b (fun h => ?_) (fun h => ?_) | refine goOG_b (fun h => ?_) (fun h => ?_)) <;> ((try simp only [Bool.not_eq_true', Bool.not_eq_false'] at h); (try simp only [h]); (try simp only [decide_eq_true_eq, decide_eq_false_iff_not, bne_iff_ne, bne_eq_false_iff_eq, beq_iff_eq, beq_eq_false_iff_ne, ne_eq, Int.not_lt, Int.not_le, Bool.and_eq_true, Bool.and_eq_false_iff, Bool.or_eq_true, Bool.or_eq_false_iff] at h)) <;> (try (exfalso; omega))) | ((first | refine goC_call [.r] (d_laws_toSpace x0 l0 hx0 (by omega)) ?_ | refine goOC_call [.r] (d_laws_toSpace x0 l0 hx0 (by omega)) ?_); simp -implicitDefEqProofs (maxSteps := 1000000) (disch := (first | omega | (simp only [go_sem] <;> omega) | fail)) only [go_sem, ints, bools, mat, reduceIte, Nat.reduceEqDiff, Nat.reduceAdd, Nat.reduceBEq, Nat.reduceMul, Nat.reduceLeDiff, Nat.reduceLT, Nat.reduceMod, Nat.reduceDiv, Nat.reduceSub, reduceCtorEq]; fail_if_success (with_reducible show chk _ _)) | ((first | refine goC_call [.r, .r] (d_laws_eqSpace l0 l0 (by omega)) ?_ | refine goOC_call [.r, .r] (d_laws_eqSpace l0 l0 (by omega)) ?_); simp -implicitDefEqProofs (maxSteps := 1000000) (disch := (first | omega | (simp only [go_sem] <;> omega) | fail)) only [go_sem, ints, bools, mat, reduceIte, Nat.reduceEqDiff, Nat.reduceAdd, Nat.reduceBEq, Nat.reduceMul, Nat.reduceLeDiff, Nat.reduceLT, Nat.reduceMod, Nat.reduceDiv, Nat.reduceSub, reduceCtorEq]; fail_if_success (with_reducible show chk _ _)) | ((first | refine goC_call [.r, .r] (hsp) ?_ | refine goOC_call [.r, .r] (hsp) ?_); simp -implicitDefEqProofs (maxSteps := 1000000) (disch := (first | omega | (simp only [go_sem] <;> omega) | fail)) only [go_sem, ints, bools, mat, reduceIte, Nat.reduceEqDiff, Nat.reduceAdd, Nat.reduceBEq, Nat.reduceMul, Nat.reduceLeDiff, Nat.reduceLT, Nat.reduceMod, Nat.reduceDiv, Nat.reduceSub, reduceCtorEq]; fail_if_success (with_reducible show chk _ _)) | ((first | refine goC_call [.r, .r] (him) ?_ | refine goOC_call [.r, .r] (him) ?_); simp -implicitDefEqProofs (maxSteps := 1000000) (disch := (first | omega | (simp only [go_sem] <;> omega) | fail)) only [go_sem, ints, bools, mat, reduceIte, Nat.reduceEqDiff, Nat.reduceAdd, Nat.reduceBEq, Nat.reduceMul, Nat.reduceLeDiff, Nat.reduceLT, Nat.reduceMod, Nat.reduceDiv, Nat.reduceSub, reduceCtorEq]; fail_if_success (with_reducible show chk _ _)) | ((first | refine goC_call [.r, .r] (d_laws_eqSlip T T (by omega)) ?_ | refine goOC_call [.r, .r] (d_laws_eqSlip T T (by omega)) ?_); simp -implicitDefEqProofs (maxSteps := 1000000) (disch := (first | omega | (simp only [go_sem] <;> omega) | fail)) only [go_sem, ints, bools, mat, reduceIte, Nat.reduceEqDiff, Nat.reduceAdd, Nat.reduceBEq, Nat.reduceMul, Nat.reduceLeDiff, Nat.reduceLT, Nat.reduceMod, Nat.reduceDiv, Nat.reduceSub, reduceCtorEq]; fail_if_success (with_reducible show chk _ _)) | ((first | refine goC_call [.a [.o], .r] (d_laws_markSpace l0 1 (by omega) (by omega) (by omega)) ?_ | refine goOC_call [.a [.o], .r] (d_laws_markSpace l0 1 (by omega) (by omega) (by omega)) ?_); simp -implicitDefEqProofs (maxSteps := 1000000) (disch := (first | omega | (simp only [go_sem] <;> omega) | fail)) only [go_sem, ints, bools, mat, reduceIte, Nat.reduceEqDiff, Nat.reduceAdd, Nat.reduceBEq, Nat.reduceMul, Nat.reduceLeDiff, Nat.reduceLT, Nat.reduceMod, Nat.reduceDiv, Nat.reduceSub, reduceCtorEq]; fail_if_success (with_reducible show chk _ _)) | ((first | refine goC_call [.o, .r] (d_laws_markSlip T 1 (by omega) (by omega) (by omega)) ?_ | refine goOC_call [.o, .r] (d_laws_markSlip T 1 (by omega) (by omega) (by omega)) ?_); simp -implicitDefEqProofs (maxSteps := 1000000) (disch := (first | omega | (simp only [go_sem] <;> omega) | fail)) only [go_sem, ints, bools, mat, reduceIte, Nat.reduceEqDiff, Nat.reduceAdd, Nat.reduceBEq, Nat.reduceMul, Nat.reduceLeDiff, Nat.reduceLT, Nat.reduceMod, Nat.reduceDiv, Nat.reduceSub, reduceCtorEq]; fail_if_success (with_reducible show chk _ _)) | ((first | refine goC_call [.r, .r] (d_laws_heldSlip T.length 1 (by omega) (by omega) (by omega)) ?_ | refine goOC_call [.r, .r] (d_laws_heldSlip T.length 1 (by omega) (by omega) (by omega)) ?_); simp -implicitDefEqProofs (maxSteps := 1000000) (disch := (first | omega | (simp only [go_sem] <;> omega) | fail)) only [go_sem, ints, bools, mat, reduceIte, Nat.reduceEqDiff, Nat.reduceAdd, Nat.reduceBEq, Nat.reduceMul, Nat.reduceLeDiff, Nat.reduceLT, Nat.reduceMod, Nat.reduceDiv, Nat.reduceSub, reduceCtorEq]; fail_if_success (with_reducible show chk _ _)))
  · rw [lstR_no hb] at hsp him
    generalize psC l0 l1 = bb at hsp him hb
    repeat' (first | simp -implicitDefEqProofs (maxSteps := 1000000) (disch := (first | omega | (simp only [go_sem] <;> omega) | fail)) only [go_sem, ints, bools, mat, reduceIte, Nat.reduceEqDiff, Nat.reduceAdd, Nat.reduceBEq, Nat.reduceMul, Nat.reduceLeDiff, Nat.reduceLT, Nat.reduceMod, Nat.reduceDiv, Nat.reduceSub, reduceCtorEq] | ((first | refine goIf_b (fun h => ?_) (fun h => ?_) | refine goG_b (fun h => ?_) (fun h => ?_) | refine goTG_b (fun h => ?_) (fun h => ?_) | refine goOG_b (fun h => ?_) (fun h => ?_)) <;> ((try simp only [Bool.not_eq_true', Bool.not_eq_false'] at h); (try simp only [h]); (try simp only [decide_eq_true_eq, decide_eq_false_iff_not, bne_iff_ne, bne_eq_false_iff_eq, beq_iff_eq, beq_eq_false_iff_ne, ne_eq, Int.not_lt, Int.not_le, Bool.and_eq_true, Bool.and_eq_false_iff, Bool.or_eq_true, Bool.or_eq_false_iff] at h)) <;> (try (exfalso; omega))) | ((first | refine goC_call [.r] (d_laws_toSpace x0 l0 hx0 (by omega)) ?_ | refine goOC_call [.r] (d_laws_toSpace x0 l0 hx0 (by omega)) ?_); simp -implicitDefEqProofs (maxSteps := 1000000) (disch := (first | omega | (simp only [go_sem] <;> omega) | fail)) only [go_sem, ints, bools, mat, reduceIte, Nat.reduceEqDiff, Nat.reduceAdd, Nat.reduceBEq, Nat.reduceMul, Nat.reduceLeDiff, Nat.reduceLT, Nat.reduceMod, Nat.reduceDiv, Nat.reduceSub, reduceCtorEq]; fail_if_success (with_reducible show chk _ _)) | ((first | refine goC_call [.r, .r] (d_laws_eqSpace l0 l0 (by omega)) ?_ | refine goOC_call [.r, .r] (d_laws_eqSpace l0 l0 (by omega)) ?_); simp -implicitDefEqProofs (maxSteps := 1000000) (disch := (first | omega | (simp only [go_sem] <;> omega) | fail)) only [go_sem, ints, bools, mat, reduceIte, Nat.reduceEqDiff, Nat.reduceAdd, Nat.reduceBEq, Nat.reduceMul, Nat.reduceLeDiff, Nat.reduceLT, Nat.reduceMod, Nat.reduceDiv, Nat.reduceSub, reduceCtorEq]; fail_if_success (with_reducible show chk _ _)) | ((first | refine goC_call [.r, .r] (hsp) ?_ | refine goOC_call [.r, .r] (hsp) ?_); simp -implicitDefEqProofs (maxSteps := 1000000) (disch := (first | omega | (simp only [go_sem] <;> omega) | fail)) only [go_sem, ints, bools, mat, reduceIte, Nat.reduceEqDiff, Nat.reduceAdd, Nat.reduceBEq, Nat.reduceMul, Nat.reduceLeDiff, Nat.reduceLT, Nat.reduceMod, Nat.reduceDiv, Nat.reduceSub, reduceCtorEq]; fail_if_success (with_reducible show chk _ _)) | ((first | refine goC_call [.r, .r] (him) ?_ | refine goOC_call [.r, .r] (him) ?_); simp -implicitDefEqProofs (maxSteps := 1000000) (disch := (first | omega | (simp only [go_sem] <;> omega) | fail)) only [go_sem, ints, bools, mat, reduceIte, Nat.reduceEqDiff, Nat.reduceAdd, Nat.reduceBEq, Nat.reduceMul, Nat.reduceLeDiff, Nat.reduceLT, Nat.reduceMod, Nat.reduceDiv, Nat.reduceSub, reduceCtorEq]; fail_if_success (with_reducible show chk _ _)) | ((first | refine goC_call [.r, .r] (d_laws_eqSlip_nil) ?_ | refine goOC_call [.r, .r] (d_laws_eqSlip_nil) ?_); simp -implicitDefEqProofs (maxSteps := 1000000) (disch := (first | omega | (simp only [go_sem] <;> omega) | fail)) only [go_sem, ints, bools, mat, reduceIte, Nat.reduceEqDiff, Nat.reduceAdd, Nat.reduceBEq, Nat.reduceMul, Nat.reduceLeDiff, Nat.reduceLT, Nat.reduceMod, Nat.reduceDiv, Nat.reduceSub, reduceCtorEq]; fail_if_success (with_reducible show chk _ _)) | ((first | refine goC_call [.a [.o], .r] (d_laws_markSpace l0 1 (by omega) (by omega) (by omega)) ?_ | refine goOC_call [.a [.o], .r] (d_laws_markSpace l0 1 (by omega) (by omega) (by omega)) ?_); simp -implicitDefEqProofs (maxSteps := 1000000) (disch := (first | omega | (simp only [go_sem] <;> omega) | fail)) only [go_sem, ints, bools, mat, reduceIte, Nat.reduceEqDiff, Nat.reduceAdd, Nat.reduceBEq, Nat.reduceMul, Nat.reduceLeDiff, Nat.reduceLT, Nat.reduceMod, Nat.reduceDiv, Nat.reduceSub, reduceCtorEq]; fail_if_success (with_reducible show chk _ _)) | ((first | refine goC_call [.o, .r] (d_laws_markSlip_nil 1) ?_ | refine goOC_call [.o, .r] (d_laws_markSlip_nil 1) ?_); simp -implicitDefEqProofs (maxSteps := 1000000) (disch := (first | omega | (simp only [go_sem] <;> omega) | fail)) only [go_sem, ints, bools, mat, reduceIte, Nat.reduceEqDiff, Nat.reduceAdd, Nat.reduceBEq, Nat.reduceMul, Nat.reduceLeDiff, Nat.reduceLT, Nat.reduceMod, Nat.reduceDiv, Nat.reduceSub, reduceCtorEq]; fail_if_success (with_reducible show chk _ _)) | ((first | refine goC_call [.r, .r] (d_laws_heldSlip_nil 1) ?_ | refine goOC_call [.r, .r] (d_laws_heldSlip_nil 1) ?_); simp -implicitDefEqProofs (maxSteps := 1000000) (disch := (first | omega | (simp only [go_sem] <;> omega) | fail)) only [go_sem, ints, bools, mat, reduceIte, Nat.reduceEqDiff, Nat.reduceAdd, Nat.reduceBEq, Nat.reduceMul, Nat.reduceLeDiff, Nat.reduceLT, Nat.reduceMod, Nat.reduceDiv, Nat.reduceSub, reduceCtorEq]; fail_if_success (with_reducible show chk _ _)))
end Go.Proofs.YtgailliklpkjjaaDoor.Va
