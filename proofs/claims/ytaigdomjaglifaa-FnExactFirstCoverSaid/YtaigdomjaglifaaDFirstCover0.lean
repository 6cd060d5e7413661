/- Contracts of the functions that FnExactFirstCover reaches (part 0). Condition: none. -/
import Derived.Test.YtaigdomjaglifaaCFirstCover
set_option linter.all false
set_option linter.unusedSimpArgs false
set_option linter.unusedVariables false
namespace Go.Proofs.Ytaigdomjaglifaa.Va
open Go
set_option maxHeartbeats 4000000
set_option maxRecDepth 100000
attribute [go_sem_proc] reduceIte Nat.reduceEqDiff Nat.reduceAdd Nat.reduceBEq Nat.reduceMul Nat.reduceLeDiff Nat.reduceLT Nat.reduceMod Nat.reduceDiv Nat.reduceSub reduceCtorEq
theorem d_spec_l01In (a lo hi : Int) : Den PA f_spec_l01In [.d (di a), .d (di lo), .d (di hi)] [.any, .any, .any] (.d (db (decide (lo ≤ a) && decide (a ≤ hi)))) := by
  refine den_go [] l_spec_l01In ?_
  repeat' (first | simp -implicitDefEqProofs (maxSteps := 1000000) (disch := (first | omega | (simp only [go_sem] <;> omega) | fail)) only [go_sem, ints, bools, mat, c_spec_l01In] | ((first | refine goIf_b (fun h => ?_) (fun h => ?_) | refine goG_b (fun h => ?_) (fun h => ?_) | refine goTG_b (fun h => ?_) (fun h => ?_) | refine goOG_b (fun h => ?_) (fun h => ?_)) <;> ((try simp only [Bool.not_eq_true', Bool.not_eq_false'] at h); (try simp only [h]); (try simp only [decide_eq_true_eq, decide_eq_false_iff_not, bne_iff_ne, bne_eq_false_iff_eq, beq_iff_eq, beq_eq_false_iff_ne, ne_eq, Int.not_lt, Int.not_le, Bool.and_eq_true, Bool.and_eq_false_iff, Bool.or_eq_true, Bool.or_eq_false_iff] at h))))
theorem d_laws_szInt64S (x : D) (l : List Int) (hx : IsInts x l) (left : Int) (hl : l.length ≤ maxLen) (h0 : 0 ≤ left) (h1 : left ≤ 1048576) :
    Den PA f_laws_szInt64S [.d x, .d (di left)] [.any, .any] (.d (di (if left < l.length then -1 else left - l.length))) := by
  have hm : maxLen = 9223372036854775807 := rfl
  refine den_go [] l_laws_szInt64S ?_
  rcases hx with rfl | ⟨rfl, rfl⟩
  all_goals repeat' (first | simp -implicitDefEqProofs (maxSteps := 1000000) (disch := (first | omega | (simp only [go_sem] <;> omega) | fail)) only [go_sem, ints, bools, mat, c_laws_szInt64S] | ((first | refine goIf_b (fun h => ?_) (fun h => ?_) | refine goG_b (fun h => ?_) (fun h => ?_) | refine goTG_b (fun h => ?_) (fun h => ?_) | refine goOG_b (fun h => ?_) (fun h => ?_)) <;> ((try simp only [Bool.not_eq_true', Bool.not_eq_false'] at h); (try simp only [h]); (try simp only [decide_eq_true_eq, decide_eq_false_iff_not, bne_iff_ne, bne_eq_false_iff_eq, beq_iff_eq, beq_eq_false_iff_ne, ne_eq, Int.not_lt, Int.not_le, Bool.and_eq_true, Bool.and_eq_false_iff, Bool.or_eq_true, Bool.or_eq_false_iff] at h))))
  · rw [if_pos (by omega)]
  · rw [if_neg (by omega)]
  · exfalso; omega
  · refine div ?_
    rw [if_neg (by simp; omega)]; rfl
theorem d_laws_eqInt64S (l m : List Int) (hl : l.length < 1048577) :
    Den PA f_laws_eqInt64S [.d (ints l), .d (ints m)] [.any, .any] (.d (db (decide (l = m)))) := by
  refine den_go [] l_laws_eqInt64S ?_
  repeat' (first | simp -implicitDefEqProofs (maxSteps := 1000000) (disch := (first | omega | (simp only [go_sem] <;> omega) | fail)) only [go_sem, ints, bools, mat, c_laws_eqInt64S] | ((first | refine goIf_b (fun h => ?_) (fun h => ?_) | refine goG_b (fun h => ?_) (fun h => ?_) | refine goTG_b (fun h => ?_) (fun h => ?_) | refine goOG_b (fun h => ?_) (fun h => ?_)) <;> ((try simp only [Bool.not_eq_true', Bool.not_eq_false'] at h); (try simp only [h]); (try simp only [decide_eq_true_eq, decide_eq_false_iff_not, bne_iff_ne, bne_eq_false_iff_eq, beq_iff_eq, beq_eq_false_iff_ne, ne_eq, Int.not_lt, Int.not_le, Bool.and_eq_true, Bool.and_eq_false_iff, Bool.or_eq_true, Bool.or_eq_false_iff] at h))))
  · exact dbF fun e => by have := of_decide_eq_true e; subst this; exact h rfl
  refine go_loop (fun (j : Nat) => ⟨[(0, .d (ints l)), (1, .d (ints m)), (5, .d (di j))], []⟩) (fun j => j ≤ l.length ∧ ∀ i, i < j → l.getD i 0 = m.getD i 0) (fun j => l.length - j) 0 ?_ ?_ ?_
  · simp -implicitDefEqProofs (maxSteps := 1000000) (disch := (first | omega | (simp only [go_sem] <;> omega) | fail)) only [go_sem, ints, bools, mat]; rfl
  · simp
  · rintro j ⟨hj, hi⟩ J hJ
    repeat' (first | simp -implicitDefEqProofs (maxSteps := 1000000) (disch := (first | omega | (simp only [go_sem] <;> omega) | fail)) only [go_sem, ints, bools, mat] | ((first | refine goIf_b (fun h => ?_) (fun h => ?_) | refine goG_b (fun h => ?_) (fun h => ?_) | refine goTG_b (fun h => ?_) (fun h => ?_) | refine goOG_b (fun h => ?_) (fun h => ?_)) <;> ((try simp only [Bool.not_eq_true', Bool.not_eq_false'] at h); (try simp only [h]); (try simp only [decide_eq_true_eq, decide_eq_false_iff_not, bne_iff_ne, bne_eq_false_iff_eq, beq_iff_eq, beq_eq_false_iff_ne, ne_eq, Int.not_lt, Int.not_le, Bool.and_eq_true, Bool.and_eq_false_iff, Bool.or_eq_true, Bool.or_eq_false_iff] at h))))
    · exact dbF fun e => by have := of_decide_eq_true e; subst this; exact h rfl
    · refine hJ (j + 1) ⟨by omega, fun i hi' => ?_⟩ (by omega) _ (by simp -implicitDefEqProofs (maxSteps := 1000000) (disch := (first | omega | (simp only [go_sem] <;> omega) | fail)) only [go_sem, ints, bools, mat]; rfl)
      rcases Nat.lt_or_ge i j with h' | h'
      · exact hi i h'
      · have : i = j := by omega
        subst this; assumption
    · exact dbT (decide_eq_true (eq_getD (by omega) fun i hi' => hi i (by omega)))
theorem d_laws_toInt64S (x : D) (l : List Int) (hx : IsInts x l) (hl : l.length < 1048577) :
    Den PA f_laws_toInt64S [.d x] [.any] (.own 1 (l.map di)) := by
  refine den_go [] l_laws_toInt64S ?_
  rcases hx with rfl | ⟨rfl, rfl⟩
  rotate_left
  · repeat' (first | simp -implicitDefEqProofs (maxSteps := 1000000) (disch := (first | omega | (simp only [go_sem] <;> omega) | fail)) only [go_sem, ints, bools, mat, c_laws_toInt64S] | ((first | refine goIf_b (fun h => ?_) (fun h => ?_) | refine goG_b (fun h => ?_) (fun h => ?_) | refine goTG_b (fun h => ?_) (fun h => ?_) | refine goOG_b (fun h => ?_) (fun h => ?_)) <;> ((try simp only [Bool.not_eq_true', Bool.not_eq_false'] at h); (try simp only [h]); (try simp only [decide_eq_true_eq, decide_eq_false_iff_not, bne_iff_ne, bne_eq_false_iff_eq, beq_iff_eq, beq_eq_false_iff_ne, ne_eq, Int.not_lt, Int.not_le, Bool.and_eq_true, Bool.and_eq_false_iff, Bool.or_eq_true, Bool.or_eq_false_iff] at h))))
    refine go_loop (fun (_ : Unit) => ⟨[(0, .d (.v (.slice none 0 0))), (3, .sl 0 0 0 1), (4, .d (di 0))], [some (.dat 1 [])]⟩) (fun _ => True) (fun _ => 0) () ?_ trivial ?_
    · simp -implicitDefEqProofs (maxSteps := 1000000) (disch := (first | omega | (simp only [go_sem] <;> omega) | fail)) only [go_sem, ints, bools, mat]; rfl
    · intro _ _ J _
      repeat' (first | simp -implicitDefEqProofs (maxSteps := 1000000) (disch := (first | omega | (simp only [go_sem] <;> omega) | fail)) only [go_sem, ints, bools, mat] | ((first | refine goIf_b (fun h => ?_) (fun h => ?_) | refine goG_b (fun h => ?_) (fun h => ?_) | refine goTG_b (fun h => ?_) (fun h => ?_) | refine goOG_b (fun h => ?_) (fun h => ?_)) <;> ((try simp only [Bool.not_eq_true', Bool.not_eq_false'] at h); (try simp only [h]); (try simp only [decide_eq_true_eq, decide_eq_false_iff_not, bne_iff_ne, bne_eq_false_iff_eq, beq_iff_eq, beq_eq_false_iff_ne, ne_eq, Int.not_lt, Int.not_le, Bool.and_eq_true, Bool.and_eq_false_iff, Bool.or_eq_true, Bool.or_eq_false_iff] at h))))
  repeat' (first | simp -implicitDefEqProofs (maxSteps := 1000000) (disch := (first | omega | (simp only [go_sem] <;> omega) | fail)) only [go_sem, ints, bools, mat, c_laws_toInt64S] | ((first | refine goIf_b (fun h => ?_) (fun h => ?_) | refine goG_b (fun h => ?_) (fun h => ?_) | refine goTG_b (fun h => ?_) (fun h => ?_) | refine goOG_b (fun h => ?_) (fun h => ?_)) <;> ((try simp only [Bool.not_eq_true', Bool.not_eq_false'] at h); (try simp only [h]); (try simp only [decide_eq_true_eq, decide_eq_false_iff_not, bne_iff_ne, bne_eq_false_iff_eq, beq_iff_eq, beq_eq_false_iff_ne, ne_eq, Int.not_lt, Int.not_le, Bool.and_eq_true, Bool.and_eq_false_iff, Bool.or_eq_true, Bool.or_eq_false_iff] at h))))
  refine go_loop (fun (j : Nat) => ⟨[(0, .d (ints l)), (3, .sl 0 0 l.length 1), (4, .d (di j))], [some (.dat 1 ((l.take j ++ List.replicate (l.length - j) 0).map di))]⟩) (fun j => j ≤ l.length) (fun j => l.length - j) 0 ?_ ?_ ?_
  · simp -implicitDefEqProofs (maxSteps := 1000000) (disch := (first | omega | (simp only [go_sem] <;> omega) | fail)) only [go_sem, ints, bools, mat]; rfl
  · simp
  · rintro j hj J hJ
    repeat' (first | simp -implicitDefEqProofs (maxSteps := 1000000) (disch := (first | omega | (simp only [go_sem] <;> omega) | fail)) only [go_sem, ints, bools, mat] | ((first | refine goIf_b (fun h => ?_) (fun h => ?_) | refine goG_b (fun h => ?_) (fun h => ?_) | refine goTG_b (fun h => ?_) (fun h => ?_) | refine goOG_b (fun h => ?_) (fun h => ?_)) <;> ((try simp only [Bool.not_eq_true', Bool.not_eq_false'] at h); (try simp only [h]); (try simp only [decide_eq_true_eq, decide_eq_false_iff_not, bne_iff_ne, bne_eq_false_iff_eq, beq_iff_eq, beq_eq_false_iff_ne, ne_eq, Int.not_lt, Int.not_le, Bool.and_eq_true, Bool.and_eq_false_iff, Bool.or_eq_true, Bool.or_eq_false_iff] at h))))
    · refine hJ (j + 1) (by omega) (by omega) _ ?_
      simp -implicitDefEqProofs (maxSteps := 1000000) (disch := (first | omega | (simp only [go_sem] <;> omega) | fail)) only [go_sem, ints, bools, mat]
      rw [fill_step l 0 0 (by omega) rfl]; rfl
    · have : j = l.length := by omega
      subst this; simp
theorem d_laws_szSpace (x : D) (l : List Int) (hx : IsInts x l) (left : Int) (hl : l.length ≤ maxLen) (h0 : 0 ≤ left) (h1 : left ≤ 1048576) :
    Den PA f_laws_szSpace [.d (.agg [x]), .d (di left)] [.any, .any] (.d (di (if left < l.length then -1 else left - l.length))) := by
  refine den_go [] l_laws_szSpace ?_
  simp -implicitDefEqProofs (maxSteps := 1000000) (disch := (first | omega | (simp only [go_sem] <;> omega) | fail)) only [go_sem, ints, bools, mat, c_laws_szSpace]
  first | refine goC_call [.r, .r] (d_laws_szInt64S x l hx left hl h0 h1) ?_ | refine goOC_call [.r, .r] (d_laws_szInt64S x l hx left hl h0 h1) ?_
  repeat' (first | simp -implicitDefEqProofs (maxSteps := 1000000) (disch := (first | omega | (simp only [go_sem] <;> omega) | fail)) only [go_sem, ints, bools, mat] | ((first | refine goIf_b (fun h => ?_) (fun h => ?_) | refine goG_b (fun h => ?_) (fun h => ?_) | refine goTG_b (fun h => ?_) (fun h => ?_) | refine goOG_b (fun h => ?_) (fun h => ?_)) <;> ((try simp only [Bool.not_eq_true', Bool.not_eq_false'] at h); (try simp only [h]); (try simp only [decide_eq_true_eq, decide_eq_false_iff_not, bne_iff_ne, bne_eq_false_iff_eq, beq_iff_eq, beq_eq_false_iff_ne, ne_eq, Int.not_lt, Int.not_le, Bool.and_eq_true, Bool.and_eq_false_iff, Bool.or_eq_true, Bool.or_eq_false_iff] at h))))
  by_cases hh : left < (l.length : Int)
  · rw [if_pos hh]
  · rw [if_neg hh] at h; omega
theorem d_laws_eqSpace (l m : List Int) (hl : l.length < 1048577) :
    Den PA f_laws_eqSpace [.d (.agg [ints l]), .d (.agg [ints m])] [.any, .any] (.d (db (decide (l = m)))) := by
  refine den_go [] l_laws_eqSpace ?_
  simp -implicitDefEqProofs (maxSteps := 1000000) (disch := (first | omega | (simp only [go_sem] <;> omega) | fail)) only [go_sem, ints, bools, mat, c_laws_eqSpace]
  first | refine goC_call [.r, .r] (d_laws_eqInt64S l m hl) ?_ | refine goOC_call [.r, .r] (d_laws_eqInt64S l m hl) ?_
  repeat' (first | simp -implicitDefEqProofs (maxSteps := 1000000) (disch := (first | omega | (simp only [go_sem] <;> omega) | fail)) only [go_sem, ints, bools, mat] | ((first | refine goIf_b (fun h => ?_) (fun h => ?_) | refine goG_b (fun h => ?_) (fun h => ?_) | refine goTG_b (fun h => ?_) (fun h => ?_) | refine goOG_b (fun h => ?_) (fun h => ?_)) <;> ((try simp only [Bool.not_eq_true', Bool.not_eq_false'] at h); (try simp only [h]); (try simp only [decide_eq_true_eq, decide_eq_false_iff_not, bne_iff_ne, bne_eq_false_iff_eq, beq_iff_eq, beq_eq_false_iff_ne, ne_eq, Int.not_lt, Int.not_le, Bool.and_eq_true, Bool.and_eq_false_iff, Bool.or_eq_true, Bool.or_eq_false_iff] at h))))
theorem d_laws_toSpace (x : D) (l : List Int) (hx : IsInts x l) (hl : l.length < 1048577) :
    Den PA f_laws_toSpace [.d (.agg [x])] [.any] (.agg [.own 1 (l.map di)]) := by
  refine den_go [] l_laws_toSpace ?_
  simp -implicitDefEqProofs (maxSteps := 1000000) (disch := (first | omega | (simp only [go_sem] <;> omega) | fail)) only [go_sem, ints, bools, mat, c_laws_toSpace]
  first | refine goC_call [.r] (d_laws_toInt64S x l hx hl) ?_ | refine goOC_call [.r] (d_laws_toInt64S x l hx hl) ?_
  repeat' (first | simp -implicitDefEqProofs (maxSteps := 1000000) (disch := (first | omega | (simp only [go_sem] <;> omega) | fail)) only [go_sem, ints, bools, mat] | ((first | refine goIf_b (fun h => ?_) (fun h => ?_) | refine goG_b (fun h => ?_) (fun h => ?_) | refine goTG_b (fun h => ?_) (fun h => ?_) | refine goOG_b (fun h => ?_) (fun h => ?_)) <;> ((try simp only [Bool.not_eq_true', Bool.not_eq_false'] at h); (try simp only [h]); (try simp only [decide_eq_true_eq, decide_eq_false_iff_not, bne_iff_ne, bne_eq_false_iff_eq, beq_iff_eq, beq_eq_false_iff_ne, ne_eq, Int.not_lt, Int.not_le, Bool.and_eq_true, Bool.and_eq_false_iff, Bool.or_eq_true, Bool.or_eq_false_iff] at h))))
def prodM (l : List Int) : Int := l.foldl (· * ·) 1
theorem take_one (l : List Int) {j : Nat} (h : j < l.length) : l.take (j + 1) = l.take j ++ [l.getD j 0] := by
  rw [List.take_add_one]; simp [h]
theorem prodM_step (l : List Int) {j : Nat} (h : j < l.length) : prodM (l.take (j + 1)) = prodM (l.take j) * l.getD j 0 := by
  rw [take_one l h]; simp [prodM]
theorem prodM_bnd (l : List Int) : ∀ j, j ≤ l.length → (∀ i, i < j → 2 ≤ l.getD i 0 ∧ l.getD i 0 ≤ 4) → 1 ≤ prodM (l.take j) ∧ prodM (l.take j) ≤ 4 ^ j
  | 0, _, _ => by simp [prodM]
  | j + 1, hj, h => by
    obtain ⟨h1, h2⟩ := prodM_bnd l j (by omega) (fun i hi => h i (by omega))
    obtain ⟨h3, h4⟩ := h j (by omega)
    rw [prodM_step l (by omega)]
    constructor
    · have := Int.mul_le_mul h1 (show (1 : Int) ≤ l.getD j 0 by omega) (by omega) (by omega)
      simpa using this
    · rw [Int.pow_succ]
      exact Int.mul_le_mul h2 h4 (by omega) (by omega)
theorem pow4 {j : Nat} (h : j ≤ 8) : (4 : Int) ^ j ≤ 65536 := by
  exact (by decide : ∀ j : Fin 9, (4 : Int) ^ (j : Nat) ≤ 65536) ⟨j, by omega⟩
theorem prodM_small (l : List Int) {j : Nat} (h8 : j ≤ 8) (hj : j ≤ l.length) (h : ∀ i, i < j → 2 ≤ l.getD i 0 ∧ l.getD i 0 ≤ 4) : 1 ≤ prodM (l.take j) ∧ prodM (l.take j) ≤ 65536 := by
  obtain ⟨h1, h2⟩ := prodM_bnd l j hj h
  exact ⟨h1, Int.le_trans h2 (pow4 h8)⟩
/-- A space: one to eight places, two to four digits each, at most 1024 words. -/
def isSpaceM (l : List Int) : Bool := decide (1 ≤ l.length) && decide (l.length ≤ 8) && l.all (fun n => decide (2 ≤ n) && decide (n ≤ 4)) && decide (prodM l ≤ 1024)
theorem isSpaceM_ok (l : List Int) : isSpaceM l = true ↔ (1 ≤ l.length ∧ l.length ≤ 8) ∧ (∀ j, j < l.length → 2 ≤ l.getD j 0 ∧ l.getD j 0 ≤ 4) ∧ prodM l ≤ 1024 := by
  simp only [isSpaceM, Bool.and_eq_true, decide_eq_true_eq, all_getD, and_assoc]
theorem d_spec_l01N (l : List Int) (h8 : l.length ≤ 8) (h : ∀ i, i < l.length → 2 ≤ l.getD i 0 ∧ l.getD i 0 ≤ 4) :
    Den PA f_spec_l01N [.d (.agg [ints l])] [.any] (.d (di (prodM l))) := by
  refine den_go [] l_spec_l01N ?_
  simp -implicitDefEqProofs (maxSteps := 1000000) (disch := (first | omega | (simp only [go_sem] <;> omega) | fail)) only [go_sem, ints, bools, mat, c_spec_l01N]
  refine go_loop (fun (j : Nat) => ⟨[(1, .ref 0 0), (3, .d (di (prodM (l.take j)))), (4, .d (di j))], [some (.var [ints l])]⟩) (fun j => j ≤ l.length) (fun j => l.length - j) 0 ?_ ?_ ?_
  · simp -implicitDefEqProofs (maxSteps := 1000000) (disch := (first | omega | (simp only [go_sem] <;> omega) | fail)) only [go_sem, ints, bools, mat]; rfl
  · simp
  · rintro j hj J hJ
    have hb := prodM_small l (j := j) (by omega) hj (fun i hi => h i (by omega))
    have hb' := fun hj' => prodM_small l (j := j + 1) (by omega) hj' (fun i hi => h i (by omega))
    have hs := fun hj' => prodM_step l (j := j) hj'
    repeat' (first | simp -implicitDefEqProofs (maxSteps := 1000000) (disch := (first | omega | (simp only [go_sem] <;> omega) | fail)) only [go_sem, ints, bools, mat] | ((first | refine goIf_b (fun h => ?_) (fun h => ?_) | refine goG_b (fun h => ?_) (fun h => ?_) | refine goTG_b (fun h => ?_) (fun h => ?_) | refine goOG_b (fun h => ?_) (fun h => ?_)) <;> ((try simp only [Bool.not_eq_true', Bool.not_eq_false'] at h); (try simp only [h]); (try simp only [decide_eq_true_eq, decide_eq_false_iff_not, bne_iff_ne, bne_eq_false_iff_eq, beq_iff_eq, beq_eq_false_iff_ne, ne_eq, Int.not_lt, Int.not_le, Bool.and_eq_true, Bool.and_eq_false_iff, Bool.or_eq_true, Bool.or_eq_false_iff] at h))))
    · rename_i hlt
      have hlt : j < l.length := by omega
      have h1 := hb' (by omega)
      rw [hs hlt] at h1
      refine hJ (j + 1) (by omega) (by omega) _ ?_
      simp -implicitDefEqProofs (maxSteps := 1000000) (disch := (first | omega | (simp only [go_sem] <;> omega) | fail)) only [go_sem, ints, bools, mat]
      rw [hs hlt]; rfl
theorem d_spec_l01Is (l : List Int) (hl : l.length < 1048577) :
    Den PA f_spec_l01Is [.d (.agg [ints l])] [.any] (.d (db (isSpaceM l))) := by
  have e := isSpaceM_ok l
  refine den_go [] l_spec_l01Is ?_
  simp -implicitDefEqProofs (maxSteps := 1000000) (disch := (first | omega | (simp only [go_sem] <;> omega) | fail)) only [go_sem, ints, bools, mat, c_spec_l01Is]
  first | refine goC_call [.r, .r, .r] (d_spec_l01In l.length 1 8) ?_ | refine goOC_call [.r, .r, .r] (d_spec_l01In l.length 1 8) ?_
  repeat' (first | simp -implicitDefEqProofs (maxSteps := 1000000) (disch := (first | omega | (simp only [go_sem] <;> omega) | fail)) only [go_sem, ints, bools, mat] | ((first | refine goIf_b (fun h => ?_) (fun h => ?_) | refine goG_b (fun h => ?_) (fun h => ?_) | refine goTG_b (fun h => ?_) (fun h => ?_) | refine goOG_b (fun h => ?_) (fun h => ?_)) <;> ((try simp only [Bool.not_eq_true', Bool.not_eq_false'] at h); (try simp only [h]); (try simp only [decide_eq_true_eq, decide_eq_false_iff_not, bne_iff_ne, bne_eq_false_iff_eq, beq_iff_eq, beq_eq_false_iff_ne, ne_eq, Int.not_lt, Int.not_le, Bool.and_eq_true, Bool.and_eq_false_iff, Bool.or_eq_true, Bool.or_eq_false_iff] at h))))
  rotate_left
  · exact dbF fun h' => by have := (e.1 h').1; omega
  refine go_loop (fun (j : Nat) => ⟨[(1, .ref 0 0), (3, .d (di j))], [some (.var [ints l])]⟩) (fun j => j ≤ l.length ∧ ∀ i, i < j → 2 ≤ l.getD i 0 ∧ l.getD i 0 ≤ 4) (fun j => l.length - j) 0 ?_ ?_ ?_
  · simp -implicitDefEqProofs (maxSteps := 1000000) (disch := (first | omega | (simp only [go_sem] <;> omega) | fail)) only [go_sem, ints, bools, mat]; rfl
  · simp
  · rintro j ⟨hj, hi⟩ J hJ
    repeat' (first | simp -implicitDefEqProofs (maxSteps := 1000000) (disch := (first | omega | (simp only [go_sem] <;> omega) | fail)) only [go_sem, ints, bools, mat] | ((first | refine goIf_b (fun h => ?_) (fun h => ?_) | refine goG_b (fun h => ?_) (fun h => ?_) | refine goTG_b (fun h => ?_) (fun h => ?_) | refine goOG_b (fun h => ?_) (fun h => ?_)) <;> ((try simp only [Bool.not_eq_true', Bool.not_eq_false'] at h); (try simp only [h]); (try simp only [decide_eq_true_eq, decide_eq_false_iff_not, bne_iff_ne, bne_eq_false_iff_eq, beq_iff_eq, beq_eq_false_iff_ne, ne_eq, Int.not_lt, Int.not_le, Bool.and_eq_true, Bool.and_eq_false_iff, Bool.or_eq_true, Bool.or_eq_false_iff] at h))))
    · first | refine goC_call [.r, .r, .r] (d_spec_l01In (l.getD j 0) 2 4) ?_ | refine goOC_call [.r, .r, .r] (d_spec_l01In (l.getD j 0) 2 4) ?_
      repeat' (first | simp -implicitDefEqProofs (maxSteps := 1000000) (disch := (first | omega | (simp only [go_sem] <;> omega) | fail)) only [go_sem, ints, bools, mat] | ((first | refine goIf_b (fun h => ?_) (fun h => ?_) | refine goG_b (fun h => ?_) (fun h => ?_) | refine goTG_b (fun h => ?_) (fun h => ?_) | refine goOG_b (fun h => ?_) (fun h => ?_)) <;> ((try simp only [Bool.not_eq_true', Bool.not_eq_false'] at h); (try simp only [h]); (try simp only [decide_eq_true_eq, decide_eq_false_iff_not, bne_iff_ne, bne_eq_false_iff_eq, beq_iff_eq, beq_eq_false_iff_ne, ne_eq, Int.not_lt, Int.not_le, Bool.and_eq_true, Bool.and_eq_false_iff, Bool.or_eq_true, Bool.or_eq_false_iff] at h))))
      · refine hJ (j + 1) ⟨by omega, fun i hi' => ?_⟩ (by omega) _ (by simp -implicitDefEqProofs (maxSteps := 1000000) (disch := (first | omega | (simp only [go_sem] <;> omega) | fail)) only [go_sem, ints, bools, mat]; rfl)
        rcases Nat.lt_or_ge i j with h' | h'
        · exact hi i h'
        · have : i = j := by omega
          subst this; assumption
      · exact dbF fun h' => by have := (e.1 h').2.1 j (by omega); omega
    · have hj' : j = l.length := by omega
      subst hj'
      first | refine goC_call [.r] (d_spec_l01N l (by omega) hi) ?_ | refine goOC_call [.r] (d_spec_l01N l (by omega) hi) ?_
      repeat' (first | simp -implicitDefEqProofs (maxSteps := 1000000) (disch := (first | omega | (simp only [go_sem] <;> omega) | fail)) only [go_sem, ints, bools, mat] | ((first | refine goIf_b (fun h => ?_) (fun h => ?_) | refine goG_b (fun h => ?_) (fun h => ?_) | refine goTG_b (fun h => ?_) (fun h => ?_) | refine goOG_b (fun h => ?_) (fun h => ?_)) <;> ((try simp only [Bool.not_eq_true', Bool.not_eq_false'] at h); (try simp only [h]); (try simp only [decide_eq_true_eq, decide_eq_false_iff_not, bne_iff_ne, bne_eq_false_iff_eq, beq_iff_eq, beq_eq_false_iff_ne, ne_eq, Int.not_lt, Int.not_le, Bool.and_eq_true, Bool.and_eq_false_iff, Bool.or_eq_true, Bool.or_eq_false_iff] at h))))
      refine dbv ?_
      cases hm : isSpaceM l with
      | true => exact decide_eq_true (e.1 hm).2.2
      | false =>
        refine decide_eq_false fun hp => ?_
        have := e.2 ⟨by omega, hi, hp⟩
        rw [hm] at this; cases this
theorem d_impl_IsSpace (l : List Int) (hl : l.length < 1048577) :
    Den PA f_impl_IsSpace [.d (.agg [ints l])] [.any] (.d (db (isSpaceM l))) := by
  have e := isSpaceM_ok l
  refine den_go [] l_impl_IsSpace ?_
  repeat' (first | simp -implicitDefEqProofs (maxSteps := 1000000) (disch := (first | omega | (simp only [go_sem] <;> omega) | fail)) only [go_sem, ints, bools, mat, c_impl_IsSpace] | ((first | refine goIf_b (fun h => ?_) (fun h => ?_) | refine goG_b (fun h => ?_) (fun h => ?_) | refine goTG_b (fun h => ?_) (fun h => ?_) | refine goOG_b (fun h => ?_) (fun h => ?_)) <;> ((try simp only [Bool.not_eq_true', Bool.not_eq_false'] at h); (try simp only [h]); (try simp only [decide_eq_true_eq, decide_eq_false_iff_not, bne_iff_ne, bne_eq_false_iff_eq, beq_iff_eq, beq_eq_false_iff_ne, ne_eq, Int.not_lt, Int.not_le, Bool.and_eq_true, Bool.and_eq_false_iff, Bool.or_eq_true, Bool.or_eq_false_iff] at h))))
  · exact dbF fun h' => by have := (e.1 h').1; omega
  · refine go_loop (fun (j : Nat) => ⟨[(3, .d (di (prodM (l.take j)))), (17, .d (ints l)), (18, .d (di l.length)), (19, .d (di j))], []⟩) (fun j => j ≤ l.length ∧ ∀ i, i < j → 2 ≤ l.getD i 0 ∧ l.getD i 0 ≤ 4) (fun j => l.length - j) 0 ?_ ?_ ?_
    · simp -implicitDefEqProofs (maxSteps := 1000000) (disch := (first | omega | (simp only [go_sem] <;> omega) | fail)) only [go_sem, ints, bools, mat]; rfl
    · simp
    · rintro j ⟨hj, hi⟩ J hJ
      have hb := prodM_small l (j := j) (by omega) hj hi
      repeat' (first | simp -implicitDefEqProofs (maxSteps := 1000000) (disch := (first | omega | (simp only [go_sem] <;> omega) | fail)) only [go_sem, ints, bools, mat] | ((first | refine goIf_b (fun h => ?_) (fun h => ?_) | refine goG_b (fun h => ?_) (fun h => ?_) | refine goTG_b (fun h => ?_) (fun h => ?_) | refine goOG_b (fun h => ?_) (fun h => ?_)) <;> ((try simp only [Bool.not_eq_true', Bool.not_eq_false'] at h); (try simp only [h]); (try simp only [decide_eq_true_eq, decide_eq_false_iff_not, bne_iff_ne, bne_eq_false_iff_eq, beq_iff_eq, beq_eq_false_iff_ne, ne_eq, Int.not_lt, Int.not_le, Bool.and_eq_true, Bool.and_eq_false_iff, Bool.or_eq_true, Bool.or_eq_false_iff] at h))))
      · exact dbF fun h' => by have := (e.1 h').2.1 j (by omega); omega
      · have hi' : ∀ i, i < j + 1 → 2 ≤ l.getD i 0 ∧ l.getD i 0 ≤ 4 := fun i hi' => by
          rcases Nat.lt_or_ge i j with h' | h'
          · exact hi i h'
          · have : i = j := by omega
            subst this; exact ⟨by assumption, by assumption⟩
        have hb' := prodM_small l (j := j + 1) (by omega) (by omega) hi'
        have hs := prodM_step l (j := j) (by omega)
        rw [hs] at hb'
        refine hJ (j + 1) ⟨by omega, hi'⟩ (by omega) _ ?_
        simp -implicitDefEqProofs (maxSteps := 1000000) (disch := (first | omega | (simp only [go_sem] <;> omega) | fail)) only [go_sem, ints, bools, mat]
        rw [hs]; rfl
      · exact dbF fun h' => by have := (e.1 h').2.1 j (by omega); omega
      · have hj' : j = l.length := by omega
        subst hj'
        refine dbv ?_
        cases hm : isSpaceM l with
        | true => exact decide_eq_true (e.1 hm).2.2
        | false =>
          refine decide_eq_false fun hp => ?_
          have := e.2 ⟨by omega, hi, hp⟩
          rw [hm] at this; cases this
  · exact dbF fun h' => by have := (e.1 h').1; omega
theorem isSpaceM_q {l : List Int} (h : isSpaceM l = true) : ∀ j, j < l.length → 2 ≤ l.getD j 0 ∧ l.getD j 0 ≤ 4 := ((isSpaceM_ok l).1 h).2.1
theorem isSpaceM_n {l : List Int} (h : isSpaceM l = true) : 1 ≤ l.length ∧ l.length ≤ 8 := ((isSpaceM_ok l).1 h).1
theorem sz_ok {l : List Int} {left : Int} (h : 0 ≤ (if left < (l.length : Int) then (-1 : Int) else left - l.length)) : (l.length : Int) ≤ left := by
  by_cases hh : left < (l.length : Int)
  · rw [if_pos hh] at h; omega
  · omega
abbrev nil : D := .v (.slice none 0 0)
def markL (n : Nat) (k : Int) : List Int := (List.range n).map fun (i : Nat) => k + (i : Int)
@[go_sem] theorem markL_len (n : Nat) (k : Int) : (markL n k).length = n := by simp [markL]
theorem markL_get {n : Nat} (k : Int) {j : Nat} (h : j < n) : (markL n k).getD j 0 = k + j := by simp [markL, h]
@[go_sem] theorem take_markL (n : Nat) (k : Int) : (markL n k).take n = markL n k := List.take_of_length_le (by rw [markL_len]; exact Nat.le_refl _)
theorem mark_step (l : List Int) (k : Int) {j : Nat} (h : j < l.length) : (markL j k ++ l.drop j).set j (k + j) = markL (j + 1) k ++ l.drop (j + 1) := by
  apply List.ext_getElem
  · simp [markL]; omega
  · intro i h1 h2
    simp [markL] at h1 h2
    rw [List.getElem_set]
    split
    · subst_vars; simp [markL, List.getElem_append]
    · simp only [List.getElem_append, markL_len]
      split <;> split
      · simp [markL]
      · omega
      · omega
      · simp only [List.getElem_drop]; congr 1; omega
theorem d_laws_markInt64S (l : List Int) (k : Int) (hl : l.length < 1048577) (hk : 0 ≤ k) (hk2 : k < 1000000000000) :
    Den PA f_laws_markInt64S [.own 1 (l.map di), .d (di k)] [.own 1 ((markL l.length k).map di), .any] (.d (di (k + l.length))) := by
  refine den_go [0] l_laws_markInt64S ?_
  repeat' (first | simp -implicitDefEqProofs (maxSteps := 1000000) (disch := (first | omega | (simp only [go_sem] <;> omega) | fail)) only [go_sem, ints, bools, mat, c_laws_markInt64S] | ((first | refine goIf_b (fun h => ?_) (fun h => ?_) | refine goG_b (fun h => ?_) (fun h => ?_) | refine goTG_b (fun h => ?_) (fun h => ?_) | refine goOG_b (fun h => ?_) (fun h => ?_)) <;> ((try simp only [Bool.not_eq_true', Bool.not_eq_false'] at h); (try simp only [h]); (try simp only [decide_eq_true_eq, decide_eq_false_iff_not, bne_iff_ne, bne_eq_false_iff_eq, beq_iff_eq, beq_eq_false_iff_ne, ne_eq, Int.not_lt, Int.not_le, Bool.and_eq_true, Bool.and_eq_false_iff, Bool.or_eq_true, Bool.or_eq_false_iff] at h))))
  refine go_loop (fun (j : Nat) => ⟨[(0, .sl 0 0 l.length 1), (1, .d (di (k + j))), (5, .d (di j)), (19, .sl 0 0 l.length 1)], [some (.dat 1 ((markL j k ++ l.drop j).map di))]⟩) (fun j => j ≤ l.length) (fun j => l.length - j) 0 ?_ ?_ ?_
  · simp -implicitDefEqProofs (maxSteps := 1000000) (disch := (first | omega | (simp only [go_sem] <;> omega) | fail)) only [go_sem, ints, bools, mat]; simp [markL]
  · simp
  · rintro j hj J hJ
    have hlen := markL_len j k
    have hst := fun h => mark_step l k (j := j) h
    repeat' (first | simp -implicitDefEqProofs (maxSteps := 1000000) (disch := (first | omega | (simp only [go_sem] <;> omega) | fail)) only [go_sem, ints, bools, mat] | ((first | refine goIf_b (fun h => ?_) (fun h => ?_) | refine goG_b (fun h => ?_) (fun h => ?_) | refine goTG_b (fun h => ?_) (fun h => ?_) | refine goOG_b (fun h => ?_) (fun h => ?_)) <;> ((try simp only [Bool.not_eq_true', Bool.not_eq_false'] at h); (try simp only [h]); (try simp only [decide_eq_true_eq, decide_eq_false_iff_not, bne_iff_ne, bne_eq_false_iff_eq, beq_iff_eq, beq_eq_false_iff_ne, ne_eq, Int.not_lt, Int.not_le, Bool.and_eq_true, Bool.and_eq_false_iff, Bool.or_eq_true, Bool.or_eq_false_iff] at h))))
    · refine hJ (j + 1) (by omega) (by omega) _ ?_
      simp -implicitDefEqProofs (maxSteps := 1000000) (disch := (first | omega | (simp only [go_sem] <;> omega) | fail)) only [go_sem, ints, bools, mat]
      rw [hst (by omega)]; simp only [Int.natCast_add, Int.natCast_one, Int.add_assoc]
    · have : j = l.length := by omega
      subst this; simp
theorem d_laws_markInt64S_nil (k : Int) : Den PA f_laws_markInt64S [.d nil, .d (di k)] [.any, .any] (.d (di k)) := by
  refine den_go [] l_laws_markInt64S ?_
  repeat' (first | simp -implicitDefEqProofs (maxSteps := 1000000) (disch := (first | omega | (simp only [go_sem] <;> omega) | fail)) only [go_sem, ints, bools, mat, c_laws_markInt64S] | ((first | refine goIf_b (fun h => ?_) (fun h => ?_) | refine goG_b (fun h => ?_) (fun h => ?_) | refine goTG_b (fun h => ?_) (fun h => ?_) | refine goOG_b (fun h => ?_) (fun h => ?_)) <;> ((try simp only [Bool.not_eq_true', Bool.not_eq_false'] at h); (try simp only [h]); (try simp only [decide_eq_true_eq, decide_eq_false_iff_not, bne_iff_ne, bne_eq_false_iff_eq, beq_iff_eq, beq_eq_false_iff_ne, ne_eq, Int.not_lt, Int.not_le, Bool.and_eq_true, Bool.and_eq_false_iff, Bool.or_eq_true, Bool.or_eq_false_iff] at h))))
  refine go_loop (fun (_ : Unit) => ⟨[(0, .d nil), (1, .d (di k)), (5, .d (di 0)), (19, .any)], []⟩) (fun _ => True) (fun _ => 0) () ?_ trivial ?_
  · (simp -implicitDefEqProofs (maxSteps := 1000000) (disch := (first | omega | (simp only [go_sem] <;> omega) | fail)) only [go_sem, ints, bools, mat] <;> rfl)
  · intro _ _ J _
    repeat' (first | simp -implicitDefEqProofs (maxSteps := 1000000) (disch := (first | omega | (simp only [go_sem] <;> omega) | fail)) only [go_sem, ints, bools, mat] | ((first | refine goIf_b (fun h => ?_) (fun h => ?_) | refine goG_b (fun h => ?_) (fun h => ?_) | refine goTG_b (fun h => ?_) (fun h => ?_) | refine goOG_b (fun h => ?_) (fun h => ?_)) <;> ((try simp only [Bool.not_eq_true', Bool.not_eq_false'] at h); (try simp only [h]); (try simp only [decide_eq_true_eq, decide_eq_false_iff_not, bne_iff_ne, bne_eq_false_iff_eq, beq_iff_eq, beq_eq_false_iff_ne, ne_eq, Int.not_lt, Int.not_le, Bool.and_eq_true, Bool.and_eq_false_iff, Bool.or_eq_true, Bool.or_eq_false_iff] at h))))
theorem d_laws_heldInt64S (n : Nat) (k : Int) (hl : n < 1048577) (hk : 0 ≤ k) (hk2 : k < 1000000000000) :
    Den PA f_laws_heldInt64S [.d (ints (markL n k)), .d (di k)] [.any, .any] (.d (di (k + n))) := by
  have hlen := markL_len n k
  refine den_go [] l_laws_heldInt64S ?_
  repeat' (first | simp -implicitDefEqProofs (maxSteps := 1000000) (disch := (first | omega | (simp only [go_sem] <;> omega) | fail)) only [go_sem, ints, bools, mat, c_laws_heldInt64S] | ((first | refine goIf_b (fun h => ?_) (fun h => ?_) | refine goG_b (fun h => ?_) (fun h => ?_) | refine goTG_b (fun h => ?_) (fun h => ?_) | refine goOG_b (fun h => ?_) (fun h => ?_)) <;> ((try simp only [Bool.not_eq_true', Bool.not_eq_false'] at h); (try simp only [h]); (try simp only [decide_eq_true_eq, decide_eq_false_iff_not, bne_iff_ne, bne_eq_false_iff_eq, beq_iff_eq, beq_eq_false_iff_ne, ne_eq, Int.not_lt, Int.not_le, Bool.and_eq_true, Bool.and_eq_false_iff, Bool.or_eq_true, Bool.or_eq_false_iff] at h))))
  refine go_loop (fun (j : Nat) => ⟨[(0, .d (ints (markL n k))), (1, .d (di (k + j))), (5, .d (di j))], []⟩) (fun j => j ≤ n) (fun j => n - j) 0 ?_ ?_ ?_
  · simp -implicitDefEqProofs (maxSteps := 1000000) (disch := (first | omega | (simp only [go_sem] <;> omega) | fail)) only [go_sem, ints, bools, mat]; simp
  · simp
  · rintro j hj J hJ
    have hst := fun h => markL_get k (n := n) (j := j) h
    repeat' (first | simp -implicitDefEqProofs (maxSteps := 1000000) (disch := (first | omega | (simp only [go_sem] <;> omega) | fail)) only [go_sem, ints, bools, mat] | ((first | refine goIf_b (fun h => ?_) (fun h => ?_) | refine goG_b (fun h => ?_) (fun h => ?_) | refine goTG_b (fun h => ?_) (fun h => ?_) | refine goOG_b (fun h => ?_) (fun h => ?_)) <;> ((try simp only [Bool.not_eq_true', Bool.not_eq_false'] at h); (try simp only [h]); (try simp only [decide_eq_true_eq, decide_eq_false_iff_not, bne_iff_ne, bne_eq_false_iff_eq, beq_iff_eq, beq_eq_false_iff_ne, ne_eq, Int.not_lt, Int.not_le, Bool.and_eq_true, Bool.and_eq_false_iff, Bool.or_eq_true, Bool.or_eq_false_iff] at h))))
    · exfalso; rw [hst (by omega)] at h; exact h rfl
    · refine hJ (j + 1) (by omega) (by omega) _ ?_
      simp -implicitDefEqProofs (maxSteps := 1000000) (disch := (first | omega | (simp only [go_sem] <;> omega) | fail)) only [go_sem, ints, bools, mat]
      simp only [Int.natCast_add, Int.natCast_one, Int.add_assoc]
    · have : j = n := by omega
      subst this; rfl
theorem d_laws_heldInt64S_nil (k : Int) : Den PA f_laws_heldInt64S [.d nil, .d (di k)] [.any, .any] (.d (di k)) := by
  refine den_go [] l_laws_heldInt64S ?_
  repeat' (first | simp -implicitDefEqProofs (maxSteps := 1000000) (disch := (first | omega | (simp only [go_sem] <;> omega) | fail)) only [go_sem, ints, bools, mat, c_laws_heldInt64S] | ((first | refine goIf_b (fun h => ?_) (fun h => ?_) | refine goG_b (fun h => ?_) (fun h => ?_) | refine goTG_b (fun h => ?_) (fun h => ?_) | refine goOG_b (fun h => ?_) (fun h => ?_)) <;> ((try simp only [Bool.not_eq_true', Bool.not_eq_false'] at h); (try simp only [h]); (try simp only [decide_eq_true_eq, decide_eq_false_iff_not, bne_iff_ne, bne_eq_false_iff_eq, beq_iff_eq, beq_eq_false_iff_ne, ne_eq, Int.not_lt, Int.not_le, Bool.and_eq_true, Bool.and_eq_false_iff, Bool.or_eq_true, Bool.or_eq_false_iff] at h))))
  refine go_loop (fun (_ : Unit) => ⟨[(0, .d nil), (1, .d (di k)), (5, .d (di 0))], []⟩) (fun _ => True) (fun _ => 0) () ?_ trivial ?_
  · (simp -implicitDefEqProofs (maxSteps := 1000000) (disch := (first | omega | (simp only [go_sem] <;> omega) | fail)) only [go_sem, ints, bools, mat] <;> rfl)
  · intro _ _ J _
    repeat' (first | simp -implicitDefEqProofs (maxSteps := 1000000) (disch := (first | omega | (simp only [go_sem] <;> omega) | fail)) only [go_sem, ints, bools, mat] | ((first | refine goIf_b (fun h => ?_) (fun h => ?_) | refine goG_b (fun h => ?_) (fun h => ?_) | refine goTG_b (fun h => ?_) (fun h => ?_) | refine goOG_b (fun h => ?_) (fun h => ?_)) <;> ((try simp only [Bool.not_eq_true', Bool.not_eq_false'] at h); (try simp only [h]); (try simp only [decide_eq_true_eq, decide_eq_false_iff_not, bne_iff_ne, bne_eq_false_iff_eq, beq_iff_eq, beq_eq_false_iff_ne, ne_eq, Int.not_lt, Int.not_le, Bool.and_eq_true, Bool.and_eq_false_iff, Bool.or_eq_true, Bool.or_eq_false_iff] at h))))
theorem d_laws_eqInt64S_nil : Den PA f_laws_eqInt64S [.d nil, .d nil] [.any, .any] (.d (db true)) := by
  refine den_go [] l_laws_eqInt64S ?_
  repeat' (first | simp -implicitDefEqProofs (maxSteps := 1000000) (disch := (first | omega | (simp only [go_sem] <;> omega) | fail)) only [go_sem, ints, bools, mat, c_laws_eqInt64S] | ((first | refine goIf_b (fun h => ?_) (fun h => ?_) | refine goG_b (fun h => ?_) (fun h => ?_) | refine goTG_b (fun h => ?_) (fun h => ?_) | refine goOG_b (fun h => ?_) (fun h => ?_)) <;> ((try simp only [Bool.not_eq_true', Bool.not_eq_false'] at h); (try simp only [h]); (try simp only [decide_eq_true_eq, decide_eq_false_iff_not, bne_iff_ne, bne_eq_false_iff_eq, beq_iff_eq, beq_eq_false_iff_ne, ne_eq, Int.not_lt, Int.not_le, Bool.and_eq_true, Bool.and_eq_false_iff, Bool.or_eq_true, Bool.or_eq_false_iff] at h))))
  refine go_loop (fun (_ : Unit) => ⟨[(0, .d nil), (1, .d nil), (5, .d (di 0))], []⟩) (fun _ => True) (fun _ => 0) () ?_ trivial ?_
  · (simp -implicitDefEqProofs (maxSteps := 1000000) (disch := (first | omega | (simp only [go_sem] <;> omega) | fail)) only [go_sem, ints, bools, mat] <;> rfl)
  · intro _ _ J _
    repeat' (first | simp -implicitDefEqProofs (maxSteps := 1000000) (disch := (first | omega | (simp only [go_sem] <;> omega) | fail)) only [go_sem, ints, bools, mat] | ((first | refine goIf_b (fun h => ?_) (fun h => ?_) | refine goG_b (fun h => ?_) (fun h => ?_) | refine goTG_b (fun h => ?_) (fun h => ?_) | refine goOG_b (fun h => ?_) (fun h => ?_)) <;> ((try simp only [Bool.not_eq_true', Bool.not_eq_false'] at h); (try simp only [h]); (try simp only [decide_eq_true_eq, decide_eq_false_iff_not, bne_iff_ne, bne_eq_false_iff_eq, beq_iff_eq, beq_eq_false_iff_ne, ne_eq, Int.not_lt, Int.not_le, Bool.and_eq_true, Bool.and_eq_false_iff, Bool.or_eq_true, Bool.or_eq_false_iff] at h))))
theorem d_laws_markSpace (l : List Int) (k : Int) (hl : l.length < 1048577) (hk : 0 ≤ k) (hk2 : k < 1000000000000) :
    Den PA f_laws_markSpace [.agg [.own 1 (l.map di)], .d (di k)] [.agg [.own 1 ((markL l.length k).map di)], .any] (.d (di (k + l.length))) := by
  refine den_go [0] l_laws_markSpace ?_
  repeat' (first | simp -implicitDefEqProofs (maxSteps := 1000000) (disch := (first | omega | (simp only [go_sem] <;> omega) | fail)) only [go_sem, ints, bools, mat, c_laws_markSpace] | ((first | refine goIf_b (fun h => ?_) (fun h => ?_) | refine goG_b (fun h => ?_) (fun h => ?_) | refine goTG_b (fun h => ?_) (fun h => ?_) | refine goOG_b (fun h => ?_) (fun h => ?_)) <;> ((try simp only [Bool.not_eq_true', Bool.not_eq_false'] at h); (try simp only [h]); (try simp only [decide_eq_true_eq, decide_eq_false_iff_not, bne_iff_ne, bne_eq_false_iff_eq, beq_iff_eq, beq_eq_false_iff_ne, ne_eq, Int.not_lt, Int.not_le, Bool.and_eq_true, Bool.and_eq_false_iff, Bool.or_eq_true, Bool.or_eq_false_iff] at h))))
  have hm := markL_len l.length k
  first | refine goC_call [.o, .r] (d_laws_markInt64S l k hl hk hk2) ?_ | refine goOC_call [.o, .r] (d_laws_markInt64S l k hl hk hk2) ?_
  repeat' (first | simp -implicitDefEqProofs (maxSteps := 1000000) (disch := (first | omega | (simp only [go_sem] <;> omega) | fail)) only [go_sem, ints, bools, mat] | ((first | refine goIf_b (fun h => ?_) (fun h => ?_) | refine goG_b (fun h => ?_) (fun h => ?_) | refine goTG_b (fun h => ?_) (fun h => ?_) | refine goOG_b (fun h => ?_) (fun h => ?_)) <;> ((try simp only [Bool.not_eq_true', Bool.not_eq_false'] at h); (try simp only [h]); (try simp only [decide_eq_true_eq, decide_eq_false_iff_not, bne_iff_ne, bne_eq_false_iff_eq, beq_iff_eq, beq_eq_false_iff_ne, ne_eq, Int.not_lt, Int.not_le, Bool.and_eq_true, Bool.and_eq_false_iff, Bool.or_eq_true, Bool.or_eq_false_iff] at h))))
@[go_sem] theorem cast_succ_sub (i : Nat) : ((i + 1 : Nat) : Int) - 1 = (i : Int) := by omega
@[go_sem] theorem cast_zero0 : ((0 : Nat) : Int) = 0 := rfl
theorem foldl_mul (l : List Int) : ∀ a : Int, l.foldl (· * ·) a = a * l.foldl (· * ·) 1 := by
  induction l with
  | nil => intro a; simp
  | cons q r ih => intro a; simp only [List.foldl_cons]; rw [ih (a * q), ih (1 * q), Int.one_mul, Int.mul_assoc]
theorem prodM_cons (q : Int) (r : List Int) : prodM (q :: r) = q * prodM r := by
  simp only [prodM, List.foldl_cons]; rw [foldl_mul, Int.one_mul]
theorem prodM_nil : prodM [] = 1 := rfl
/-- The digits of a word, the first one first. -/
def digM : List Int → Int → List Int
  | [], _ => []
  | q :: r, w => (w / prodM r) % q :: digM r w
theorem digM_len : ∀ (l : List Int) (w : Int), (digM l w).length = l.length
  | [], _ => rfl
  | _ :: r, w => by simp [digM, digM_len r w]
theorem drop_cons1 {l : List Int} {i : Nat} (h : i < l.length) : l.drop i = l.getD i 0 :: l.drop (i + 1) := by
  rw [List.drop_eq_getElem_cons h]; simp [h]
theorem digM_drop {l : List Int} (w : Int) {i : Nat} (h : i < l.length) : digM (l.drop i) w = (w / prodM (l.drop (i + 1))) % l.getD i 0 :: digM (l.drop (i + 1)) w := by
  rw [drop_cons1 h]; rfl
theorem prodM_drop {l : List Int} {i : Nat} (h : i < l.length) : prodM (l.drop i) = l.getD i 0 * prodM (l.drop (i + 1)) := by
  rw [drop_cons1 h, prodM_cons]
/-- All sizes are at least 2. -/
def szs (l : List Int) : Prop := ∀ j, j < l.length → 2 ≤ l.getD j 0 ∧ l.getD j 0 ≤ 4
theorem szs_tail {q : Int} {r : List Int} (h : szs (q :: r)) : szs r := fun j hj => by simpa using h (j + 1) (by simpa using hj)
theorem prodM_pos : ∀ {l : List Int}, szs l → 1 ≤ prodM l
  | [], _ => by simp [prodM]
  | q :: r, h => by
    have h1 := prodM_pos (szs_tail h)
    have h2 := h 0 (by simp)
    simp at h2
    rw [prodM_cons]
    have := Int.mul_le_mul (show (1 : Int) ≤ q by omega) h1 (by omega) (by omega)
    simpa using this
theorem szs_drop {l : List Int} (h : szs l) (k : Nat) : szs (l.drop k) := fun j hj => by
  have := h (k + j) (by simp at hj; omega)
  simpa [List.getD_eq_getElem?_getD, List.getElem?_drop] using this
theorem div_le_self {w p : Int} (h : 0 ≤ w) (hp : 1 ≤ p) : 0 ≤ w / p ∧ w / p ≤ w := by
  refine ⟨Int.ediv_nonneg h (by omega), Int.ediv_le_self _ h⟩
theorem div_step {l : List Int} {w : Int} {i : Nat} (hs : szs l) (h : i < l.length) : w / prodM (l.drop (i + 1)) / l.getD i 0 = w / prodM (l.drop i) := by
  rw [prodM_drop h, Int.mul_comm, Int.ediv_ediv_of_nonneg (by have := prodM_pos (szs_drop hs (i + 1)); omega)]
theorem mod_bnd {x q : Int} (h : 2 ≤ q ∧ q ≤ 4) : 0 ≤ x % q ∧ x % q < q ∧ x % q < 4 := by
  have h1 := Int.emod_nonneg x (show q ≠ 0 by omega)
  have h2 := Int.emod_lt_of_pos x (show 0 < q by omega)
  omega
def pad8 (ds : List Int) : List Int := (ds ++ List.replicate 8 0).take 8
@[go_sem] theorem pad8_len (ds : List Int) : (pad8 ds).length = 8 := by simp [pad8]
theorem pad8_eq {ds : List Int} (h : ds.length ≤ 8) : pad8 ds = ds ++ List.replicate (8 - ds.length) 0 := by
  rw [pad8, List.take_append, List.take_of_length_le h, List.take_replicate]
  congr 2; omega
abbrev dig (ds : List Int) : D := .agg ((pad8 ds).map dy)
theorem set_rep {i : Nat} (v : Int) (r : List Int) : (List.replicate (i + 1) 0 ++ r).set i v = List.replicate i 0 ++ v :: r := by
  rw [List.replicate_succ', List.append_assoc, List.set_append_right _ _ (by simp)]
  simp
theorem isSpaceM_szs {l : List Int} (h : isSpaceM l = true) : szs l := isSpaceM_q h
theorem isSpaceM_prod {l : List Int} (h : isSpaceM l = true) : prodM l ≤ 1024 := ((isSpaceM_ok l).1 h).2.2
theorem d_impl_count (l : List Int) (hs : isSpaceM l = true) : Den PA f_impl_count [.d (.agg [ints l])] [.any] (.d (di (prodM l))) := by
  have hn := isSpaceM_n hs
  refine den_go [] l_impl_count ?_
  repeat' (first | simp -implicitDefEqProofs (maxSteps := 1000000) (disch := (first | omega | (simp only [go_sem] <;> omega) | fail)) only [go_sem, ints, bools, mat, c_impl_count] | ((first | refine goIf_b (fun h => ?_) (fun h => ?_) | refine goG_b (fun h => ?_) (fun h => ?_) | refine goTG_b (fun h => ?_) (fun h => ?_) | refine goOG_b (fun h => ?_) (fun h => ?_)) <;> ((try simp only [Bool.not_eq_true', Bool.not_eq_false'] at h); (try simp only [h]); (try simp only [decide_eq_true_eq, decide_eq_false_iff_not, bne_iff_ne, bne_eq_false_iff_eq, beq_iff_eq, beq_eq_false_iff_ne, ne_eq, Int.not_lt, Int.not_le, Bool.and_eq_true, Bool.and_eq_false_iff, Bool.or_eq_true, Bool.or_eq_false_iff] at h))))
  refine go_loop (fun (j : Nat) => ⟨[(3, .d (di (prodM (l.take j)))), (7, .d (ints l)), (8, .d (di l.length)), (9, .d (di j))], []⟩) (fun j => j ≤ l.length) (fun j => l.length - j) 0 ?_ ?_ ?_
  · (simp -implicitDefEqProofs (maxSteps := 1000000) (disch := (first | omega | (simp only [go_sem] <;> omega) | fail)) only [go_sem, ints, bools, mat] <;> rfl)
  · simp
  · rintro j hj J hJ
    have hb := prodM_small l (j := j) (by omega) hj (fun i hi => isSpaceM_q hs i (by omega))
    have hb' := fun hj' => prodM_small l (j := j + 1) (by omega) hj' (fun i hi => isSpaceM_q hs i (by omega))
    have hst := fun hj' => prodM_step l (j := j) hj'
    repeat' (first | simp -implicitDefEqProofs (maxSteps := 1000000) (disch := (first | omega | (simp only [go_sem] <;> omega) | fail)) only [go_sem, ints, bools, mat] | ((first | refine goIf_b (fun h => ?_) (fun h => ?_) | refine goG_b (fun h => ?_) (fun h => ?_) | refine goTG_b (fun h => ?_) (fun h => ?_) | refine goOG_b (fun h => ?_) (fun h => ?_)) <;> ((try simp only [Bool.not_eq_true', Bool.not_eq_false'] at h); (try simp only [h]); (try simp only [decide_eq_true_eq, decide_eq_false_iff_not, bne_iff_ne, bne_eq_false_iff_eq, beq_iff_eq, beq_eq_false_iff_ne, ne_eq, Int.not_lt, Int.not_le, Bool.and_eq_true, Bool.and_eq_false_iff, Bool.or_eq_true, Bool.or_eq_false_iff] at h))))
    · have h1 := hb' (by omega)
      rw [hst (by omega)] at h1
      refine hJ (j + 1) (by omega) (by omega) _ ?_
      simp -implicitDefEqProofs (maxSteps := 1000000) (disch := (first | omega | (simp only [go_sem] <;> omega) | fail)) only [go_sem, ints, bools, mat]
      rw [hst (by omega)]; rfl
theorem d_impl_digitsOf (l : List Int) (hs : isSpaceM l = true) (w : Int) (hw : 0 ≤ w) (hw2 : w < 1000000000000) : Den PA f_impl_digitsOf [.d (.agg [ints l]), .d (di w)] [.any, .any] (.d (dig (digM l w))) := by
  have hn := isSpaceM_n hs
  have hz := isSpaceM_szs hs
  refine den_go [] l_impl_digitsOf ?_
  repeat' (first | simp -implicitDefEqProofs (maxSteps := 1000000) (disch := (first | omega | (simp only [go_sem] <;> omega) | fail)) only [go_sem, ints, bools, mat, c_impl_digitsOf] | ((first | refine goIf_b (fun h => ?_) (fun h => ?_) | refine goG_b (fun h => ?_) (fun h => ?_) | refine goTG_b (fun h => ?_) (fun h => ?_) | refine goOG_b (fun h => ?_) (fun h => ?_)) <;> ((try simp only [Bool.not_eq_true', Bool.not_eq_false'] at h); (try simp only [h]); (try simp only [decide_eq_true_eq, decide_eq_false_iff_not, bne_iff_ne, bne_eq_false_iff_eq, beq_iff_eq, beq_eq_false_iff_ne, ne_eq, Int.not_lt, Int.not_le, Bool.and_eq_true, Bool.and_eq_false_iff, Bool.or_eq_true, Bool.or_eq_false_iff] at h))))
  refine go_loop (fun (k : Nat) => ⟨[(1, .d (di (w / prodM (l.drop k)))), (2, .ref 0 0), (4, .ref 1 0), (5, .ref 2 0), (6, .d (di ((k : Int) - 1)))], [some (.var [ints l]), some (.var [dy 0, dy 0, dy 0, dy 0, dy 0, dy 0, dy 0, dy 0]), some (.var ((List.replicate k 0 ++ (digM (l.drop k) w ++ List.replicate (8 - l.length) 0)).map dy))]⟩) (fun k => k ≤ l.length) (fun k => k) l.length ?_ ?_ ?_
  · simp -implicitDefEqProofs (maxSteps := 1000000) (disch := (first | omega | (simp only [go_sem] <;> omega) | fail)) only [go_sem, ints, bools, mat]
    have e1 : l.drop l.length = [] := by simp
    have e2 : List.replicate l.length (0 : Int) ++ List.replicate (8 - l.length) 0 = List.replicate 8 0 := by
      rw [List.replicate_append_replicate]; congr 1; omega
    rw [e1, digM, List.nil_append, e2, prodM_nil, Int.ediv_one]; rfl
  · simp
  · intro k hk J hJ
    rcases k with _ | i
    · have hdl := digM_len l w
      repeat' (first | simp -implicitDefEqProofs (maxSteps := 1000000) (disch := (first | omega | (simp only [go_sem] <;> omega) | fail)) only [go_sem, ints, bools, mat] | ((first | refine goIf_b (fun h => ?_) (fun h => ?_) | refine goG_b (fun h => ?_) (fun h => ?_) | refine goTG_b (fun h => ?_) (fun h => ?_) | refine goOG_b (fun h => ?_) (fun h => ?_)) <;> ((try simp only [Bool.not_eq_true', Bool.not_eq_false'] at h); (try simp only [h]); (try simp only [decide_eq_true_eq, decide_eq_false_iff_not, bne_iff_ne, bne_eq_false_iff_eq, beq_iff_eq, beq_eq_false_iff_ne, ne_eq, Int.not_lt, Int.not_le, Bool.and_eq_true, Bool.and_eq_false_iff, Bool.or_eq_true, Bool.or_eq_false_iff] at h)) <;> (try (exfalso; omega))))
      simp [dig, pad8_eq (ds := digM l w) (by rw [digM_len]; omega), digM_len]
    · have hq := hz i (by omega)
      have hp := prodM_pos (szs_drop hz (i + 1))
      have hw' := div_le_self hw hp
      have hm := mod_bnd (x := w / prodM (l.drop (i + 1))) hq
      have hd := div_step (w := w) hz (i := i) (by omega)
      have hp' := prodM_pos (szs_drop hz i)
      have hw'' := div_le_self hw hp'
      have hlen : (List.replicate (i + 1) (0 : Int) ++ (digM (l.drop (i + 1)) w ++ List.replicate (8 - l.length) 0)).length = 8 := by simp [digM_len]; omega
      rw [← hd] at hw''
      repeat' (first | simp -implicitDefEqProofs (maxSteps := 1000000) (disch := (first | omega | (simp only [go_sem] <;> omega) | fail)) only [go_sem, ints, bools, mat] | ((first | refine goIf_b (fun h => ?_) (fun h => ?_) | refine goG_b (fun h => ?_) (fun h => ?_) | refine goTG_b (fun h => ?_) (fun h => ?_) | refine goOG_b (fun h => ?_) (fun h => ?_)) <;> ((try simp only [Bool.not_eq_true', Bool.not_eq_false'] at h); (try simp only [h]); (try simp only [decide_eq_true_eq, decide_eq_false_iff_not, bne_iff_ne, bne_eq_false_iff_eq, beq_iff_eq, beq_eq_false_iff_ne, ne_eq, Int.not_lt, Int.not_le, Bool.and_eq_true, Bool.and_eq_false_iff, Bool.or_eq_true, Bool.or_eq_false_iff] at h)) <;> (try (exfalso; omega))))
      refine hJ i (by omega) (by omega) _ ?_
      simp -implicitDefEqProofs (maxSteps := 1000000) (disch := (first | omega | (simp only [go_sem] <;> omega) | fail)) only [go_sem, ints, bools, mat]
      rw [set_rep, hd, digM_drop w (i := i) (by omega)]; rfl
/-- At how many places two words differ. -/
def farM : List Int → List Int → Int
  | a :: r, b :: s => (if a = b then 0 else 1) + farM r s
  | _, _ => 0
def farN (a b : List Int) : Nat → Int
  | 0 => 0
  | j + 1 => farN a b j + (if a.getD j 0 = b.getD j 0 then 0 else 1)
abbrev distM (l : List Int) (u w : Int) : Int := farM (digM l u) (digM l w)
theorem farN_cons (x y : Int) (a b : List Int) : ∀ j, farN (x :: a) (y :: b) (j + 1) = (if x = y then 0 else 1) + farN a b j
  | 0 => by simp [farN]
  | j + 1 => by rw [farN, farN_cons x y a b j, farN, Int.add_assoc]; rfl
theorem farN_nn (a b : List Int) : ∀ j : Nat, 0 ≤ farN a b j ∧ farN a b j ≤ j
  | 0 => by simp [farN]
  | j + 1 => by have := farN_nn a b j; simp only [farN]; split <;> omega
theorem farN_farM : ∀ (a b z : List Int) (k : Nat), a.length = b.length → k = a.length + z.length → farN (a ++ z) (b ++ z) k = farM a b
  | [], [], z, k, _, hk => by
    simp only [List.nil_append, farM]
    clear hk
    induction k with
    | zero => rfl
    | succ k ih => simp [farN, ih]
  | x :: a, y :: b, z, k, h, hk => by
    rcases k with _ | k
    · simp only [List.length_cons] at hk; omega
    · rw [List.cons_append, List.cons_append, farN_cons, farN_farM a b z k (by simpa using h) (by simp at hk; omega)]; rfl
  | [], _ :: _, _, _, h, _ => by simp at h
  | _ :: _, [], _, _, h, _ => by simp at h
theorem farM_bnd : ∀ (a b : List Int), 0 ≤ farM a b ∧ farM a b ≤ a.length
  | [], _ => by simp [farM]
  | _ :: _, [] => by simp [farM]; omega
  | x :: a, y :: b => by have := farM_bnd a b; simp only [farM, List.length_cons]; split <;> omega
theorem d_impl_far (a b : List Int) (ha : a.length = b.length) (h8 : a.length ≤ 8) : Den PA f_impl_far [.d (dig a), .d (dig b)] [.any, .any] (.d (di (farM a b))) := by
  have e := farN_farM a b (List.replicate (8 - a.length) 0) 8 ha (by simp; omega)
  have ea := pad8_len a
  have eb := pad8_len b
  have e' : farN (pad8 a) (pad8 b) 8 = farM a b := by rw [← e, pad8_eq h8, pad8_eq (ds := b) (by omega)]; simp only [ha]
  refine den_go [] l_impl_far ?_
  repeat' (first | simp -implicitDefEqProofs (maxSteps := 1000000) (disch := (first | omega | (simp only [go_sem] <;> omega) | fail)) only [go_sem, ints, bools, mat, c_impl_far] | ((first | refine goIf_b (fun h => ?_) (fun h => ?_) | refine goG_b (fun h => ?_) (fun h => ?_) | refine goTG_b (fun h => ?_) (fun h => ?_) | refine goOG_b (fun h => ?_) (fun h => ?_)) <;> ((try simp only [Bool.not_eq_true', Bool.not_eq_false'] at h); (try simp only [h]); (try simp only [decide_eq_true_eq, decide_eq_false_iff_not, bne_iff_ne, bne_eq_false_iff_eq, beq_iff_eq, beq_eq_false_iff_ne, ne_eq, Int.not_lt, Int.not_le, Bool.and_eq_true, Bool.and_eq_false_iff, Bool.or_eq_true, Bool.or_eq_false_iff] at h))))
  refine go_loop (fun (j : Nat) => ⟨[(3, .ref 0 0), (5, .d (di (farN (pad8 a) (pad8 b) j))), (8, .d (dig a)), (9, .d (di j))], [some (.var ((pad8 b).map dy))]⟩) (fun j => j ≤ 8) (fun j => 8 - j) 0 ?_ ?_ ?_
  · (simp -implicitDefEqProofs (maxSteps := 1000000) (disch := (first | omega | (simp only [go_sem] <;> omega) | fail)) only [go_sem, ints, bools, mat] <;> rfl)
  · simp
  · rintro j hj J hJ
    have hb := farN_nn (pad8 a) (pad8 b) j
    repeat' (first | simp -implicitDefEqProofs (maxSteps := 1000000) (disch := (first | omega | (simp only [go_sem] <;> omega) | fail)) only [go_sem, ints, bools, mat] | ((first | refine goIf_b (fun h => ?_) (fun h => ?_) | refine goG_b (fun h => ?_) (fun h => ?_) | refine goTG_b (fun h => ?_) (fun h => ?_) | refine goOG_b (fun h => ?_) (fun h => ?_)) <;> ((try simp only [Bool.not_eq_true', Bool.not_eq_false'] at h); (try simp only [h]); (try simp only [decide_eq_true_eq, decide_eq_false_iff_not, bne_iff_ne, bne_eq_false_iff_eq, beq_iff_eq, beq_eq_false_iff_ne, ne_eq, Int.not_lt, Int.not_le, Bool.and_eq_true, Bool.and_eq_false_iff, Bool.or_eq_true, Bool.or_eq_false_iff] at h)) <;> (try (exfalso; omega))))
    · refine hJ (j + 1) (by omega) (by omega) _ ?_
      simp -implicitDefEqProofs (maxSteps := 1000000) (disch := (first | omega | (simp only [go_sem] <;> omega) | fail)) only [go_sem, ints, bools, mat]
      rw [farN, if_neg (by assumption)]; rfl
    · refine hJ (j + 1) (by omega) (by omega) _ ?_
      simp -implicitDefEqProofs (maxSteps := 1000000) (disch := (first | omega | (simp only [go_sem] <;> omega) | fail)) only [go_sem, ints, bools, mat]
      rw [farN, if_pos (by assumption), Int.add_zero]; rfl
    · have : j = 8 := by omega
      subst this; rw [e']
theorem d_spec_l01Distance (l : List Int) (hs : isSpaceM l = true) (u w : Int) (hu : 0 ≤ u) (hu2 : u < 1000000000000) (hw : 0 ≤ w) (hw2 : w < 1000000000000) : Den PA f_spec_l01Distance [.d (.agg [ints l]), .d (di u), .d (di w)] [.any, .any, .any] (.d (di (distM l u w))) := by
  have hn := isSpaceM_n hs
  have hz := isSpaceM_szs hs
  refine den_go [] l_spec_l01Distance ?_
  repeat' (first | simp -implicitDefEqProofs (maxSteps := 1000000) (disch := (first | omega | (simp only [go_sem] <;> omega) | fail)) only [go_sem, ints, bools, mat, c_spec_l01Distance] | ((first | refine goIf_b (fun h => ?_) (fun h => ?_) | refine goG_b (fun h => ?_) (fun h => ?_) | refine goTG_b (fun h => ?_) (fun h => ?_) | refine goOG_b (fun h => ?_) (fun h => ?_)) <;> ((try simp only [Bool.not_eq_true', Bool.not_eq_false'] at h); (try simp only [h]); (try simp only [decide_eq_true_eq, decide_eq_false_iff_not, bne_iff_ne, bne_eq_false_iff_eq, beq_iff_eq, beq_eq_false_iff_ne, ne_eq, Int.not_lt, Int.not_le, Bool.and_eq_true, Bool.and_eq_false_iff, Bool.or_eq_true, Bool.or_eq_false_iff] at h))))
  refine go_loop (fun (k : Nat) => ⟨[(1, .d (di (u / prodM (l.drop k)))), (2, .d (di (w / prodM (l.drop k)))), (3, .ref 0 0), (7, .d (di (farM (digM (l.drop k) u) (digM (l.drop k) w)))), (8, .d (di ((k : Int) - 1)))], [some (.var [ints l])]⟩) (fun k => k ≤ l.length) (fun k => k) l.length ?_ ?_ ?_
  · simp -implicitDefEqProofs (maxSteps := 1000000) (disch := (first | omega | (simp only [go_sem] <;> omega) | fail)) only [go_sem, ints, bools, mat]
    have e1 : l.drop l.length = [] := by simp
    rw [e1, digM, digM, farM, prodM_nil, Int.ediv_one, Int.ediv_one]
    intros; simp_all
  · simp
  · intro k hk J hJ
    rcases k with _ | i
    · repeat' (first | simp -implicitDefEqProofs (maxSteps := 1000000) (disch := (first | omega | (simp only [go_sem] <;> omega) | fail)) only [go_sem, ints, bools, mat] | ((first | refine goIf_b (fun h => ?_) (fun h => ?_) | refine goG_b (fun h => ?_) (fun h => ?_) | refine goTG_b (fun h => ?_) (fun h => ?_) | refine goOG_b (fun h => ?_) (fun h => ?_)) <;> ((try simp only [Bool.not_eq_true', Bool.not_eq_false'] at h); (try simp only [h]); (try simp only [decide_eq_true_eq, decide_eq_false_iff_not, bne_iff_ne, bne_eq_false_iff_eq, beq_iff_eq, beq_eq_false_iff_ne, ne_eq, Int.not_lt, Int.not_le, Bool.and_eq_true, Bool.and_eq_false_iff, Bool.or_eq_true, Bool.or_eq_false_iff] at h)) <;> (try (exfalso; omega))))
    · have hq := hz i (by omega)
      have hp := prodM_pos (szs_drop hz (i + 1))
      have hw' := div_le_self hw hp
      have hu' := div_le_self hu hp
      have hd := div_step (w := w) hz (i := i) (by omega)
      have hd2 := div_step (w := u) hz (i := i) (by omega)
      have hp' := prodM_pos (szs_drop hz i)
      have hw'' := div_le_self hw hp'
      have hu'' := div_le_self hu hp'
      have hf := farM_bnd (digM (l.drop (i + 1)) u) (digM (l.drop (i + 1)) w)
      rw [digM_len, List.length_drop] at hf
      rw [← hd] at hw''
      rw [← hd2] at hu''
      repeat' (first | simp -implicitDefEqProofs (maxSteps := 1000000) (disch := (first | omega | (simp only [go_sem] <;> omega) | fail)) only [go_sem, ints, bools, mat] | ((first | refine goIf_b (fun h => ?_) (fun h => ?_) | refine goG_b (fun h => ?_) (fun h => ?_) | refine goTG_b (fun h => ?_) (fun h => ?_) | refine goOG_b (fun h => ?_) (fun h => ?_)) <;> ((try simp only [Bool.not_eq_true', Bool.not_eq_false'] at h); (try simp only [h]); (try simp only [decide_eq_true_eq, decide_eq_false_iff_not, bne_iff_ne, bne_eq_false_iff_eq, beq_iff_eq, beq_eq_false_iff_ne, ne_eq, Int.not_lt, Int.not_le, Bool.and_eq_true, Bool.and_eq_false_iff, Bool.or_eq_true, Bool.or_eq_false_iff] at h)) <;> (try (exfalso; omega))))
      · refine hJ i (by omega) (by omega) _ ?_
        simp -implicitDefEqProofs (maxSteps := 1000000) (disch := (first | omega | (simp only [go_sem] <;> omega) | fail)) only [go_sem, ints, bools, mat]
        rw [hd, hd2, digM_drop w (i := i) (by omega), digM_drop u (i := i) (by omega), farM, if_neg h, Int.add_comm]
      · refine hJ i (by omega) (by omega) _ ?_
        simp -implicitDefEqProofs (maxSteps := 1000000) (disch := (first | omega | (simp only [go_sem] <;> omega) | fail)) only [go_sem, ints, bools, mat]
        rw [hd, hd2, digM_drop w (i := i) (by omega), digM_drop u (i := i) (by omega), farM, if_pos h, Int.zero_add]
@[go_sem] theorem and1_norm {x : Int} (h : 0 ≤ x) : ((x.toNat &&& (1 : Int).toNat : Nat) : Int) = x % 2 := by
  rw [show (1 : Int).toNat = 1 from rfl, and_one_toNat]; omega
theorem binA_shr_u {k : IntKind} {a b : Int} (h : 0 ≤ b) (h' : b ≤ 63) : binA .shr (.d (.v (.int .u64 a))) (.d (.v (.int k b))) = some (.d (.v (.int .u64 (a / 2 ^ b.toNat)))) := by
  have e : min b.toNat 64 = b.toNat := by omega
  have h1 : (0 : Int) ≤ 2 ^ b.toNat := Int.pow_nonneg (by omega)
  simp only [binA, binI, BinOp.isShift, true_or, if_true, if_neg (show ¬ b < 0 by omega), IntKind.bits, e, Option.map_some, Int.fdiv_eq_ediv_of_nonneg _ h1]
theorem ofInt_nat_u {a : Int} (h : 0 ≤ a) (h' : a < 18446744073709551616) : (BitVec.ofInt 64 a).toNat = a.toNat := by
  rw [BitVec.toNat_ofInt]; omega
theorem binA_and_u {a b : Int} (h : 0 ≤ a) (h1 : a < 18446744073709551616) (h2 : 0 ≤ b) (h3 : b < 18446744073709551616) :
    binA .and (.d (.v (.int .u64 a))) (.d (.v (.int .u64 b))) = some (.d (.v (.int .u64 ((a.toNat &&& b.toNat : Nat) : Int)))) := by
  have e : (BitVec.ofInt 64 a &&& BitVec.ofInt 64 b).toNat = a.toNat &&& b.toNat := by rw [BitVec.toNat_and, ofInt_nat_u h h1, ofInt_nat_u h2 h3]
  have hl : a.toNat &&& b.toNat < 18446744073709551616 := Nat.lt_of_le_of_lt Nat.and_le_left (by omega)
  have e2 : binI .and .u64 a b = some (.int .u64 (IntKind.wrap .u64 ((BitVec.ofInt 64 a &&& BitVec.ofInt 64 b).toNat : Nat))) := rfl
  simp only [binA, e2, BinOp.isShift, or_true, if_true, e, Option.map_some, wrap_u64 (x := ((a.toNat &&& b.toNat : Nat) : Int)) (by omega) (by omega)]
theorem binA_add_u {a b : Int} (h : 0 ≤ a + b) (h1 : a + b < 18446744073709551616) : binA .add (.d (.v (.int .u64 a))) (.d (.v (.int .u64 b))) = some (.d (.v (.int .u64 (a + b)))) := by
  rw [binA_add, wrap_u64 h h1]
theorem flat_dig (ds : List (List Int)) : flat (ds.map fun d => D.agg ((pad8 d).map dy)) = ds.flatMap fun d => (pad8 d).map dy := by
  induction ds with
  | nil => rfl
  | cons d r ih => simp only [flat, List.map_cons, List.flatMap_cons] at ih ⊢; rw [ih]; rfl
theorem drop_dig (ds : List (List Int)) : ∀ i, i < ds.length → ((ds.flatMap fun d => (pad8 d).map dy).drop (i * 8)).take 8 = (pad8 (ds.getD i [])).map dy := by
  induction ds with
  | nil => intro i hi; simp at hi
  | cons d r ih =>
    intro i hi
    rcases i with _ | i
    · rw [List.flatMap_cons, Nat.zero_mul, List.drop_zero, List.take_left' (by simp [pad8_len])]; rfl
    · rw [List.flatMap_cons, Nat.succ_mul, Nat.add_comm, ← List.drop_drop, List.drop_left' (by simp [pad8_len]), ih i (by simpa using hi)]; rfl
theorem len_dig (ds : List (List Int)) : (ds.flatMap fun d => (pad8 d).map dy).length = ds.length * 8 := by
  induction ds with
  | nil => rfl
  | cons d r ih => simp [List.flatMap_cons, ih, Nat.succ_mul, Nat.add_comm, pad8_len]
abbrev digs (ds : List (List Int)) : List D := ds.map fun d => D.agg ((pad8 d).map dy)
@[go_sem] theorem ldC_dig {ds : List (List Int)} {i : Nat} (h : i < ds.length) : ldC true 8 (flat (ds.map fun d => D.agg ((pad8 d).map dy))) (i * 8) = some (.d (.agg ((pad8 (ds.getD i [])).map dy))) := by
  rw [flat_dig]
  have h1 := drop_dig ds i h
  have h2 := len_dig ds
  unfold ldC
  rw [if_pos rfl]
  split
  · rename_i hc
    rw [hc.1, List.drop_zero, List.take_of_length_le (by omega)] at h1
    rw [h1]
  · rw [if_pos (by omega), h1]
@[go_sem] theorem get_dig {ds : List (List Int)} {i : Nat} (h : i < ds.length) : (ds.map fun d => D.agg ((pad8 d).map dy))[i]? = some (D.agg ((pad8 (ds.getD i [])).map dy)) := by simp [h]
@[go_sem] theorem app_dig (ds : List (List Int)) (d : List Int) : (ds.map fun d => D.agg ((pad8 d).map dy)) ++ [D.agg ((pad8 d).map dy)] = (ds ++ [d]).map fun d => D.agg ((pad8 d).map dy) := by simp
@[go_sem] theorem mul_mod8 (i : Nat) : i * 8 % 8 = 0 := Nat.mul_mod_left i 8
@[go_sem] theorem mul_div8 (i : Nat) : i * 8 / 8 = i := by omega
def digsM (l c : List Int) : List (List Int) := c.map (digM l)
@[go_sem] theorem digsM_len (l c : List Int) : (digsM l c).length = c.length := by simp [digsM]
theorem digsM_get (l c : List Int) {i : Nat} (h : i < c.length) : (digsM l c).getD i [] = digM l (c.getD i 0) := by simp [digsM, h]
theorem digsM_step (l c : List Int) {j : Nat} (h : j < c.length) : digsM l (c.take (j + 1)) = digsM l (c.take j) ++ [digM l (c.getD j 0)] := by
  rw [take_one c h]; simp [digsM]
def allW (l : List Int) : List Int := (List.range (prodM l).toNat).map fun (w : Nat) => (w : Int)
@[go_sem] theorem allW_len (l : List Int) : (allW l).length = (prodM l).toNat := by simp [allW]
theorem allW_get (l : List Int) {i : Nat} (h : i < (prodM l).toNat) : (allW l).getD i 0 = i := by simp [allW, h]
theorem take_allW (l : List Int) {j : Nat} (h : j < (prodM l).toNat) : (allW l).take (j + 1) = (allW l).take j ++ [(j : Int)] := by
  rw [take_one _ (by rw [allW_len]; exact h), allW_get l h]
theorem d_impl_allDigits (l : List Int) (hs : isSpaceM l = true) : Den PA f_impl_allDigits [.d (.agg [ints l])] [.any] (.own 8 (digs (digsM l (allW l)))) := by
  have hn := isSpaceM_n hs
  have hp := isSpaceM_prod hs
  have hp1 := prodM_pos (isSpaceM_szs hs)
  refine den_go [] l_impl_allDigits ?_
  repeat' (first | simp -implicitDefEqProofs (maxSteps := 1000000) (disch := (first | omega | (simp only [go_sem] <;> omega) | fail)) only [go_sem, ints, bools, mat, c_impl_allDigits] | ((first | refine goIf_b (fun h => ?_) (fun h => ?_) | refine goG_b (fun h => ?_) (fun h => ?_) | refine goTG_b (fun h => ?_) (fun h => ?_) | refine goOG_b (fun h => ?_) (fun h => ?_)) <;> ((try simp only [Bool.not_eq_true', Bool.not_eq_false'] at h); (try simp only [h]); (try simp only [decide_eq_true_eq, decide_eq_false_iff_not, bne_iff_ne, bne_eq_false_iff_eq, beq_iff_eq, beq_eq_false_iff_ne, ne_eq, Int.not_lt, Int.not_le, Bool.and_eq_true, Bool.and_eq_false_iff, Bool.or_eq_true, Bool.or_eq_false_iff] at h))))
  first | refine goC_call [.r] (d_impl_count l hs) ?_ | refine goOC_call [.r] (d_impl_count l hs) ?_
  repeat' (first | simp -implicitDefEqProofs (maxSteps := 1000000) (disch := (first | omega | (simp only [go_sem] <;> omega) | fail)) only [go_sem, ints, bools, mat] | ((first | refine goIf_b (fun h => ?_) (fun h => ?_) | refine goG_b (fun h => ?_) (fun h => ?_) | refine goTG_b (fun h => ?_) (fun h => ?_) | refine goOG_b (fun h => ?_) (fun h => ?_)) <;> ((try simp only [Bool.not_eq_true', Bool.not_eq_false'] at h); (try simp only [h]); (try simp only [decide_eq_true_eq, decide_eq_false_iff_not, bne_iff_ne, bne_eq_false_iff_eq, beq_iff_eq, beq_eq_false_iff_ne, ne_eq, Int.not_lt, Int.not_le, Bool.and_eq_true, Bool.and_eq_false_iff, Bool.or_eq_true, Bool.or_eq_false_iff] at h))))
  refine go_loop (fun (j : Nat) => ⟨[(1, .ref 0 0), (3, .sl 1 0 j 8), (7, .d (di (prodM l))), (8, .d (di j))], [some (.var [ints l]), some (.dat 8 (digs (digsM l ((allW l).take j))))]⟩) (fun j => j ≤ (prodM l).toNat) (fun j => (prodM l).toNat - j) 0 ?_ ?_ ?_
  · (simp -implicitDefEqProofs (maxSteps := 1000000) (disch := (first | omega | (simp only [go_sem] <;> omega) | fail)) only [go_sem, ints, bools, mat] <;> rfl)
  · simp
  · rintro j hj J hJ
    have hal := allW_len l
    have hlen2 : (digsM l ((allW l).take j)).length = j := by rw [digsM_len, List.length_take, hal]; omega
    have hlen3 : (digsM l (allW l)).length = (prodM l).toNat := by rw [digsM_len, hal]
    repeat' (first | simp -implicitDefEqProofs (maxSteps := 1000000) (disch := (first | omega | (simp only [go_sem] <;> omega) | fail)) only [go_sem, ints, bools, mat] | ((first | refine goIf_b (fun h => ?_) (fun h => ?_) | refine goG_b (fun h => ?_) (fun h => ?_) | refine goTG_b (fun h => ?_) (fun h => ?_) | refine goOG_b (fun h => ?_) (fun h => ?_)) <;> ((try simp only [Bool.not_eq_true', Bool.not_eq_false'] at h); (try simp only [h]); (try simp only [decide_eq_true_eq, decide_eq_false_iff_not, bne_iff_ne, bne_eq_false_iff_eq, beq_iff_eq, beq_eq_false_iff_ne, ne_eq, Int.not_lt, Int.not_le, Bool.and_eq_true, Bool.and_eq_false_iff, Bool.or_eq_true, Bool.or_eq_false_iff] at h))))
    · first | refine goC_call [.r, .r] (d_impl_digitsOf l hs j (by omega) (by omega)) ?_ | refine goOC_call [.r, .r] (d_impl_digitsOf l hs j (by omega) (by omega)) ?_
      repeat' (first | simp -implicitDefEqProofs (maxSteps := 1000000) (disch := (first | omega | (simp only [go_sem] <;> omega) | fail)) only [go_sem, ints, bools, mat] | ((first | refine goIf_b (fun h => ?_) (fun h => ?_) | refine goG_b (fun h => ?_) (fun h => ?_) | refine goTG_b (fun h => ?_) (fun h => ?_) | refine goOG_b (fun h => ?_) (fun h => ?_)) <;> ((try simp only [Bool.not_eq_true', Bool.not_eq_false'] at h); (try simp only [h]); (try simp only [decide_eq_true_eq, decide_eq_false_iff_not, bne_iff_ne, bne_eq_false_iff_eq, beq_iff_eq, beq_eq_false_iff_ne, ne_eq, Int.not_lt, Int.not_le, Bool.and_eq_true, Bool.and_eq_false_iff, Bool.or_eq_true, Bool.or_eq_false_iff] at h))))
      refine hJ (j + 1) (by omega) (by omega) _ ?_
      simp -implicitDefEqProofs (maxSteps := 1000000) (disch := (first | omega | (simp only [go_sem] <;> omega) | fail)) only [go_sem, ints, bools, mat]
      rw [digsM_step _ _ (by rw [hal]; omega), allW_get l (by omega)]; rfl
abbrev lstR (b : Int) (v : List Int) : R := if b = 0 then .tup [.own 1 (v.map di), .d (di 0)] else .tup [.d nil, .d (di b)]
theorem lstR_ok {b : Int} {v : List Int} (h : b = 0) : lstR b v = .tup [.own 1 (v.map di), .d (di 0)] := by simp [lstR, h]
theorem lstR_no {b : Int} {v : List Int} (h : ¬ b = 0) : lstR b v = .tup [.d nil, .d (di b)] := by simp [lstR, h]
/-- How often each number comes up. -/
def histS (o : List Int) (d : Int) : List Int := o.set d.toNat (o.getD d.toNat 0 + 1)
def hist (n : Nat) (ds : List Int) : List Int := ds.foldl histS (List.replicate n 0)
theorem foldl_hist_len (ds : List Int) : ∀ o : List Int, (ds.foldl histS o).length = o.length := by
  induction ds with
  | nil => intro o; rfl
  | cons d r ih => intro o; rw [List.foldl_cons, ih]; simp [histS]
@[go_sem] theorem hist_len (n : Nat) (ds : List Int) : (hist n ds).length = n := by rw [hist, foldl_hist_len]; simp
theorem farM_comm : ∀ (a b : List Int), farM a b = farM b a
  | [], [] => rfl
  | [], _ :: _ => rfl
  | _ :: _, [] => rfl
  | x :: a, y :: b => by
    simp only [farM, farM_comm a b]
    by_cases h : x = y
    · simp [h]
    · rw [if_neg h, if_neg (fun e => h e.symm)]
theorem distM_comm (l : List Int) (u w : Int) : distM l u w = distM l w u := farM_comm _ _
attribute [go_sem] Nat.sub_zero
/-- The lesser of two. -/
def mn2 (a b : Int) : Int := if b < a then b else a
@[go_sem] theorem mnA_mn2 (a b : Int) : mnA (.d (di a)) (.d (di b)) = some (.d (di (mn2 a b))) := rfl
/-- The greater of two. -/
def mx2 (a b : Int) : Int := if a < b then b else a
@[go_sem] theorem mxA_mx2 (a b : Int) : mxA (.d (di a)) (.d (di b)) = some (.d (di (mx2 a b))) := rfl
theorem chk_intro {c p : Prop} (h : c) (k : p) : chk c p := ⟨h, k⟩
theorem fnOK_mk {P : Program} {sto : Sto} {f : FuncId} {caps : List AV} {g : List D → Value → Prop} (h : okF P f) (boxes : List (List D)) (hb : caps.map (boxR sto) = boxes.map some) (hg : ∀ ds r, g ds r → ∃ rs', Den P f (ds.map .d ++ boxes.map .box) rs' (.d (.v r))) :
    FnOK P sto (.fn f caps) g := ⟨h, boxes, hb, hg⟩
/-- A function value that tells p of digits. -/
def fnD (n : Nat) (p : List Int → Bool) : List D → Value → Prop := fun ds r => ∃ a : List Int, a.length = n ∧ (∀ i, 0 ≤ a.getD i 0 ∧ a.getD i 0 < 4) ∧ ds = [D.agg ((pad8 a).map dy)] ∧ r = .bool (p a)
theorem digM_bnd : ∀ {l : List Int} (w : Int), szs l → ∀ i, 0 ≤ (digM l w).getD i 0 ∧ (digM l w).getD i 0 < 4
  | [], w, h, i => by simp [digM]
  | q :: r, w, h, 0 => by
    have h2 := h 0 (by simp)
    simp at h2
    have := mod_bnd (x := w / prodM r) h2
    simp [digM]; omega
  | q :: r, w, h, i + 1 => by simpa [digM] using digM_bnd w (szs_tail h) i
theorem fnD_mk {l : List Int} (hs : isSpaceM l = true) (p : List Int → Bool) (w : Int) : fnD l.length p [D.agg ((pad8 (digM l w)).map dy)] (.bool (p (digM l w))) := ⟨digM l w, digM_len l w, digM_bnd w (isSpaceM_szs hs), rfl, rfl⟩
def thoseM (l : List Int) (p : List Int → Bool) : List Int := (allW l).filter fun w => p (digM l w)
theorem filter_len_le {α : Type} (p : α → Bool) (l : List α) (n : Nat) (h : l.length ≤ n) : (l.filter p).length ≤ n := Nat.le_trans (List.length_filter_le p l) h
theorem d_impl_those (l : List Int) (hs : isSpaceM l = true) (p : List Int → Bool) (g : List D → Value → Prop) (hg : ∀ w, g [D.agg ((pad8 (digM l w)).map dy)] (.bool (p (digM l w)))) :
    Den PA f_impl_those [.d (.agg [ints l]), .pfn g] [.any, .any] (.own 1 ((thoseM l p).map di)) := by
  have hn := isSpaceM_n hs
  have hp := isSpaceM_prod hs
  have hp1 := prodM_pos (isSpaceM_szs hs)
  have hal := allW_len l
  refine den_go [] l_impl_those ?_
  repeat' (first | simp -implicitDefEqProofs (maxSteps := 1000000) (disch := (first | omega | (simp only [go_sem] <;> omega) | fail)) only [go_sem, ints, bools, mat, c_impl_those] | ((first | refine goIf_b (fun h => ?_) (fun h => ?_) | refine goG_b (fun h => ?_) (fun h => ?_) | refine goTG_b (fun h => ?_) (fun h => ?_) | refine goOG_b (fun h => ?_) (fun h => ?_)) <;> ((try simp only [Bool.not_eq_true', Bool.not_eq_false'] at h); (try simp only [h]); (try simp only [decide_eq_true_eq, decide_eq_false_iff_not, bne_iff_ne, bne_eq_false_iff_eq, beq_iff_eq, beq_eq_false_iff_ne, ne_eq, Int.not_lt, Int.not_le, Bool.and_eq_true, Bool.and_eq_false_iff, Bool.or_eq_true, Bool.or_eq_false_iff] at h))))
  first | refine goC_call [.r] (d_impl_allDigits l hs) ?_ | refine goOC_call [.r] (d_impl_allDigits l hs) ?_
  repeat' (first | simp -implicitDefEqProofs (maxSteps := 1000000) (disch := (first | omega | (simp only [go_sem] <;> omega) | fail)) only [go_sem, ints, bools, mat] | ((first | refine goIf_b (fun h => ?_) (fun h => ?_) | refine goG_b (fun h => ?_) (fun h => ?_) | refine goTG_b (fun h => ?_) (fun h => ?_) | refine goOG_b (fun h => ?_) (fun h => ?_)) <;> ((try simp only [Bool.not_eq_true', Bool.not_eq_false'] at h); (try simp only [h]); (try simp only [decide_eq_true_eq, decide_eq_false_iff_not, bne_iff_ne, bne_eq_false_iff_eq, beq_iff_eq, beq_eq_false_iff_ne, ne_eq, Int.not_lt, Int.not_le, Bool.and_eq_true, Bool.and_eq_false_iff, Bool.or_eq_true, Bool.or_eq_false_iff] at h))))
  refine go_loop (fun (j : Nat) => ⟨[(1, .pfn g), (5, .sl 0 0 (((allW l).take j).filter fun w => p (digM l w)).length 1), (10, .sl 1 0 (prodM l).toNat 8), (11, .d (di (prodM l).toNat)), (12, .d (di j))], [some (.dat 1 ((((allW l).take j).filter fun w => p (digM l w)).map di)), some (.dat 8 (digs (digsM l (allW l))))]⟩) (fun j => j ≤ (prodM l).toNat) (fun j => (prodM l).toNat - j) 0 ?_ ?_ ?_
  · (simp -implicitDefEqProofs (maxSteps := 1000000) (disch := (first | omega | (simp only [go_sem] <;> omega) | fail)) only [go_sem, ints, bools, mat] <;> rfl)
  · simp
  · rintro j hj J hJ
    have hgd := fun h => digsM_get l (allW l) (i := j) h
    have hw := fun h => allW_get l (i := j) h
    have hfl := filter_len_le (fun w => p (digM l w)) ((allW l).take j) j (by simp; omega)
    repeat' (first | simp -implicitDefEqProofs (maxSteps := 1000000) (disch := (first | omega | (simp only [go_sem] <;> omega) | fail)) only [go_sem, ints, bools, mat] | ((first | refine goIf_b (fun h => ?_) (fun h => ?_) | refine goG_b (fun h => ?_) (fun h => ?_) | refine goTG_b (fun h => ?_) (fun h => ?_) | refine goOG_b (fun h => ?_) (fun h => ?_)) <;> ((try simp only [Bool.not_eq_true', Bool.not_eq_false'] at h); (try simp only [h]); (try simp only [decide_eq_true_eq, decide_eq_false_iff_not, bne_iff_ne, bne_eq_false_iff_eq, beq_iff_eq, beq_eq_false_iff_ne, ne_eq, Int.not_lt, Int.not_le, Bool.and_eq_true, Bool.and_eq_false_iff, Bool.or_eq_true, Bool.or_eq_false_iff] at h))))
    · rw [hgd (by omega), hw (by omega)]
      refine goV_pfn [D.agg ((pad8 (digM l j)).map dy)] (.bool (p (digM l j))) (by simp -implicitDefEqProofs (maxSteps := 1000000) (disch := (first | omega | (simp only [go_sem] <;> omega) | fail)) only [go_sem, ints, bools, mat]) rfl (hg _) ?_
      repeat' (first | simp -implicitDefEqProofs (maxSteps := 1000000) (disch := (first | omega | (simp only [go_sem] <;> omega) | fail)) only [go_sem, ints, bools, mat] | ((first | refine goIf_b (fun h => ?_) (fun h => ?_) | refine goG_b (fun h => ?_) (fun h => ?_) | refine goTG_b (fun h => ?_) (fun h => ?_) | refine goOG_b (fun h => ?_) (fun h => ?_)) <;> ((try simp only [Bool.not_eq_true', Bool.not_eq_false'] at h); (try simp only [h]); (try simp only [decide_eq_true_eq, decide_eq_false_iff_not, bne_iff_ne, bne_eq_false_iff_eq, beq_iff_eq, beq_eq_false_iff_ne, ne_eq, Int.not_lt, Int.not_le, Bool.and_eq_true, Bool.and_eq_false_iff, Bool.or_eq_true, Bool.or_eq_false_iff] at h))))
      · refine hJ (j + 1) (by omega) (by omega) _ ?_
        simp -implicitDefEqProofs (maxSteps := 1000000) (disch := (first | omega | (simp only [go_sem] <;> omega) | fail)) only [go_sem, ints, bools, mat]
        rw [take_allW l (by omega), List.filter_append]; simp [h]
      · refine hJ (j + 1) (by omega) (by omega) _ ?_
        simp -implicitDefEqProofs (maxSteps := 1000000) (disch := (first | omega | (simp only [go_sem] <;> omega) | fail)) only [go_sem, ints, bools, mat]
        rw [take_allW l (by omega), List.filter_append]; simp [h]
    · have : j = (prodM l).toNat := by omega
      subst this
      repeat' (first | simp -implicitDefEqProofs (maxSteps := 1000000) (disch := (first | omega | (simp only [go_sem] <;> omega) | fail)) only [go_sem, ints, bools, mat] | ((first | refine goIf_b (fun h => ?_) (fun h => ?_) | refine goG_b (fun h => ?_) (fun h => ?_) | refine goTG_b (fun h => ?_) (fun h => ?_) | refine goOG_b (fun h => ?_) (fun h => ?_)) <;> ((try simp only [Bool.not_eq_true', Bool.not_eq_false'] at h); (try simp only [h]); (try simp only [decide_eq_true_eq, decide_eq_false_iff_not, bne_iff_ne, bne_eq_false_iff_eq, beq_iff_eq, beq_eq_false_iff_ne, ne_eq, Int.not_lt, Int.not_le, Bool.and_eq_true, Bool.and_eq_false_iff, Bool.or_eq_true, Bool.or_eq_false_iff] at h))))
      rfl
theorem d_spec_l04Code (l : List Int) (hl : l.length < 1048577) (d lo hi : Int) : Den PA f_spec_l04Code [.d (.agg [ints l]), .d (di d), .d (di lo), .d (di hi)] [.any, .any, .any, .any] (.d (di (if isSpaceM l then (if lo ≤ d ∧ d ≤ hi then 0 else 2) else 1))) := by
  refine den_go [] l_spec_l04Code ?_
  simp -implicitDefEqProofs (maxSteps := 1000000) (disch := (first | omega | (simp only [go_sem] <;> omega) | fail)) only [go_sem, ints, bools, mat, c_spec_l04Code]
  first | refine goC_call [.r] (d_spec_l01Is l hl) ?_ | refine goOC_call [.r] (d_spec_l01Is l hl) ?_
  repeat' (first | simp -implicitDefEqProofs (maxSteps := 1000000) (disch := (first | omega | (simp only [go_sem] <;> omega) | fail)) only [go_sem, ints, bools, mat] | ((first | refine goIf_b (fun h => ?_) (fun h => ?_) | refine goG_b (fun h => ?_) (fun h => ?_) | refine goTG_b (fun h => ?_) (fun h => ?_) | refine goOG_b (fun h => ?_) (fun h => ?_)) <;> ((try simp only [Bool.not_eq_true', Bool.not_eq_false'] at h); (try simp only [h]); (try simp only [decide_eq_true_eq, decide_eq_false_iff_not, bne_iff_ne, bne_eq_false_iff_eq, beq_iff_eq, beq_eq_false_iff_ne, ne_eq, Int.not_lt, Int.not_le, Bool.and_eq_true, Bool.and_eq_false_iff, Bool.or_eq_true, Bool.or_eq_false_iff] at h))))
  first | refine goC_call [.r, .r, .r] (d_spec_l01In d lo hi) ?_ | refine goOC_call [.r, .r, .r] (d_spec_l01In d lo hi) ?_
  repeat' (first | simp -implicitDefEqProofs (maxSteps := 1000000) (disch := (first | omega | (simp only [go_sem] <;> omega) | fail)) only [go_sem, ints, bools, mat] | ((first | refine goIf_b (fun h => ?_) (fun h => ?_) | refine goG_b (fun h => ?_) (fun h => ?_) | refine goTG_b (fun h => ?_) (fun h => ?_) | refine goOG_b (fun h => ?_) (fun h => ?_)) <;> ((try simp only [Bool.not_eq_true', Bool.not_eq_false'] at h); (try simp only [h]); (try simp only [decide_eq_true_eq, decide_eq_false_iff_not, bne_iff_ne, bne_eq_false_iff_eq, beq_iff_eq, beq_eq_false_iff_ne, ne_eq, Int.not_lt, Int.not_le, Bool.and_eq_true, Bool.and_eq_false_iff, Bool.or_eq_true, Bool.or_eq_false_iff] at h))))
  · rw [if_pos (by omega)]
  · rw [if_neg (by omega)]
def or2 (x d : Int) : Int := ((x.toNat ||| (2 ^ d.toNat : Int).toNat : Nat) : Int)
def orN (t a : List Int) : Nat → List Int
  | 0 => t
  | j + 1 => (orN t a j).set j (or2 ((orN t a j).getD j 0) (a.getD j 0))
@[go_sem] theorem orN_len (t a : List Int) : ∀ j, (orN t a j).length = t.length
  | 0 => rfl
  | j + 1 => by rw [orN, List.length_set, orN_len t a j]
def lsN (l c : List Int) : Nat → List Int
  | 0 => List.replicate l.length 0
  | j + 1 => orN (lsN l c j) (digM l (c.getD j 0)) l.length
@[go_sem] theorem lsN_len (l c : List Int) : ∀ j, (lsN l c j).length = l.length
  | 0 => by simp [lsN]
  | j + 1 => by rw [lsN, orN_len, lsN_len l c j]
/-- How many of the first words of a code are within r of a word. -/
def cntN (l c : List Int) (r u : Int) : Nat → Int
  | 0 => 0
  | j + 1 => cntN l c r u j + (if distM l (c.getD j 0) u ≤ r then 1 else 0)
def mixT (l c : List Int) (r : Int) (j k : Nat) : List Int := (List.range (prodM l).toNat).map fun (i : Nat) => cntN l c r i (if i < k then j + 1 else j)
@[go_sem] theorem mixT_len (l c : List Int) (r : Int) (j k : Nat) : (mixT l c r j k).length = (prodM l).toNat := by simp [mixT]
def timesN (l c : List Int) (r : Int) (j : Nat) : List Int := mixT l c r j 0
@[go_sem] theorem timesN_len (l c : List Int) (r : Int) (j : Nat) : (timesN l c r j).length = (prodM l).toNat := mixT_len _ _ _ _ _
def ballM (l : List Int) (w r : Int) : List Int := (allW l).filter fun u => decide (distM l u w ≤ r)
theorem d_spec_l01Ball (l : List Int) (hs : isSpaceM l = true) (w r : Int) (hw : 0 ≤ w) (hw2 : w < 1000000000000) : Den PA f_spec_l01Ball [.d (.agg [ints l]), .d (di w), .d (di r)] [.any, .any, .any] (.own 1 ((ballM l w r).map di)) := by
  have hn := isSpaceM_n hs
  have hp := isSpaceM_prod hs
  have hp1 := prodM_pos (isSpaceM_szs hs)
  have hal := allW_len l
  refine den_go [] l_spec_l01Ball ?_
  repeat' (first | simp -implicitDefEqProofs (maxSteps := 1000000) (disch := (first | omega | (simp only [go_sem] <;> omega) | fail)) only [go_sem, ints, bools, mat, c_spec_l01Ball] | ((first | refine goIf_b (fun h => ?_) (fun h => ?_) | refine goG_b (fun h => ?_) (fun h => ?_) | refine goTG_b (fun h => ?_) (fun h => ?_) | refine goOG_b (fun h => ?_) (fun h => ?_)) <;> ((try simp only [Bool.not_eq_true', Bool.not_eq_false'] at h); (try simp only [h]); (try simp only [decide_eq_true_eq, decide_eq_false_iff_not, bne_iff_ne, bne_eq_false_iff_eq, beq_iff_eq, beq_eq_false_iff_ne, ne_eq, Int.not_lt, Int.not_le, Bool.and_eq_true, Bool.and_eq_false_iff, Bool.or_eq_true, Bool.or_eq_false_iff] at h))))
  refine go_loop (fun (j : Nat) => ⟨[(1, .d (di w)), (2, .d (di r)), (3, .ref 0 0), (7, .sl 1 0 (((allW l).take j).filter fun u => decide (distM l u w ≤ r)).length 1), (8, .d (di j))], [some (.var [ints l]), some (.dat 1 ((((allW l).take j).filter fun u => decide (distM l u w ≤ r)).map di))]⟩) (fun j => j ≤ (prodM l).toNat) (fun j => (prodM l).toNat - j) 0 ?_ ?_ ?_
  · (simp -implicitDefEqProofs (maxSteps := 1000000) (disch := (first | omega | (simp only [go_sem] <;> omega) | fail)) only [go_sem, ints, bools, mat] <;> rfl)
  · simp
  · rintro j hj J hJ
    have hfl := filter_len_le (fun u => decide (distM l u w ≤ r)) ((allW l).take j) j (by simp; omega)
    repeat' (first | simp -implicitDefEqProofs (maxSteps := 1000000) (disch := (first | omega | (simp only [go_sem] <;> omega) | fail)) only [go_sem, ints, bools, mat] | ((first | refine goIf_b (fun h => ?_) (fun h => ?_) | refine goG_b (fun h => ?_) (fun h => ?_) | refine goTG_b (fun h => ?_) (fun h => ?_) | refine goOG_b (fun h => ?_) (fun h => ?_)) <;> ((try simp only [Bool.not_eq_true', Bool.not_eq_false'] at h); (try simp only [h]); (try simp only [decide_eq_true_eq, decide_eq_false_iff_not, bne_iff_ne, bne_eq_false_iff_eq, beq_iff_eq, beq_eq_false_iff_ne, ne_eq, Int.not_lt, Int.not_le, Bool.and_eq_true, Bool.and_eq_false_iff, Bool.or_eq_true, Bool.or_eq_false_iff] at h))))
    first | refine goC_call [.r] (d_spec_l01N l (by omega) (isSpaceM_q hs)) ?_ | refine goOC_call [.r] (d_spec_l01N l (by omega) (isSpaceM_q hs)) ?_
    repeat' (first | simp -implicitDefEqProofs (maxSteps := 1000000) (disch := (first | omega | (simp only [go_sem] <;> omega) | fail)) only [go_sem, ints, bools, mat] | ((first | refine goIf_b (fun h => ?_) (fun h => ?_) | refine goG_b (fun h => ?_) (fun h => ?_) | refine goTG_b (fun h => ?_) (fun h => ?_) | refine goOG_b (fun h => ?_) (fun h => ?_)) <;> ((try simp only [Bool.not_eq_true', Bool.not_eq_false'] at h); (try simp only [h]); (try simp only [decide_eq_true_eq, decide_eq_false_iff_not, bne_iff_ne, bne_eq_false_iff_eq, beq_iff_eq, beq_eq_false_iff_ne, ne_eq, Int.not_lt, Int.not_le, Bool.and_eq_true, Bool.and_eq_false_iff, Bool.or_eq_true, Bool.or_eq_false_iff] at h))))
    · first | refine goC_call [.r, .r, .r] (d_spec_l01Distance l hs j w (by omega) (by omega) hw hw2) ?_ | refine goOC_call [.r, .r, .r] (d_spec_l01Distance l hs j w (by omega) (by omega) hw hw2) ?_
      repeat' (first | simp -implicitDefEqProofs (maxSteps := 1000000) (disch := (first | omega | (simp only [go_sem] <;> omega) | fail)) only [go_sem, ints, bools, mat] | ((first | refine goIf_b (fun h => ?_) (fun h => ?_) | refine goG_b (fun h => ?_) (fun h => ?_) | refine goTG_b (fun h => ?_) (fun h => ?_) | refine goOG_b (fun h => ?_) (fun h => ?_)) <;> ((try simp only [Bool.not_eq_true', Bool.not_eq_false'] at h); (try simp only [h]); (try simp only [decide_eq_true_eq, decide_eq_false_iff_not, bne_iff_ne, bne_eq_false_iff_eq, beq_iff_eq, beq_eq_false_iff_ne, ne_eq, Int.not_lt, Int.not_le, Bool.and_eq_true, Bool.and_eq_false_iff, Bool.or_eq_true, Bool.or_eq_false_iff] at h))))
      · refine hJ (j + 1) (by omega) (by omega) _ ?_
        simp -implicitDefEqProofs (maxSteps := 1000000) (disch := (first | omega | (simp only [go_sem] <;> omega) | fail)) only [go_sem, ints, bools, mat]
        rw [take_allW l (by omega), List.filter_append]; simp [h]
      · refine hJ (j + 1) (by omega) (by omega) _ ?_
        simp -implicitDefEqProofs (maxSteps := 1000000) (disch := (first | omega | (simp only [go_sem] <;> omega) | fail)) only [go_sem, ints, bools, mat]
        rw [take_allW l (by omega), List.filter_append]; simp [show ¬ distM l j w ≤ r by omega]
    · have : j = (prodM l).toNat := by omega
      subst this
      repeat' (first | simp -implicitDefEqProofs (maxSteps := 1000000) (disch := (first | omega | (simp only [go_sem] <;> omega) | fail)) only [go_sem, ints, bools, mat] | ((first | refine goIf_b (fun h => ?_) (fun h => ?_) | refine goG_b (fun h => ?_) (fun h => ?_) | refine goTG_b (fun h => ?_) (fun h => ?_) | refine goOG_b (fun h => ?_) (fun h => ?_)) <;> ((try simp only [Bool.not_eq_true', Bool.not_eq_false'] at h); (try simp only [h]); (try simp only [decide_eq_true_eq, decide_eq_false_iff_not, bne_iff_ne, bne_eq_false_iff_eq, beq_iff_eq, beq_eq_false_iff_ne, ne_eq, Int.not_lt, Int.not_le, Bool.and_eq_true, Bool.and_eq_false_iff, Bool.or_eq_true, Bool.or_eq_false_iff] at h))))
      rfl
theorem allW_nodup (l : List Int) : (allW l).Nodup := by
  unfold allW
  refine List.Pairwise.map _ ?_ (List.nodup_range (n := (prodM l).toNat))
  intro a b h e
  exact h (by omega)
theorem allW_mem (l : List Int) (u : Int) : u ∈ allW l ↔ 0 ≤ u ∧ u < (prodM l).toNat := by
  unfold allW
  rw [List.mem_map]
  constructor
  · rintro ⟨i, hi, rfl⟩; have := List.mem_range.1 hi; omega
  · rintro ⟨h1, h2⟩; exact ⟨u.toNat, List.mem_range.2 (by omega), by omega⟩
theorem ballM_nodup (l : List Int) (w r : Int) : (ballM l w r).Nodup := (allW_nodup l).filter _
theorem ballM_mem (l : List Int) (w r u : Int) : u ∈ ballM l w r ↔ (0 ≤ u ∧ u < (prodM l).toNat) ∧ distM l u w ≤ r := by
  unfold ballM; rw [List.mem_filter, allW_mem]; simp
attribute [go_sem] isnA List.drop_length
def and2 (x y : Int) : Int := ((x.toNat &&& y.toNat : Nat) : Int)
def andM (t u : List Int) : List Int := (List.range t.length).map fun (i : Nat) => and2 (t.getD i 0) (u.getD i 0)
@[go_sem] theorem andM_len (t u : List Int) : (andM t u).length = t.length := by simp [andM]
/-- A sum of products. -/
def sN (a b : List Int) : Nat → Int
  | 0 => 0
  | j + 1 => sN a b j + a.getD j 0 * b.getD j 0
def synM (l c : List Int) (w : Int) : List Int := c.map fun u => sN (digM l w) (digM l u) l.length % l.getD 0 0
@[go_sem] theorem synM_len (l c : List Int) (w : Int) : (synM l c w).length = c.length := by simp [synM]
def sumM (l a b : List Int) : List Int := (List.range l.length).map fun (i : Nat) => (a.getD i 0 + b.getD i 0) % l.getD i 0
@[go_sem] theorem sumM_len (l a b : List Int) : (sumM l a b).length = l.length := by simp [sumM]
def wordN (l d : List Int) : Nat → Int
  | 0 => 0
  | j + 1 => wordN l d j * l.getD j 0 + d.getD j 0
/-- The sum of two words. -/
def sumW (l : List Int) (u w : Int) : Int := wordN l (sumM l (digM l u) (digM l w)) l.length
def setN (N : Nat) (c : List Int) : Nat → List Bool
  | 0 => List.replicate N false
  | j + 1 => (setN N c j).set (c.getD j 0).toNat true
@[go_sem] theorem setN_len (N : Nat) (c : List Int) : ∀ j, (setN N c j).length = N
  | 0 => by simp [setN]
  | j + 1 => by rw [setN, List.length_set, setN_len N c j]
/-- How many of the first words of a code are within M of b, and the last of these. -/
def cntB (l c : List Int) (M b : Int) : Nat → Nat
  | 0 => 0
  | j + 1 => if distM l b (c.getD j 0) ≤ M then cntB l c M b j + 1 else cntB l c M b j
def lastB (l c : List Int) (M b : Int) : Nat → Nat
  | 0 => 0
  | j + 1 => if distM l b (c.getD j 0) ≤ M then j else lastB l c M b j
def needN (l c : List Int) (M : Int) (B : List Int) : Nat → List Bool
  | 0 => List.replicate c.length false
  | j + 1 => if cntB l c M (B.getD j 0) c.length = 1 then (needN l c M B j).set (lastB l c M (B.getD j 0) c.length) true else needN l c M B j
@[go_sem] theorem needN_len (l c : List Int) (M : Int) (B : List Int) : ∀ j, (needN l c M B j).length = c.length
  | 0 => by simp [needN]
  | j + 1 => by rw [needN]; split <;> simp [needN_len l c M B j]
@[go_sem] theorem toNat_succ (j : Nat) : ((j : Int) + 1).toNat = j + 1 := by omega
@[go_sem] theorem all_lf_digs (ds : List (List Int)) : (digs ds).all lfD = true := by
  rw [List.all_eq_true]; intro x hx
  obtain ⟨d, _, rfl⟩ := List.mem_map.1 hx
  rw [lfD, lfDs_all, List.all_eq_true]; intro y hy
  obtain ⟨i, _, rfl⟩ := List.mem_map.1 hy
  rfl
theorem d_spec_l01Own (t : List Int) (h : t.length < 1048577) : Den PA f_spec_l01Own [.d (ints t)] [.any] (.own 1 (t.map di)) := by
  refine den_go [] l_spec_l01Own ?_
  repeat' (first | simp -implicitDefEqProofs (maxSteps := 1000000) (disch := (first | omega | (simp only [go_sem] <;> omega) | fail)) only [go_sem, ints, bools, mat, c_spec_l01Own] | ((first | refine goIf_b (fun h => ?_) (fun h => ?_) | refine goG_b (fun h => ?_) (fun h => ?_) | refine goTG_b (fun h => ?_) (fun h => ?_) | refine goOG_b (fun h => ?_) (fun h => ?_)) <;> ((try simp only [Bool.not_eq_true', Bool.not_eq_false'] at h); (try simp only [h]); (try simp only [decide_eq_true_eq, decide_eq_false_iff_not, bne_iff_ne, bne_eq_false_iff_eq, beq_iff_eq, beq_eq_false_iff_ne, ne_eq, Int.not_lt, Int.not_le, Bool.and_eq_true, Bool.and_eq_false_iff, Bool.or_eq_true, Bool.or_eq_false_iff] at h))))
@[go_sem] theorem toNat_pred {j : Nat} : ((j : Int) - 1).toNat = j - 1 := by omega
abbrev sortI (l : List Int) : List Int := l.mergeSort (fun x y => decide (x ≤ y))
@[go_sem] theorem sortI_len (l : List Int) : (sortI l).length = l.length := List.length_mergeSort l
theorem digM_get : ∀ (l : List Int) (w : Int) (i : Nat), i < l.length → (digM l w).getD i 0 = (w / prodM (l.drop (i + 1))) % l.getD i 0
  | q :: r, w, 0, _ => by simp [digM]
  | q :: r, w, i + 1, h => by
    have := digM_get r w i (by simpa using h)
    simpa [digM] using this
theorem dig_lt {l : List Int} (hz : szs l) (w : Int) {i : Nat} (h : i < l.length) : 0 ≤ (digM l w).getD i 0 ∧ (digM l w).getD i 0 < l.getD i 0 := by
  rw [digM_get l w i h]
  have := mod_bnd (x := w / prodM (l.drop (i + 1))) (hz i h)
  omega
/-- i is the place of the first digit other than 0. -/
def fdB (d : List Int) (i : Nat) : Bool := (d.getD i 0 != 0) && (List.range i).all fun j => d.getD j 0 == 0
/-- i is the first place of one of the first j words. -/
def pvB (l c : List Int) (j i : Nat) : Bool := (List.range j).any fun k => fdB (digM l (c.getD k 0)) i
@[go_sem] theorem flat_dy (l : List Int) : flat (l.map dy) = l.map dy := flat_one _ l
@[go_sem] theorem all_one_dy (l : List Int) : (l.map dy).all isOne = true := by rw [List.all_map]; simp [isOne]
attribute [go_sem] slaM
/-- The first places of the first j words, as a row of n marks. -/
def firN (l c : List Int) (n j : Nat) : List Bool := (List.range n).map fun i => pvB l c j i
@[go_sem] theorem firN_len (l c : List Int) (n j : Nat) : (firN l c n j).length = n := by simp [firN]
@[go_sem] theorem getB2 {l : List Bool} {j : Nat} (h : j < l.length) : (l.map db)[j]? = some (db (l.getD j false)) := by simp [h]
@[go_sem] theorem mask32 {x : Int} (h : 0 ≤ x) (h' : x < 4294967296) : binA .and (.d (.v (.int .u64 x))) (.d (.v (.int .u64 4294967295))) = some (.d (.v (.int .u64 x))) := by
  have e : (BitVec.ofInt 64 x &&& BitVec.ofInt 64 4294967295).toNat = x.toNat := by
    rw [BitVec.toNat_and, ofInt_nat h (by omega), ofInt_nat (by omega) (by omega)]
    have := Nat.and_two_pow_sub_one_eq_mod x.toNat 32
    rw [show (4294967295 : Int).toNat = 2 ^ 32 - 1 from rfl, this]
    exact Nat.mod_eq_of_lt (by omega)
  have e2 : binI .and .u64 x 4294967295 = some (.int .u64 (IntKind.wrap .u64 ((BitVec.ofInt 64 x &&& BitVec.ofInt 64 4294967295).toNat : Nat))) := rfl
  simp only [binA, e2, BinOp.isShift, or_true, if_true, e, Option.map_some]
  rw [wrap_u64 (by omega) (by omega), Int.toNat_of_nonneg h]
@[go_sem] theorem shr32 {x : Int} (h : 0 ≤ x) (h' : x < 4294967296) : binA .shr (.d (.v (.int .u64 x))) (.d (.v (.int .u64 32))) = some (.d (.v (.int .u64 0))) := by
  have e : min (32 : Int).toNat 64 = 32 := rfl
  have h1 : (0 : Int) ≤ 2 ^ 32 := by decide
  simp only [binA, binI, BinOp.isShift, true_or, if_true, if_neg (show ¬ (32 : Int) < 0 by omega), IntKind.bits, e, Option.map_some, Int.fdiv_eq_ediv_of_nonneg _ h1]
  rw [Int.ediv_eq_zero_of_lt h (by exact h')]
@[go_sem] theorem cast_one1 : ((1 : Nat) : Int) = 1 := rfl
def vecs : List Int → List (List Int)
  | [] => [[]]
  | q :: r => (List.range q.toNat).flatMap fun (d : Nat) => (vecs r).map fun v => (d : Int) :: v
theorem range_mul (b : Nat) : ∀ a : Nat, List.range (a * b) = (List.range a).flatMap fun i => (List.range b).map fun j => i * b + j
  | 0 => by simp
  | a + 1 => by
    rw [Nat.add_mul, Nat.one_mul, List.range_add, range_mul b a, List.range_succ, List.flatMap_append]
    simp
theorem digM_per : ∀ {r : List Int}, szs r → ∀ (w d : Int), digM r (w + d * prodM r) = digM r w
  | [], _, _, _ => rfl
  | q :: r, h, w, d => by
    have hp := prodM_pos (szs_tail h)
    rw [digM, digM, prodM_cons, ← Int.mul_assoc, digM_per (szs_tail h), Int.add_mul_ediv_right _ _ (by omega), Int.add_mul_emod_self_right]
theorem vecs_ok : ∀ {l : List Int}, szs l → (allW l).map (digM l) = vecs l
  | [], _ => by simp [allW, prodM_nil, vecs, digM, List.range_succ]
  | q :: r, h => by
    have hp := prodM_pos (szs_tail h)
    have hq := h 0 (by simp)
    simp at hq
    have ih := vecs_ok (szs_tail h)
    rw [vecs, ← ih]
    have e : (prodM (q :: r)).toNat = q.toNat * (prodM r).toNat := by rw [prodM_cons, Int.toNat_mul (by omega) (by omega)]
    have fc : ∀ (L : List Nat) (f g : Nat → List (List Int)), (∀ a, a ∈ L → f a = g a) → L.flatMap f = L.flatMap g := fun L f g hh => by
      induction L with
      | nil => rfl
      | cons x L ih => rw [List.flatMap_cons, List.flatMap_cons, hh x List.mem_cons_self, ih fun a ha => hh a (List.mem_cons_of_mem _ ha)]
    rw [allW, e, range_mul, List.map_flatMap, List.map_flatMap]
    refine fc _ _ _ fun d hd => ?_
    have hd := List.mem_range.1 hd
    rw [allW, List.map_map, List.map_map, List.map_map, List.map_map]
    refine List.map_congr_left fun j hj => ?_
    have hj := List.mem_range.1 hj
    simp only [Function.comp]
    have e2 : ((d * (prodM r).toNat + j : Nat) : Int) = (j : Int) + (d : Int) * prodM r := by
      rw [Int.natCast_add, Int.natCast_mul, Int.toNat_of_nonneg (by omega)]; omega
    rw [e2, digM, digM_per (szs_tail h), Int.add_mul_ediv_right _ _ (by omega), Int.ediv_eq_zero_of_lt (by omega) (by omega), Int.zero_add, Int.emod_eq_of_lt (by omega) (by omega)]
/-- .. with k one less; none at k = 0. -/
def dn (f : Nat → Int) (k : Nat) : Int := if k = 0 then 0 else f (k - 1)
/-- A row of coefficients times (1 + b x). -/
def mulB (b : Int) (f : Nat → Int) (k : Nat) : Int := f k + b * dn f k
/-- A list told by a function. -/
def FL (n : Nat) (f : Nat → Int) : List Int := (List.range (n + 1)).map f
@[go_sem] theorem FL_len (n : Nat) (f : Nat → Int) : (FL n f).length = n + 1 := by simp [FL]
theorem mulB_comm (a b : Int) (f : Nat → Int) : mulB a (mulB b f) = mulB b (mulB a f) := by
  funext k
  simp only [mulB, dn]
  split
  · omega
  · split
    · simp only [Int.mul_zero, Int.add_zero]; omega
    · simp only [Int.mul_add]
      rw [Int.mul_left_comm]; omega
@[go_sem] theorem tn1 (f r : Nat) : ((f : Int) + (2 * (r : Int) + 1)).toNat = f + (2 * r + 1) := by omega
@[go_sem] theorem tn2 (f r : Nat) : ((f : Int) + (2 * (r : Int) + 1) + 1).toNat = f + (2 * r + 2) := by omega
@[go_sem] theorem tn3 (f r : Nat) : ((f : Int) + (2 * (r : Int) + 1 + 1)).toNat = f + (2 * r + 2) := by omega
@[go_sem] theorem tn4 (f r : Nat) : ((f : Int) + (r : Int)).toNat = f + r := by omega
def cpN (l : List Int) : Nat → List Int
  | 0 => []
  | m + 1 => if m = 0 ∨ l.getD m 0 ≠ l.getD (m - 1) 0 then cpN l m ++ [l.getD m 0] else cpN l m
abbrev cpM (l : List Int) : List Int := cpN l l.length
abbrev Asc (l : List Int) : Prop := l.Pairwise (· < ·)
/-- The set of the numbers of a list. -/
abbrev setI (l : List Int) : List Int := cpM (sortI l)
@[go_sem] theorem setI_len_le (l : List Int) : (sortI l).length = l.length := List.length_mergeSort l
/-- All are words. -/
abbrev inC (l c : List Int) : Prop := ∀ u, u ∈ c → 0 ≤ u ∧ u < prodM l
theorem inC_get {l c : List Int} (h : inC l c) : ∀ j, j < c.length → 0 ≤ c.getD j 0 ∧ c.getD j 0 < prodM l := fun j hj => h _ (mem_getD hj)
/-- A shifted code. -/
abbrev shM (l c : List Int) (w : Int) : List Int := setI (c.map fun u => sumW l u w)
/-- The opposite of a word. -/
def oppD (l a : List Int) : List Int := (List.range l.length).map fun (i : Nat) => (l.getD i 0 - a.getD i 0) % l.getD i 0
@[go_sem] theorem oppD_len (l a : List Int) : (oppD l a).length = l.length := by simp [oppD]
theorem allW_asc (l : List Int) : Asc (allW l) := by
  unfold allW
  exact List.Pairwise.map _ (fun a b h => by omega) List.pairwise_lt_range
@[go_sem] theorem binA_shru1 {a : Int} (h : 0 ≤ a) (h' : a < 18446744073709551616) : binA .shr (.d (.v (.int .u64 a))) (.d (.v (.int .u64 1))) = some (.d (.v (.int .u64 (a / 2)))) := by
  have e : min (1 : Int).toNat 64 = 1 := rfl
  have h1 : (0 : Int) ≤ 2 ^ 1 := by decide
  simp only [binA, binI, BinOp.isShift, true_or, if_true, if_neg (show ¬ (1 : Int) < 0 by omega), IntKind.bits, e, Option.map_some, Int.fdiv_eq_ediv_of_nonneg _ h1]
  rfl
@[go_sem] theorem capA_nil : capA (.d nil) = some (.d (di 0)) := rfl
@[go_sem] theorem capA_nil' : capA (.d (.v (.slice none 0 0))) = some (.d (di 0)) := rfl
/-- The weight of a word. -/
abbrev wtM (l : List Int) (x : Int) : Int := distM l 0 x
/-- The best of the first words of a list. -/
def bstN (l L : List Int) : Nat → Int
  | 0 => L.getD 0 0
  | k + 1 => if wtM l (L.getD k 0) < wtM l (bstN l L k) then L.getD k 0 else bstN l L k
/-- The leader of the class of a word. -/
def ldW (l c : List Int) (w : Int) : Int := bstN l (shM l c w) (shM l c w).length
def kltB (l : List Int) (t w : Int) (x : Int) : Bool := decide (wtM l x < t ∨ (wtM l x = t ∧ x < w))
def ldL (l c : List Int) (t w : Int) : List Int := (allW l).map fun u => if kltB l t w (ldW l c u) then ldW l c u else -1
@[go_sem] theorem ldL_len (l c : List Int) (t w : Int) : (ldL l c t w).length = (prodM l).toNat := by simp [ldL, allW_len]
/-- Places of a list set to v. -/
def stN (X L : List Int) (v : Int) : Nat → List Int
  | 0 => X
  | k + 1 => (stN X L v k).set (L.getD k 0).toNat v
@[go_sem] theorem stN_len (X L : List Int) (v : Int) : ∀ k, (stN X L v k).length = X.length
  | 0 => rfl
  | k + 1 => by rw [stN, List.length_set, stN_len X L v k]
def atO (L : List Int) : Option Nat → Option Int
  | none => none
  | some i => some (L.getD i 0)
theorem find_idx {L : List Int} {p : Int → Bool} : L.find? p = atO L (L.findIdx? p) := by
  cases h : L.findIdx? p with
  | none =>
    rw [List.findIdx?_eq_none_iff] at h
    show L.find? p = none
    rw [List.find?_eq_none]; intro x hx; rw [h x hx]; simp
  | some i =>
    obtain ⟨hi, h1, h2⟩ := List.findIdx?_eq_some_iff_getElem.1 h
    have e : L.getD i 0 = L[i] := by simp [hi]
    show L.find? p = some (L.getD i 0)
    rw [List.find?_eq_some_iff_getElem, e]
    exact ⟨h1, i, hi, rfl, fun j hj => by simpa using h2 j hj⟩
/-- Digits with the one at i turned. -/
def swD (d : List Int) (i : Nat) : List Int := d.set i (1 - d.getD i 0)
@[go_sem] theorem swD_len (d : List Int) (i : Nat) : (swD d i).length = d.length := by simp [swD]
def nxR (l : List Int) (j : Nat) : List (List Int) := (List.range j).map fun (d : Nat) => l ++ [(d : Int)]
@[go_sem] theorem nxR_len (l : List Int) (j : Nat) : (nxR l j).length = j := by simp [nxR]
def nxT (q : Nat) (ls : List (List Int)) (i : Nat) : List (List Int) := (ls.take i).flatMap fun l => nxR l q
def rowsN (q : Nat) : Nat → List (List Int)
  | 0 => [[]]
  | k + 1 => nxT q (rowsN q k) (rowsN q k).length
def badR (l : List Int) : Bool := match l.findIdx? fun d => d != 0 with | some j => l.getD j 0 != 1 | none => true
def colN (q m : Nat) : List (List Int) := (rowsN q m).filter fun x => !badR x
/-- The Hamming code's space, words. -/
def hamL (q m : Nat) : List Int := List.replicate (colN q m).length (q : Int)
@[go_sem] theorem hamL_len (q m : Nat) : (hamL q m).length = (colN q m).length := by simp [hamL]
abbrev sn (l : List Int) : D := .v (.string (strOfNums l))
@[go_sem] theorem str_46 : (ByteArray.mk #[46]) = strOfNums [46] := rfl
@[go_sem] theorem str_nil : (ByteArray.mk #[]) = strOfNums [] := rfl
@[go_sem] theorem str_45 : (ByteArray.mk #[45]) = strOfNums [45] := rfl
theorem str_app (a b : List Int) : strOfNums a ++ strOfNums b = strOfNums (a ++ b) := by
  apply ByteArray.ext
  simp [strOfNums]
@[go_sem] theorem eqsA_addN {a b : List Int} (h : a.length + b.length < 1048577) : eqsA .add (.d (.v (.string (strOfNums a)))) (.d (.v (.string (strOfNums b)))) = some (.d (.v (.string (strOfNums (a ++ b))))) := by
  have h2 : (strOfNums a).size + (strOfNums b).size ≤ maxLen := by
    rw [strOfNums_size, strOfNums_size]; exact Nat.le_trans (Nat.le_of_lt h) (by decide)
  simp only [eqsA]
  rw [if_pos h2, str_app]
@[go_sem] theorem eqsA_neq_self {s : ByteArray} : eqsA .neq (.d (.v (.string s))) (.d (.v (.string s))) = some (.d (.v (.bool false))) := by simp [eqsA]
@[go_sem] theorem lnsA_n {l : List Int} : lnsA (.d (.v (.string (strOfNums l)))) = some (.d (.v (.int .i64 l.length))) := by simp [lnsA, strOfNums_size]
theorem str_ext (l : List Int) (a b : Nat) : (strOfNums l).extract a b = strOfNums ((l.take b).drop a) := by
  apply ByteArray.ext
  simp [strOfNums, ByteArray.data_extract, List.map_drop, List.map_take, List.drop_take]
@[go_sem] theorem sltA_n {tm : List (Nat × AV)} {l : List Int} {lo hi : Option Opd} : sltA tm (.d (.v (.string (strOfNums l)))) lo hi = (bndA tm l.length lo hi).map fun p => .d (.v (.string (strOfNums ((l.take p.2).drop p.1)))) := by
  simp only [sltA, strOfNums_size, str_ext]
theorem BY.take {l : List Int} (h : BY l) (n : Nat) : BY (l.take n) := fun x hx => h x (List.mem_of_mem_take hx)
theorem BY.drop {l : List Int} (h : BY l) (n : Nat) : BY (l.drop n) := fun x hx => h x (List.mem_of_mem_drop hx)
def spL : List Int → List (List Int)
  | [] => [[]]
  | x :: r => if x = 46 then [] :: spL r else match spL r with
    | p :: ps => (x :: p) :: ps
    | [] => [[x]]
@[go_sem] theorem flat_sn (l : List (List Int)) : flat (l.map fun x => sn x) = l.map fun x => sn x := by
  induction l with
  | nil => rfl
  | cons x r ih => simp only [flat, List.map_cons, List.flatMap_cons, D.cells] at ih ⊢; rw [ih]; rfl
@[go_sem] theorem getSn {l : List (List Int)} {j : Nat} (h : j < l.length) : (l.map fun x => sn x)[j]? = some (sn (l.getD j [])) := by simp [h]
def ptS (m c : Int) : Int := if 48 ≤ c ∧ c ≤ 51 then or2 m (c - 48) else m
def ptB (p : List Int) : Int := p.foldl ptS 0
def psT (l : List Int) : List Int := (spL l).map ptB
@[go_sem] theorem psT_len (l : List Int) : (psT l).length = (spL l).length := by simp [psT]
@[go_sem] theorem binA_shr33 {a : Int} : binA .shr (.d (.v (.int .u64 a))) (.d (.v (.int .u64 33))) = some (.d (.v (.int .u64 (a / 8589934592)))) := by
  have e : min (33 : Int).toNat 64 = 33 := rfl
  have h1 : (0 : Int) ≤ 2 ^ 33 := by decide
  simp only [binA, binI, BinOp.isShift, true_or, if_true, if_neg (show ¬ (33 : Int) < 0 by omega), IntKind.bits, e, Option.map_some, Int.fdiv_eq_ediv_of_nonneg _ h1]
  rfl
@[go_sem] theorem binA_mask24 {a : Int} (h : 0 ≤ a) (h' : a < 18446744073709551616) : binA .and (.d (.v (.int .u64 a))) (.d (.v (.int .u64 16777215))) = some (.d (.v (.int .u64 (a % 16777216)))) := by
  have e1 : (BitVec.ofInt 64 a).toNat = a.toNat := by rw [BitVec.toNat_ofInt]; omega
  have e2 : (BitVec.ofInt 64 16777215).toNat = 16777215 := by decide
  have e3 : (BitVec.ofInt 64 a &&& BitVec.ofInt 64 16777215).toNat = a.toNat % 16777216 := by
    rw [BitVec.toNat_and, e1, e2]; exact Nat.and_two_pow_sub_one_eq_mod a.toNat 24
  have e4 : binI .and .u64 a 16777215 = some (.int .u64 (IntKind.wrap .u64 ((BitVec.ofInt 64 a &&& BitVec.ofInt 64 16777215).toNat : Nat))) := rfl
  simp only [binA, e4, BinOp.isShift, or_true, if_true, e3, Option.map_some]
  rw [wrap_u64 (by omega) (by omega)]
  congr 4
  omega
attribute [go_sem] mkBlk
def leaB (o : Option (Option Blk)) (k i : Nat) (s : Sto) : R × Sto :=
  match o with
  | some (some (.var cs)) => (.boxm (cs.map .d), s.set i none)
  | some (some (.mix cs)) => (.boxm (leaL (leaA k) cs (s.set i none)).1, (leaL (leaA k) cs (s.set i none)).2)
  | _ => (.any, s)
@[go_sem] theorem leaA_ref (k i : Nat) (s : Sto) : leaA (k + 1) (.ref i 0) s = leaB s[i]? k i s := by
  simp only [leaA, leaB] <;> (rcases s[i]? with _ | _ | b <;> first | rfl | (cases b <;> rfl))
@[go_sem] theorem leaB_var (cs : List D) (k i : Nat) (s : Sto) : leaB (some (some (.var cs))) k i s = (.boxm (cs.map .d), s.set i none) := rfl
@[go_sem] theorem RLes_boxm (x y xs ys : List R) : RLes (.boxm x :: xs) (.boxm y :: ys) = (x = y ∧ RLes xs ys) := by
  apply propext
  constructor
  · intro h; cases h with | cons h hs => cases h; exact ⟨rfl, hs⟩
  · rintro ⟨rfl, hs⟩; exact .cons .refl hs
@[go_sem] theorem leaA_is (k : Nat) (x : AV) (v : Value) (s : Sto) : leaA (k + 1) (.is x v) s = leaA k x s := rfl
@[go_sem] theorem leaA_iref (k : Nat) (cs : List D) (c : Nat) (s : Sto) : leaA (k + 1) (.iref cs c) s = (.any, s) := rfl
@[go_sem] theorem leaA_fn (k : Nat) (f : FuncId) (xs : List AV) (s : Sto) : leaA (k + 1) (.fn f xs) s = (.any, s) := rfl
def leaBm (p : List R × Sto) : R × Sto := (.boxm p.1, p.2)
@[go_sem] theorem leaBm_ok (ls : List R) (s : Sto) : leaBm (ls, s) = (.boxm ls, s) := rfl
@[go_sem] theorem leaB_mix (cs : List AV) (k i : Nat) (s : Sto) : leaB (some (some (.mix cs))) k i s = leaBm (leaL (leaA k) cs (s.set i none)) := rfl
theorem leaS_pre {i n : Nat} {es : List D} {s : Sto} (h : n ≤ es.length) : leaS (some (some (.dat 1 es))) i 0 n 1 s = (.own 1 (es.take n), s.set i none) := by
  simp [leaS, h, Nat.mod_one]
theorem ballM_those (l : List Int) (w r : Int) : thoseM l (fun a => decide (farM (digM l w) a ≤ r)) = ballM l w r := by
  unfold thoseM ballM
  congr 1; funext u
  rw [← distM_comm l w u, distM]
theorem d_impl_ball_1 (a b : List Int) (r : Int) (ha : a.length = b.length) (h8 : a.length ≤ 8) : Den PA f_impl_ball_1 [.d (dig a), .box ((pad8 b).map dy), .box [di r]] [.any, .any, .any] (.d (db (decide (farM b a ≤ r)))) := by
  refine den_go [] l_impl_ball_1 ?_
  repeat' (first | simp -implicitDefEqProofs (maxSteps := 1000000) (disch := (first | omega | (simp only [go_sem] <;> omega) | fail)) only [go_sem, ints, bools, mat, c_impl_ball_1] | ((first | refine goIf_b (fun h => ?_) (fun h => ?_) | refine goG_b (fun h => ?_) (fun h => ?_) | refine goTG_b (fun h => ?_) (fun h => ?_) | refine goOG_b (fun h => ?_) (fun h => ?_)) <;> ((try simp only [Bool.not_eq_true', Bool.not_eq_false'] at h); (try simp only [h]); (try simp only [decide_eq_true_eq, decide_eq_false_iff_not, bne_iff_ne, bne_eq_false_iff_eq, beq_iff_eq, beq_eq_false_iff_ne, ne_eq, Int.not_lt, Int.not_le, Bool.and_eq_true, Bool.and_eq_false_iff, Bool.or_eq_true, Bool.or_eq_false_iff] at h))))
  first | refine goC_call [.r, .r] (d_impl_far b a ha.symm (by omega)) ?_ | refine goOC_call [.r, .r] (d_impl_far b a ha.symm (by omega)) ?_
  repeat' (first | simp -implicitDefEqProofs (maxSteps := 1000000) (disch := (first | omega | (simp only [go_sem] <;> omega) | fail)) only [go_sem, ints, bools, mat] | ((first | refine goIf_b (fun h => ?_) (fun h => ?_) | refine goG_b (fun h => ?_) (fun h => ?_) | refine goTG_b (fun h => ?_) (fun h => ?_) | refine goOG_b (fun h => ?_) (fun h => ?_)) <;> ((try simp only [Bool.not_eq_true', Bool.not_eq_false'] at h); (try simp only [h]); (try simp only [decide_eq_true_eq, decide_eq_false_iff_not, bne_iff_ne, bne_eq_false_iff_eq, beq_iff_eq, beq_eq_false_iff_ne, ne_eq, Int.not_lt, Int.not_le, Bool.and_eq_true, Bool.and_eq_false_iff, Bool.or_eq_true, Bool.or_eq_false_iff] at h))))
theorem d_impl_ball (l : List Int) (hs : isSpaceM l = true) (w r : Int) (hw : 0 ≤ w) (hw2 : w < 1000000000000) : Den PA f_impl_ball [.d (.agg [ints l]), .d (di w), .d (di r)] [.any, .any, .any] (.own 1 ((ballM l w r).map di)) := by
  have hn := isSpaceM_n hs
  have e := digM_len l w
  refine den_go [] l_impl_ball ?_
  repeat' (first | simp -implicitDefEqProofs (maxSteps := 1000000) (disch := (first | omega | (simp only [go_sem] <;> omega) | fail)) only [go_sem, ints, bools, mat, c_impl_ball] | ((first | refine goIf_b (fun h => ?_) (fun h => ?_) | refine goG_b (fun h => ?_) (fun h => ?_) | refine goTG_b (fun h => ?_) (fun h => ?_) | refine goOG_b (fun h => ?_) (fun h => ?_)) <;> ((try simp only [Bool.not_eq_true', Bool.not_eq_false'] at h); (try simp only [h]); (try simp only [decide_eq_true_eq, decide_eq_false_iff_not, bne_iff_ne, bne_eq_false_iff_eq, beq_iff_eq, beq_eq_false_iff_ne, ne_eq, Int.not_lt, Int.not_le, Bool.and_eq_true, Bool.and_eq_false_iff, Bool.or_eq_true, Bool.or_eq_false_iff] at h))))
  first | refine goC_call [.r, .r] (d_impl_digitsOf l hs w hw hw2) ?_ | refine goOC_call [.r, .r] (d_impl_digitsOf l hs w hw hw2) ?_
  repeat' (first | simp -implicitDefEqProofs (maxSteps := 1000000) (disch := (first | omega | (simp only [go_sem] <;> omega) | fail)) only [go_sem, ints, bools, mat, dig] | ((first | refine goIf_b (fun h => ?_) (fun h => ?_) | refine goG_b (fun h => ?_) (fun h => ?_) | refine goTG_b (fun h => ?_) (fun h => ?_) | refine goOG_b (fun h => ?_) (fun h => ?_)) <;> ((try simp only [Bool.not_eq_true', Bool.not_eq_false'] at h); (try simp only [h]); (try simp only [decide_eq_true_eq, decide_eq_false_iff_not, bne_iff_ne, bne_eq_false_iff_eq, beq_iff_eq, beq_eq_false_iff_ne, ne_eq, Int.not_lt, Int.not_le, Bool.and_eq_true, Bool.and_eq_false_iff, Bool.or_eq_true, Bool.or_eq_false_iff] at h))))
  first | refine goC_call [.r, .g (fnD l.length fun a => decide (farM (digM l w) a ≤ r))] (d_impl_those l hs (fun a => decide (farM (digM l w) a ≤ r)) _ (fun u => fnD_mk hs (fun a => decide (farM (digM l w) a ≤ r)) u)) ?_ | refine goOC_call [.r, .g (fnD l.length fun a => decide (farM (digM l w) a ≤ r))] (d_impl_those l hs (fun a => decide (farM (digM l w) a ≤ r)) _ (fun u => fnD_mk hs (fun a => decide (farM (digM l w) a ≤ r)) u)) ?_
  repeat' (first | simp -implicitDefEqProofs (maxSteps := 1000000) (disch := (first | omega | (simp only [go_sem] <;> omega) | fail)) only [go_sem, ints, bools, mat] | ((first | refine goIf_b (fun h => ?_) (fun h => ?_) | refine goG_b (fun h => ?_) (fun h => ?_) | refine goTG_b (fun h => ?_) (fun h => ?_) | refine goOG_b (fun h => ?_) (fun h => ?_)) <;> ((try simp only [Bool.not_eq_true', Bool.not_eq_false'] at h); (try simp only [h]); (try simp only [decide_eq_true_eq, decide_eq_false_iff_not, bne_iff_ne, bne_eq_false_iff_eq, beq_iff_eq, beq_eq_false_iff_ne, ne_eq, Int.not_lt, Int.not_le, Bool.and_eq_true, Bool.and_eq_false_iff, Bool.or_eq_true, Bool.or_eq_false_iff] at h))))
  refine chk_intro (fnOK_mk (d_impl_ball_1 [] [] 0 rfl (by simp)).1 [(pad8 (digM l w)).map dy, [di r]] rfl fun ds v hgg => ?_) ?_
  · obtain ⟨a, ha, _, rfl, rfl⟩ := hgg
    exact ⟨_, d_impl_ball_1 a (digM l w) r (by rw [ha, digM_len]) (by omega)⟩
  rw [ballM_those]
  repeat' (first | simp -implicitDefEqProofs (maxSteps := 1000000) (disch := (first | omega | (simp only [go_sem] <;> omega) | fail)) only [go_sem, ints, bools, mat] | ((first | refine goIf_b (fun h => ?_) (fun h => ?_) | refine goG_b (fun h => ?_) (fun h => ?_) | refine goTG_b (fun h => ?_) (fun h => ?_) | refine goOG_b (fun h => ?_) (fun h => ?_)) <;> ((try simp only [Bool.not_eq_true', Bool.not_eq_false'] at h); (try simp only [h]); (try simp only [decide_eq_true_eq, decide_eq_false_iff_not, bne_iff_ne, bne_eq_false_iff_eq, beq_iff_eq, beq_eq_false_iff_ne, ne_eq, Int.not_lt, Int.not_le, Bool.and_eq_true, Bool.and_eq_false_iff, Bool.or_eq_true, Bool.or_eq_false_iff] at h))))
/-- How many rows of digits lie at a distance of k from one row. -/
def cf : List Int → Nat → Int
  | [], k => if k = 0 then 1 else 0
  | q :: r, k => mulB (q - 1) (cf r) k
theorem flat_cnt (n a : Nat) (A B : Int) (g : Nat → List (List Int)) (h : ∀ d, d < n → ((g d).length : Int) = if d = a then A else B) :
    ((((List.range n).flatMap g).length : Nat) : Int) = n * B + if a < n then A - B else 0 := by
  induction n with
  | zero => simp
  | succ n ih =>
    have hs := h n (by omega)
    rw [List.range_succ, List.flatMap_append, List.length_append, Int.natCast_add, ih fun d hd => h d (by omega)]
    simp only [List.flatMap_cons, List.flatMap_nil, List.append_nil]
    rw [hs]
    have e : ((n + 1 : Nat) : Int) * B = n * B + B := by rw [Int.natCast_add, Int.add_mul]; simp
    rw [e]
    rcases Nat.lt_trichotomy n a with q | q | q
    · rw [if_neg (show ¬ n = a by omega), if_neg (show ¬ a < n by omega), if_neg (show ¬ a < n + 1 by omega)]; omega
    · rw [if_pos q, if_neg (show ¬ a < n by omega), if_pos (show a < n + 1 by omega)]; omega
    · rw [if_neg (show ¬ n = a by omega), if_pos (show a < n by omega), if_pos (show a < n + 1 by omega)]; omega
theorem cf_part (r a : List Int) (d a0 : Int) (k : Nat) : ((((vecs r).map fun v => d :: v).filter fun v => farM v (a0 :: a) == (k : Int)).length : Int) =
    if d = a0 then (((vecs r).filter fun v => farM v a == (k : Int)).length : Int) else dn (fun k => (((vecs r).filter fun v => farM v a == (k : Int)).length : Int)) k := by
  rw [List.filter_map, List.length_map]
  split
  · rename_i e
    congr 2
    apply List.filter_congr
    intro v _
    simp only [Function.comp, farM, if_pos e, Int.zero_add]
  · rename_i e
    unfold dn
    split
    · rename_i hk
      subst hk
      rw [List.filter_eq_nil_iff.2]
      · rfl
      · intro v _
        have := (farM_bnd v a).1
        simp only [Function.comp, farM, if_neg e, beq_iff_eq]; omega
    · rename_i hk
      congr 2
      apply List.filter_congr
      intro v _
      simp only [Function.comp, farM, if_neg e]
      rw [Bool.eq_iff_iff, beq_iff_eq, beq_iff_eq]; omega
theorem cf_ok : ∀ {l a : List Int}, szs l → a.length = l.length → (∀ i, i < l.length → 0 ≤ a.getD i 0 ∧ a.getD i 0 < l.getD i 0) → ∀ k : Nat, (((vecs l).filter fun v => farM v a == (k : Int)).length : Int) = cf l k
  | [], a, _, hl, _, k => by
    have : a = [] := List.eq_nil_of_length_eq_zero hl
    subst this
    rw [vecs, cf]
    by_cases hk : k = 0
    · subst hk; simp [farM]
    · rw [if_neg hk, List.filter_eq_nil_iff.2]
      · rfl
      · intro v hv
        simp at hv; subst hv
        simp [farM]; omega
  | q :: r, [], _, hl, _, k => by simp at hl
  | q :: r, a0 :: a, h, hl, hb, k => by
    have hq := h 0 (by simp)
    simp at hq
    have h0 := hb 0 (by simp)
    simp at h0
    have ih := fun k => cf_ok (l := r) (a := a) (szs_tail h) (by simpa using hl) (fun i hi => by simpa using hb (i + 1) (by simpa using hi)) k
    rw [vecs, List.filter_flatMap, flat_cnt q.toNat a0.toNat (cf r k) (dn (cf r) k), if_pos (by omega), cf, mulB]
    · rw [show ((q.toNat : Nat) : Int) = (q - 1) + 1 by omega, Int.add_mul]; omega
    · intro d hd
      rw [cf_part]
      have e2 : dn (fun k => (((vecs r).filter fun v => farM v a == (k : Int)).length : Int)) k = dn (cf r) k := by
        congr 1; funext k; exact ih k
      rw [e2, ih]
      by_cases e : d = a0.toNat
      · rw [if_pos e, if_pos (by omega)]
      · rw [if_neg e, if_neg (by omega)]
def sumN (f : Nat → Int) : Nat → Int
  | 0 => 0
  | n + 1 => sumN f n + f n
/-- How many words a ball has. -/
def bzM (l : List Int) (r : Int) : Int := sumN (cf l) (r.toNat + 1)
theorem cnt_le {α : Type} (L : List α) (f : α → Int) (h : ∀ x, x ∈ L → 0 ≤ f x) : ∀ n : Nat, ((L.filter fun x => decide (f x < n)).length : Int) = sumN (fun k => ((L.filter fun x => f x == (k : Int)).length : Int)) n
  | 0 => by
    rw [List.filter_eq_nil_iff.2]
    · rfl
    · intro x hx
      have := h x hx
      simp only [decide_eq_true_eq]; omega
  | n + 1 => by
    rw [sumN, ← cnt_le L f h n]
    clear h
    induction L with
    | nil => rfl
    | cons x L ih =>
      rw [List.filter_cons, List.filter_cons, List.filter_cons]
      rcases Int.lt_trichotomy (f x) n with q | q | q
      · rw [if_pos (decide_eq_true (by omega)), if_pos (decide_eq_true q), if_neg (by rw [beq_iff_eq]; omega)]
        simp only [List.length_cons]; omega
      · rw [if_pos (decide_eq_true (by omega)), if_neg (by rw [decide_eq_true_eq]; omega), if_pos (by rw [beq_iff_eq]; exact q)]
        simp only [List.length_cons]; omega
      · rw [if_neg (by rw [decide_eq_true_eq]; omega), if_neg (by rw [decide_eq_true_eq]; omega), if_neg (by rw [beq_iff_eq]; omega)]
        exact ih
theorem dig_in {l : List Int} (h : szs l) (w : Int) : ∀ i, i < l.length → 0 ≤ (digM l w).getD i 0 ∧ (digM l w).getD i 0 < l.getD i 0 := fun i hi =>
  ⟨(digM_bnd w h i).1, (dig_lt h w hi).2⟩
/-- All balls have as many words. -/
theorem ball_len {l : List Int} (hs : isSpaceM l = true) (w : Int) {r : Int} (hr : 0 ≤ r) : ((ballM l w r).length : Int) = bzM l r := by
  have hz := isSpaceM_szs hs
  have h1 : (ballM l w r).length = ((vecs l).filter fun v => decide (farM v (digM l w) < ((r.toNat + 1 : Nat) : Int))).length := by
    rw [← vecs_ok hz, List.filter_map, List.length_map, ballM]
    congr 1
    apply List.filter_congr
    intro u _
    simp only [Function.comp, distM]
    congr 1
    apply propext
    constructor <;> intro h <;> omega
  rw [h1, cnt_le _ _ (fun v _ => (farM_bnd v _).1), bzM]
  congr 1
  funext k
  exact cf_ok hz (digM_len l w) (dig_in hz w) k
theorem cf_app (q : Int) : ∀ (p : List Int) (k : Nat), cf (p ++ [q]) k = mulB (q - 1) (cf p) k
  | [], k => rfl
  | a :: p, k => by
    rw [List.cons_append, cf, show cf (p ++ [q]) = mulB (q - 1) (cf p) from funext (cf_app q p), mulB_comm]
    rfl
theorem cf_bnd : ∀ (l : List Int), (∀ i, i < l.length → 2 ≤ l.getD i 0 ∧ l.getD i 0 ≤ 4) → ∀ k, 0 ≤ cf l k ∧ cf l k ≤ 4 ^ l.length
  | [], _, k => by
    rw [cf]; split <;> simp
  | q :: r, h, k => by
    have hq := h 0 (by simp)
    simp at hq
    have ih := cf_bnd r fun i hi => by simpa using h (i + 1) (by simpa using hi)
    have h1 := ih k
    have h2 : 0 ≤ dn (cf r) k ∧ dn (cf r) k ≤ 4 ^ r.length := by
      unfold dn; split
      · exact ⟨Int.le_refl _, Int.pow_nonneg (by omega)⟩
      · exact ih _
    have h3 : (q - 1) * dn (cf r) k ≤ 3 * 4 ^ r.length := Int.mul_le_mul (by omega) h2.2 h2.1 (by omega)
    have h4 : 0 ≤ (q - 1) * dn (cf r) k := Int.mul_nonneg (by omega) h2.1
    rw [cf, mulB, List.length_cons, Int.pow_succ]
    omega
theorem cf_zero : ∀ (l : List Int) (k : Nat), l.length < k → cf l k = 0
  | [], k, h => by rw [cf, if_neg (by simp at h; omega)]
  | q :: r, k, h => by
    simp at h
    rw [cf, mulB, cf_zero r k (by omega), dn, if_neg (by omega), cf_zero r (k - 1) (by omega)]; simp
theorem sumN_big (f : Nat → Int) {m : Nat} (h : ∀ k, m ≤ k → f k = 0) : ∀ n, m ≤ n → sumN f n = sumN f m
  | 0, hn => by
    have : m = 0 := by omega
    subst this; rfl
  | n + 1, hn => by
    rcases Nat.lt_or_ge n m with q | q
    · have : m = n + 1 := by omega
      subst this; rfl
    · rw [sumN, h n q, sumN_big f h n q]; omega
/-- The row of numbers while the place i is taken in: the numbers behind k are done. -/
def rowS (l : List Int) (i k : Nat) : List Int := (List.range (l.length + 1)).map fun j => if k < j then cf (l.take (i + 1)) j else cf (l.take i) j
@[go_sem] theorem rowS_len (l : List Int) (i k : Nat) : (rowS l i k).length = l.length + 1 := by simp [rowS]
theorem rowS_get (l : List Int) (i k : Nat) {j : Nat} (h : j < l.length + 1) : (rowS l i k).getD j 0 = if k < j then cf (l.take (i + 1)) j else cf (l.take i) j := by simp [rowS, h]
theorem rowS_step (l : List Int) {i k : Nat} (hi : i < l.length) (hk : k < l.length) : (rowS l i (k + 1)).set (k + 1) (cf (l.take i) (k + 1) + cf (l.take i) k * (l.getD i 0 - 1)) = rowS l i k := by
  refine eq_getD (by rw [List.length_set, rowS_len, rowS_len]) fun j hj => ?_
  rw [List.length_set, rowS_len] at hj
  rw [rowS_get l i k hj, List.getD_eq_getElem?_getD, List.getElem?_set]
  by_cases e : k + 1 = j
  · subst e
    rw [if_pos rfl, if_pos (by rw [rowS_len]; omega), if_pos (by omega), take_one l hi, cf_app, mulB, dn, if_neg (by omega), Nat.add_sub_cancel, Int.mul_comm]
    rfl
  · rw [if_neg e]
    have := rowS_get l i (k + 1) hj
    rw [List.getD_eq_getElem?_getD] at this
    rw [this]
    by_cases e2 : k + 1 < j
    · rw [if_pos e2, if_pos (by omega)]
    · rw [if_neg e2, if_neg (by omega)]
theorem rowS_next (l : List Int) {i : Nat} (hi : i < l.length) : rowS l i 0 = rowS l (i + 1) (i + 2) := by
  refine eq_getD (by rw [rowS_len, rowS_len]) fun j hj => ?_
  rw [rowS_len] at hj
  rw [rowS_get l i 0 hj, rowS_get l (i + 1) (i + 2) hj]
  by_cases e : j = 0
  · subst e
    rw [if_neg (by omega), if_neg (by omega), take_one l hi, cf_app, mulB, dn, if_pos rfl]; simp
  · rw [if_pos (by omega)]
    by_cases e2 : i + 2 < j
    · rw [if_pos e2, cf_zero _ _ (by simp; omega), cf_zero _ _ (by simp; omega)]
    · rw [if_neg e2]
theorem rowS_0 {l : List Int} : (List.replicate (l.length + 1) (0 : Int)).set 0 1 = rowS l 0 1 := by
  refine eq_getD (by rw [List.length_set, List.length_replicate, rowS_len]) fun j hj => ?_
  rw [List.length_set, List.length_replicate] at hj
  rw [rowS_get l 0 1 hj, List.getD_eq_getElem?_getD, List.getElem?_set]
  by_cases e : j = 0
  · subst e; simp [cf]
  · rw [if_neg (by omega)]
    have : ∀ n, n ≠ 0 → cf (l.take 1) n = if n = 1 then cf (l.take 1) 1 else 0 := fun n hn => by
      split
      · rename_i e; rw [e]
      · exact cf_zero _ _ (by simp; omega)
    by_cases e2 : j = 1
    · subst e2
      rw [if_neg (by omega), List.take_zero, cf, if_neg (by omega)]
      simp [hj]
    · rw [if_pos (by omega), this j e, if_neg e2]
      simp [hj]
theorem rowS_end (l : List Int) {k : Nat} (hk : k < l.length + 1) : (rowS l l.length (l.length + 1)).getD k 0 = cf l k := by
  rw [rowS_get l _ _ hk, if_neg (by omega), List.take_length]
theorem sumN_bnd (f : Nat → Int) (B : Int) (h : ∀ k, 0 ≤ f k ∧ f k ≤ B) : ∀ n : Nat, 0 ≤ sumN f n ∧ sumN f n ≤ n * B
  | 0 => by simp [sumN]
  | n + 1 => by
    have h1 := sumN_bnd f B h n
    have h2 := h n
    rw [sumN, Int.natCast_add, Int.add_mul]; omega
theorem pow4_le {n : Nat} (h : n ≤ 8) : (4 : Int) ^ n ≤ 65536 := by
  have h1 : (4 : Nat) ^ n ≤ 65536 := Nat.le_trans (Nat.pow_le_pow_right (by omega) h) (by decide)
  have h2 : ((4 ^ n : Nat) : Int) ≤ 65536 := by omega
  rw [Int.natCast_pow] at h2
  exact h2
theorem d_spec_l01Size (l : List Int) (hs : isSpaceM l = true) (r : Int) (hr : 0 ≤ r) (hr2 : r < 1000000) : Den PA f_spec_l01Size [.d (.agg [ints l]), .d (di r)] [.any, .any] (.d (di (bzM l r))) := by
  have hn := isSpaceM_n hs
  have hq := isSpaceM_q hs
  have hcb : ∀ i k, 0 ≤ cf (l.take i) k ∧ cf (l.take i) k ≤ 65536 := fun i k => by
    have h1 := cf_bnd (l.take i) (fun j hj => by
      simp at hj
      have := hq j (by omega)
      rwa [List.getD_eq_getElem?_getD, List.getElem?_take, if_pos (by omega), ← List.getD_eq_getElem?_getD]) k
    have h2 : (4 : Int) ^ (l.take i).length ≤ 65536 := pow4_le (by simp; omega)
    omega
  refine den_go [] l_spec_l01Size ?_
  repeat' (first | simp -implicitDefEqProofs (maxSteps := 1000000) (disch := (first | omega | (simp only [go_sem] <;> omega) | fail)) only [go_sem, ints, bools, mat, c_spec_l01Size] | ((first | refine goIf_b (fun h => ?_) (fun h => ?_) | refine goG_b (fun h => ?_) (fun h => ?_) | refine goTG_b (fun h => ?_) (fun h => ?_) | refine goOG_b (fun h => ?_) (fun h => ?_)) <;> ((try simp only [Bool.not_eq_true', Bool.not_eq_false'] at h); (try simp only [h]); (try simp only [decide_eq_true_eq, decide_eq_false_iff_not, bne_iff_ne, bne_eq_false_iff_eq, beq_iff_eq, beq_eq_false_iff_ne, ne_eq, Int.not_lt, Int.not_le, Bool.and_eq_true, Bool.and_eq_false_iff, Bool.or_eq_true, Bool.or_eq_false_iff] at h)) <;> (try (exfalso; omega))))
  rw [rowS_0]
  refine go_loop (fun (i : Nat) => ⟨[(1, .d (di r)), (2, .ref 0 0), (5, .sl 1 0 (l.length + 1) 1), (6, .d (di i))], [some (.var [ints l]), some (.dat 1 ((rowS l i (i + 1)).map di))]⟩) (fun i => i ≤ l.length) (fun i => l.length - i) 0 ?_ ?_ ?_
  · (simp -implicitDefEqProofs (maxSteps := 1000000) (disch := (first | omega | (simp only [go_sem] <;> omega) | fail)) only [go_sem, ints, bools, mat] <;> rfl)
  · omega
  · rintro i hi J hJ
    by_cases hil : i < l.length
    · repeat' (first | simp -implicitDefEqProofs (maxSteps := 1000000) (disch := (first | omega | (simp only [go_sem] <;> omega) | fail)) only [go_sem, ints, bools, mat] | ((first | refine goIf_b (fun h => ?_) (fun h => ?_) | refine goG_b (fun h => ?_) (fun h => ?_) | refine goTG_b (fun h => ?_) (fun h => ?_) | refine goOG_b (fun h => ?_) (fun h => ?_)) <;> ((try simp only [Bool.not_eq_true', Bool.not_eq_false'] at h); (try simp only [h]); (try simp only [decide_eq_true_eq, decide_eq_false_iff_not, bne_iff_ne, bne_eq_false_iff_eq, beq_iff_eq, beq_eq_false_iff_ne, ne_eq, Int.not_lt, Int.not_le, Bool.and_eq_true, Bool.and_eq_false_iff, Bool.or_eq_true, Bool.or_eq_false_iff] at h)) <;> (try (exfalso; omega))))
      have hqi := hq i hil
      refine go_loop (fun (k : Nat) => ⟨[(1, .d (di r)), (2, .ref 0 0), (5, .sl 1 0 (l.length + 1) 1), (6, .d (di i)), (7, .d (di k))], [some (.var [ints l]), some (.dat 1 ((rowS l i k).map di))]⟩) (fun k => k ≤ i + 1) (fun k => k) (i + 1) ?_ ?_ ?_
      · (simp -implicitDefEqProofs (maxSteps := 1000000) (disch := (first | omega | (simp only [go_sem] <;> omega) | fail)) only [go_sem, ints, bools, mat] <;> rfl)
      · omega
      · rintro k hk J2 hJ2
        rcases k with _ | k
        · repeat' (first | simp -implicitDefEqProofs (maxSteps := 1000000) (disch := (first | omega | (simp only [go_sem] <;> omega) | fail)) only [go_sem, ints, bools, mat] | ((first | refine goIf_b (fun h => ?_) (fun h => ?_) | refine goG_b (fun h => ?_) (fun h => ?_) | refine goTG_b (fun h => ?_) (fun h => ?_) | refine goOG_b (fun h => ?_) (fun h => ?_)) <;> ((try simp only [Bool.not_eq_true', Bool.not_eq_false'] at h); (try simp only [h]); (try simp only [decide_eq_true_eq, decide_eq_false_iff_not, bne_iff_ne, bne_eq_false_iff_eq, beq_iff_eq, beq_eq_false_iff_ne, ne_eq, Int.not_lt, Int.not_le, Bool.and_eq_true, Bool.and_eq_false_iff, Bool.or_eq_true, Bool.or_eq_false_iff] at h)) <;> (try (exfalso; omega))))
          refine hJ (i + 1) (by omega) (by omega) _ ?_
          simp -implicitDefEqProofs (maxSteps := 1000000) (disch := (first | omega | (simp only [go_sem] <;> omega) | fail)) only [go_sem, ints, bools, mat]
          rw [rowS_next l hil]
          rfl
        · have e1 := rowS_get l i (k + 1) (j := k + 1) (by omega)
          have e2 := rowS_get l i (k + 1) (j := k) (by omega)
          rw [if_neg (by omega)] at e1 e2
          have b1 := hcb i (k + 1)
          have b2 := hcb i k
          have b3 : cf (l.take i) k * (l.getD i 0 - 1) ≤ 65536 * 3 := Int.mul_le_mul b2.2 (by omega) (by omega) (by omega)
          have b4 : 0 ≤ cf (l.take i) k * (l.getD i 0 - 1) := Int.mul_nonneg b2.1 (by omega)
          have e3 := rowS_step l hil (k := k) (by omega)
          repeat' (first | simp -implicitDefEqProofs (maxSteps := 1000000) (disch := (first | omega | (simp only [go_sem] <;> omega) | fail)) only [go_sem, ints, bools, mat, e1, e2] | ((first | refine goIf_b (fun h => ?_) (fun h => ?_) | refine goG_b (fun h => ?_) (fun h => ?_) | refine goTG_b (fun h => ?_) (fun h => ?_) | refine goOG_b (fun h => ?_) (fun h => ?_)) <;> ((try simp only [Bool.not_eq_true', Bool.not_eq_false'] at h); (try simp only [h]); (try simp only [decide_eq_true_eq, decide_eq_false_iff_not, bne_iff_ne, bne_eq_false_iff_eq, beq_iff_eq, beq_eq_false_iff_ne, ne_eq, Int.not_lt, Int.not_le, Bool.and_eq_true, Bool.and_eq_false_iff, Bool.or_eq_true, Bool.or_eq_false_iff] at h)) <;> (try (exfalso; omega))))
          refine hJ2 k (by omega) (by omega) _ ?_
          simp -implicitDefEqProofs (maxSteps := 1000000) (disch := (first | omega | (simp only [go_sem] <;> omega) | fail)) only [go_sem, ints, bools, mat, e1, e2, e3]
    · have : i = l.length := by omega
      subst this
      repeat' (first | simp -implicitDefEqProofs (maxSteps := 1000000) (disch := (first | omega | (simp only [go_sem] <;> omega) | fail)) only [go_sem, ints, bools, mat] | ((first | refine goIf_b (fun h => ?_) (fun h => ?_) | refine goG_b (fun h => ?_) (fun h => ?_) | refine goTG_b (fun h => ?_) (fun h => ?_) | refine goOG_b (fun h => ?_) (fun h => ?_)) <;> ((try simp only [Bool.not_eq_true', Bool.not_eq_false'] at h); (try simp only [h]); (try simp only [decide_eq_true_eq, decide_eq_false_iff_not, bne_iff_ne, bne_eq_false_iff_eq, beq_iff_eq, beq_eq_false_iff_ne, ne_eq, Int.not_lt, Int.not_le, Bool.and_eq_true, Bool.and_eq_false_iff, Bool.or_eq_true, Bool.or_eq_false_iff] at h)) <;> (try (exfalso; omega))))
      refine go_loop (fun (k : Nat) => ⟨[(1, .d (di r)), (5, .sl 0 0 (l.length + 1) 1), (8, .d (di (sumN (cf l) k))), (9, .d (di k))], [some (.dat 1 ((rowS l l.length (l.length + 1)).map di))]⟩) (fun k => k ≤ l.length + 1 ∧ (k : Int) ≤ r + 1) (fun k => l.length + 1 - k) 0 ?_ ?_ ?_
      · (simp -implicitDefEqProofs (maxSteps := 1000000) (disch := (first | omega | (simp only [go_sem] <;> omega) | fail)) only [go_sem, ints, bools, mat] <;> rfl)
      · omega
      · rintro k ⟨hk, hkr⟩ J2 hJ2
        have b1 : 0 ≤ sumN (cf l) k ∧ sumN (cf l) k ≤ k * 65536 := sumN_bnd _ _ (fun j => by have := hcb l.length j; rwa [List.take_length] at this) k
        have b2 := hcb l.length k
        rw [List.take_length] at b2
        by_cases hc : k < l.length + 1 ∧ (k : Int) ≤ r
        · have e1 := rowS_end l hc.1
          obtain ⟨hc1, hc2⟩ := hc
          repeat' (first | simp -implicitDefEqProofs (maxSteps := 1000000) (disch := (first | omega | (simp only [go_sem] <;> omega) | fail)) only [go_sem, ints, bools, mat, e1] | ((first | refine goIf_b (fun h => ?_) (fun h => ?_) | refine goG_b (fun h => ?_) (fun h => ?_) | refine goTG_b (fun h => ?_) (fun h => ?_) | refine goOG_b (fun h => ?_) (fun h => ?_)) <;> ((try simp only [Bool.not_eq_true', Bool.not_eq_false'] at h); (try simp only [h]); (try simp only [decide_eq_true_eq, decide_eq_false_iff_not, bne_iff_ne, bne_eq_false_iff_eq, beq_iff_eq, beq_eq_false_iff_ne, ne_eq, Int.not_lt, Int.not_le, Bool.and_eq_true, Bool.and_eq_false_iff, Bool.or_eq_true, Bool.or_eq_false_iff] at h)) <;> (try (exfalso; omega))))
          refine hJ2 (k + 1) (by omega) (by omega) _ ?_
          simp -implicitDefEqProofs (maxSteps := 1000000) (disch := (first | omega | (simp only [go_sem] <;> omega) | fail)) only [go_sem, ints, bools, mat, e1]
          rfl
        · have e : sumN (cf l) k = bzM l r := by
            unfold bzM
            by_cases hk2 : k < l.length + 1
            · have : r.toNat + 1 = k := by omega
              rw [this]
            · have : k = l.length + 1 := by omega
              subst this
              exact (sumN_big (cf l) (fun j hj => cf_zero l j (by omega)) _ (by omega)).symm
          rw [e]
          repeat' (first | simp -implicitDefEqProofs (maxSteps := 1000000) (disch := (first | omega | (simp only [go_sem] <;> omega) | fail)) only [go_sem, ints, bools, mat] | ((first | refine goIf_b (fun h => ?_) (fun h => ?_) | refine goG_b (fun h => ?_) (fun h => ?_) | refine goTG_b (fun h => ?_) (fun h => ?_) | refine goOG_b (fun h => ?_) (fun h => ?_)) <;> ((try simp only [Bool.not_eq_true', Bool.not_eq_false'] at h); (try simp only [h]); (try simp only [decide_eq_true_eq, decide_eq_false_iff_not, bne_iff_ne, bne_eq_false_iff_eq, beq_iff_eq, beq_eq_false_iff_ne, ne_eq, Int.not_lt, Int.not_le, Bool.and_eq_true, Bool.and_eq_false_iff, Bool.or_eq_true, Bool.or_eq_false_iff] at h)) <;> (try (exfalso; omega))))
/-- Which words are covered. -/
def cvL (l X : List Int) : List Bool := (allW l).map fun u => decide (u ∈ X)
@[go_sem] theorem cvL_len (l X : List Int) : (cvL l X).length = (prodM l).toNat := by simp [cvL, allW_len]
theorem cvL_get (l X : List Int) {i : Nat} (h : i < (prodM l).toNat) : (cvL l X).getD i false = decide ((i : Int) ∈ X) := by
  have h2 : i < (allW l).length := by rw [allW_len]; exact h
  have e := allW_get l h
  rw [List.getD_eq_getElem?_getD, List.getElem?_eq_getElem h2, Option.getD_some] at e
  simp [cvL, h2, e]
theorem cvL_eq {l X : List Int} {L : List Bool} (h : L.length = (prodM l).toNat) (h2 : ∀ i : Nat, i < (prodM l).toNat → L.getD i false = decide ((i : Int) ∈ X)) : L = cvL l X := by
  apply List.ext_getElem (by rw [h, cvL_len])
  intro i h3 h4
  have := h2 i (by omega)
  have e := cvL_get l X (i := i) (by omega)
  rw [List.getD_eq_getElem?_getD, List.getElem?_eq_getElem h3, Option.getD_some] at this
  rw [List.getD_eq_getElem?_getD, List.getElem?_eq_getElem h4, Option.getD_some] at e
  rw [this, e]
theorem cvL_congr {l X Y : List Int} (h : ∀ u : Int, 0 ≤ u → u < prodM l → (u ∈ X ↔ u ∈ Y)) : cvL l X = cvL l Y := by
  refine cvL_eq (cvL_len l X) fun i hi => ?_
  rw [cvL_get l X hi]
  simp only [h i (by omega) (by omega)]
/-- The first word that is not covered. -/
def opn (l X : List Int) : Option Int := (allW l).find? fun u => !decide (u ∈ X)
def idxO : Option Int → Int
  | none => -1
  | some u => u
theorem opn_some {l X : List Int} {o : Int} (h : opn l X = some o) : (0 ≤ o ∧ o < prodM l) ∧ o ∉ X ∧ ∀ u, 0 ≤ u → u < o → u ∈ X := by
  unfold opn at h
  have h1 := List.find?_some h
  have h2 := List.mem_of_find?_eq_some h
  rw [allW_mem] at h2
  refine ⟨by omega, by simpa using h1, fun u hu huo => ?_⟩
  rw [find_idx] at h
  cases hf : (allW l).findIdx? (fun u => !decide (u ∈ X)) with
  | none => rw [hf] at h; cases h
  | some j =>
    rw [hf] at h
    obtain ⟨hj, g1, g2⟩ := List.findIdx?_eq_some_iff_getElem.1 hf
    have hj' : j < (prodM l).toNat := by rwa [allW_len] at hj
    have hoj : (allW l).getD j 0 = o := by injection h
    rw [allW_get l hj'] at hoj
    have hk : u.toNat < j := by omega
    have := g2 u.toNat hk
    have e := allW_get l (i := u.toNat) (by omega)
    rw [List.getD_eq_getElem?_getD, List.getElem?_eq_getElem (by omega), Option.getD_some] at e
    rw [e] at this
    have : decide (((u.toNat : Nat) : Int) ∈ X) = true := by simpa using this
    rw [Int.toNat_of_nonneg hu] at this
    simpa using this
theorem opn_none {l X : List Int} (h : opn l X = none) : ∀ u, 0 ≤ u → u < prodM l → u ∈ X := fun u h0 h1 => by
  unfold opn at h
  rw [List.find?_eq_none] at h
  have := h u ((allW_mem l u).2 (by omega))
  simpa using this
/-- How many words are not covered. -/
def muX (l X : List Int) : Nat := ((allW l).filter fun u => !decide (u ∈ X)).length
theorem muX_le (l X : List Int) : muX l X ≤ (prodM l).toNat := by
  have := List.length_filter_le (fun u => !decide (u ∈ X)) (allW l)
  rw [allW_len] at this
  exact this
theorem distM_self (l : List Int) (w : Int) : distM l w w = 0 := by
  have key : ∀ a : List Int, farM a a = 0 := by
    intro a
    induction a with
    | nil => rfl
    | cons x a ih => rw [farM, if_pos rfl, ih]; rfl
  exact key _
theorem ball_self {l : List Int} {w r : Int} (hw : 0 ≤ w ∧ w < prodM l) (hr : 0 ≤ r) : w ∈ ballM l w r := by
  rw [ballM_mem, distM_self]; omega
theorem ball_symm {l : List Int} {u w r : Int} (hw : 0 ≤ w ∧ w < prodM l) (h : u ∈ ballM l w r) : w ∈ ballM l u r := by
  rw [ballM_mem] at h ⊢
  rw [distM_comm]; omega
theorem ball_in (l : List Int) (w r : Int) : inC l (ballM l w r) := fun u hu => by
  rw [ballM_mem] at hu; omega
/-- The balls of all words. -/
def nearM (l : List Int) (r : Int) : List (List Int) := (allW l).map fun w => ballM l w r
@[go_sem] theorem nearM_len (l : List Int) (r : Int) : (nearM l r).length = (prodM l).toNat := by simp [nearM, allW_len]
theorem bz_pos {l : List Int} (hs : isSpaceM l = true) {r : Int} (hr : 0 ≤ r) : 1 ≤ bzM l r ∧ bzM l r ≤ prodM l := by
  have hp1 := prodM_pos (isSpaceM_szs hs)
  rw [← ball_len hs 0 hr]
  constructor
  · have := ball_self (l := l) (w := 0) (r := r) ⟨Int.le_refl _, by omega⟩ hr
    have := List.length_pos_of_mem this
    omega
  · have : (ballM l 0 r).length ≤ (prodM l).toNat := by unfold ballM; exact filter_len_le _ _ _ (by rw [allW_len]; exact Nat.le_refl _)
    omega
structure Pck (l : List Int) (r : Int) (X c : List Int) : Prop where
  nd : X.Nodup
  inX : inC l X
  len : (X.length : Int) = c.length * bzM l r
  sub : ∀ w, w ∈ c → w ∈ X
  cnd : c.Nodup
theorem Pck.nil (l : List Int) (r : Int) : Pck l r [] [] := ⟨List.nodup_nil, fun u hu => (by cases hu), by simp, fun u hu => hu, List.nodup_nil⟩
theorem opn_mu {l X : List Int} (h : opn l X = none) : muX l X = 0 := by
  unfold muX
  rw [List.filter_eq_nil_iff.2]
  · rfl
  · intro u hu
    rw [allW_mem] at hu
    simp [opn_none h u hu.1 (by omega)]
/-- The body of a function's last loop. -/
def lastLoop : AC → AC
  | .seq _ b => lastLoop b
  | .block _ b => lastLoop b
  | .loop _ b => b
  | x => x
/-- A list and an error, the list kept as it is. -/
def lstF (e : Int) (v : List Int) : R := if e = 0 then .tup [.d (ints v), .d (di 0)] else .tup [.d nil, .d (di e)]
theorem and_cut (k a b : Nat) : a &&& b = (a % 2 ^ k &&& b % 2 ^ k) + 2 ^ k * (a / 2 ^ k &&& b / 2 ^ k) := by
  have h1 : (a &&& b) % 2 ^ k = a % 2 ^ k &&& b % 2 ^ k := Nat.and_mod_two_pow
  have h2 : (a &&& b) / 2 ^ k = a / 2 ^ k &&& b / 2 ^ k := Nat.and_div_two_pow
  rw [← h1, ← h2]
  exact (Nat.mod_add_div _ _).symm
/-- The same digits again and again. -/
def repD (m B : Nat) : Nat → Nat
  | 0 => 0
  | n + 1 => m + B * repD m B n
def popN : Nat → Nat → Nat
  | 0, _ => 0
  | n + 1, x => x % 2 + popN n (x / 2)
def dsum (B : Nat) : Nat → Nat → Nat
  | 0, _ => 0
  | n + 1, x => x % B + dsum B n (x / B)
def sw1 : Nat → Nat → Nat
  | 0, _ => 0
  | n + 1, x => (x % 2 + x / 2 % 2) + 4 * sw1 n (x / 4)
theorem sw1_ok : ∀ n x, ((x / 2) &&& repD 1 4 n) + (x &&& repD 1 4 n) = sw1 n x
  | 0, x => by simp [repD, sw1]
  | n + 1, x => by
    have ih := sw1_ok n (x / 4)
    have a1 := and_cut 2 (x / 2) (repD 1 4 (n + 1))
    have a2 := and_cut 2 x (repD 1 4 (n + 1))
    have e1 : repD 1 4 (n + 1) % 2 ^ 2 = 1 := by rw [repD]; omega
    have e2 : repD 1 4 (n + 1) / 2 ^ 2 = repD 1 4 n := by rw [repD]; omega
    rw [e1, e2, Nat.and_one_is_mod] at a1 a2
    have e3 : x / 2 / 2 ^ 2 = x / 4 / 2 := by omega
    rw [e3] at a1
    rw [show x / 2 ^ 2 = x / 4 by omega] at a2
    rw [a1, a2, sw1, ← ih]
    omega
theorem sw1_sum : ∀ n x, dsum 4 n (sw1 n x) = popN (2 * n) x
  | 0, _ => rfl
  | n + 1, x => by
    have ih := sw1_sum n (x / 4)
    have e1 : sw1 (n + 1) x % 4 = x % 2 + x / 2 % 2 := by rw [sw1]; omega
    have e2 : sw1 (n + 1) x / 4 = sw1 n (x / 4) := by rw [sw1]; omega
    rw [dsum, e1, e2, ih, show 2 * (n + 1) = 2 * n + 1 + 1 by omega, popN, popN, show x / 2 / 2 = x / 4 by omega]
    omega
/-- Digits that are not too great. -/
def digL (B d : Nat) : Nat → Nat → Prop
  | 0, x => x = 0
  | n + 1, x => x % B ≤ d ∧ digL B d n (x / B)
theorem sw1_dig : ∀ n x, digL 4 2 n (sw1 n x)
  | 0, _ => rfl
  | n + 1, x => by
    have e1 : sw1 (n + 1) x % 4 = x % 2 + x / 2 % 2 := by rw [sw1]; omega
    have e2 : sw1 (n + 1) x / 4 = sw1 n (x / 4) := by rw [sw1]; omega
    refine ⟨by omega, ?_⟩
    rw [e2]; exact sw1_dig n _
def sw2 : Nat → Nat → Nat
  | 0, _ => 0
  | n + 1, x => (x % 4 + x / 4 % 4) + 16 * sw2 n (x / 16)
theorem and_3 (x : Nat) : x % 2 ^ 4 &&& 3 = x % 4 := by
  have := Nat.and_two_pow_sub_one_eq_mod (x % 2 ^ 4) 2
  rw [show 2 ^ 2 - 1 = 3 by decide] at this
  rw [this]; omega
theorem sw2_ok : ∀ n x, ((x / 4) &&& repD 3 16 n) + (x &&& repD 3 16 n) = sw2 n x
  | 0, x => by simp [repD, sw2]
  | n + 1, x => by
    have ih := sw2_ok n (x / 16)
    have a1 := and_cut 4 (x / 4) (repD 3 16 (n + 1))
    have a2 := and_cut 4 x (repD 3 16 (n + 1))
    have e1 : repD 3 16 (n + 1) % 2 ^ 4 = 3 := by rw [repD]; omega
    have e2 : repD 3 16 (n + 1) / 2 ^ 4 = repD 3 16 n := by rw [repD]; omega
    rw [e1, e2, and_3] at a1 a2
    have e3 : x / 4 / 2 ^ 4 = x / 16 / 4 := by omega
    rw [e3] at a1
    rw [show x / 2 ^ 4 = x / 16 by omega] at a2
    rw [a1, a2, sw2, ← ih]
    omega
theorem sw2_sum : ∀ n x, dsum 16 n (sw2 n x) = dsum 4 (2 * n) x
  | 0, _ => rfl
  | n + 1, x => by
    have ih := sw2_sum n (x / 16)
    have e1 : sw2 (n + 1) x % 16 = x % 4 + x / 4 % 4 := by rw [sw2]; omega
    have e2 : sw2 (n + 1) x / 16 = sw2 n (x / 16) := by rw [sw2]; omega
    rw [dsum, e1, e2, ih, show 2 * (n + 1) = 2 * n + 1 + 1 by omega, dsum, dsum, show x / 4 / 4 = x / 16 by omega]
    omega
theorem sw2_dig : ∀ n x, digL 4 2 (2 * n) x → digL 16 4 n (sw2 n x)
  | 0, _, _ => rfl
  | n + 1, x, h => by
    have e1 : sw2 (n + 1) x % 16 = x % 4 + x / 4 % 4 := by rw [sw2]; omega
    have e2 : sw2 (n + 1) x / 16 = sw2 n (x / 16) := by rw [sw2]; omega
    rw [show 2 * (n + 1) = 2 * n + 1 + 1 by omega] at h
    obtain ⟨h1, h2, h3⟩ := h
    rw [show x / 4 / 4 = x / 16 by omega] at h3
    refine ⟨by omega, ?_⟩
    rw [e2]; exact sw2_dig n _ h3
def sw3 : Nat → Nat → Nat
  | 0, _ => 0
  | n + 1, x => (x % 16 + x / 16 % 16) + 256 * sw3 n (x / 256)
theorem and_15 (x : Nat) : x % 2 ^ 8 &&& 15 = x % 16 := by
  have := Nat.and_two_pow_sub_one_eq_mod (x % 2 ^ 8) 4
  rw [show 2 ^ 4 - 1 = 15 by decide] at this
  rw [this]; omega
theorem dig_hd {B d n x : Nat} (h : digL B d n x) : x % B ≤ d := by
  cases n with
  | zero => have : x = 0 := h; subst this; simp
  | succ n => exact h.1
theorem sw3_ok : ∀ n x, digL 16 4 (2 * n) x → ((x / 16 + x) &&& repD 15 256 n) = sw3 n x
  | 0, x, _ => by simp [repD, sw3]
  | n + 1, x, h => by
    rw [show 2 * (n + 1) = 2 * n + 1 + 1 by omega] at h
    obtain ⟨h1, h2, h3⟩ := h
    rw [show x / 16 / 16 = x / 256 by omega] at h3
    have ih := sw3_ok n (x / 256) h3
    have h4 := dig_hd h3
    have a1 := and_cut 8 (x / 16 + x) (repD 15 256 (n + 1))
    have e1 : repD 15 256 (n + 1) % 2 ^ 8 = 15 := by rw [repD]; omega
    have e2 : repD 15 256 (n + 1) / 2 ^ 8 = repD 15 256 n := by rw [repD]; omega
    rw [e1, e2, and_15] at a1
    have hx : x / 16 = x / 16 % 16 + 16 * (x / 256) := by
      have := Nat.div_div_eq_div_mul x 16 16
      omega
    have e3 : (x / 16 + x) / 2 ^ 8 = x / 256 / 16 + x / 256 := by
      clear a1 ih h3
      have hx2 := Nat.div_add_mod x 16
      generalize x / 16 % 16 = e at *
      generalize x / 256 = d at *
      generalize x % 16 = f at *
      generalize x / 16 = g at *
      subst hx
      omega
    rw [e3, ih] at a1
    rw [a1, sw3]
    omega
theorem sw3_sum : ∀ n x, digL 16 4 (2 * n) x → dsum 256 n (sw3 n x) = dsum 16 (2 * n) x
  | 0, _, _ => rfl
  | n + 1, x, h => by
    rw [show 2 * (n + 1) = 2 * n + 1 + 1 by omega] at h
    obtain ⟨h1, h2, h3⟩ := h
    rw [show x / 16 / 16 = x / 256 by omega] at h3
    have ih := sw3_sum n (x / 256) h3
    have e1 : sw3 (n + 1) x % 256 = x % 16 + x / 16 % 16 := by rw [sw3]; omega
    have e2 : sw3 (n + 1) x / 256 = sw3 n (x / 256) := by rw [sw3]; omega
    rw [dsum, e1, e2, ih, show 2 * (n + 1) = 2 * n + 1 + 1 by omega, dsum, dsum, show x / 16 / 16 = x / 256 by omega]
    omega
theorem sw3_dig : ∀ n x, digL 16 4 (2 * n) x → digL 256 8 n (sw3 n x)
  | 0, _, _ => rfl
  | n + 1, x, h => by
    have e1 : sw3 (n + 1) x % 256 = x % 16 + x / 16 % 16 := by rw [sw3]; omega
    have e2 : sw3 (n + 1) x / 256 = sw3 n (x / 256) := by rw [sw3]; omega
    rw [show 2 * (n + 1) = 2 * n + 1 + 1 by omega] at h
    obtain ⟨h1, h2, h3⟩ := h
    rw [show x / 16 / 16 = x / 256 by omega] at h3
    refine ⟨by omega, ?_⟩
    rw [e2]; exact sw3_dig n _ h3
abbrev dg (i x : Nat) : Nat := x / 256 ^ i % 256
theorem dg_succ (i x : Nat) : dg (i + 1) x = dg i (x / 256) := by
  simp only [dg]
  rw [Nat.pow_succ, Nat.mul_comm, Nat.div_div_eq_div_mul]
theorem dg_shift {a k : Nat} (ha : 2 * a < 256) : ∀ (i x : Nat), (∀ j, dg j x ≤ a) → dg i (x + x / 256 ^ k) = dg i x + dg (i + k) x
  | 0, x, h => by
    have h0 := h 0
    have hk := h k
    simp only [dg, Nat.pow_zero, Nat.div_one, Nat.zero_add] at h0 hk ⊢
    generalize x / 256 ^ k = y at *
    omega
  | i + 1, x, h => by
    have h0 := h 0
    have hk := h k
    have ih := dg_shift (k := k) ha i (x / 256) fun j => by rw [← dg_succ]; exact h (j + 1)
    have e : (x + x / 256 ^ k) / 256 = x / 256 + x / 256 / 256 ^ k := by
      rw [Nat.div_div_eq_div_mul, Nat.mul_comm, ← Nat.div_div_eq_div_mul]
      simp only [dg, Nat.pow_zero, Nat.div_one] at h0 hk
      generalize x / 256 ^ k = y at *
      omega
    rw [dg_succ, e, ih, dg_succ, show i + 1 + k = i + k + 1 by omega, dg_succ]
theorem dig_dg {a : Nat} : ∀ (n x : Nat), digL 256 a n x → ∀ j, dg j x ≤ a
  | 0, x, h, j => by
    have : x = 0 := h
    subst this; simp [dg]
  | n + 1, x, h, 0 => by simpa [dg] using h.1
  | n + 1, x, h, j + 1 => by rw [dg_succ]; exact dig_dg n _ h.2 j
theorem dig_end {a : Nat} : ∀ (n x : Nat), digL 256 a n x → ∀ j, n ≤ j → dg j x = 0
  | 0, x, h, j, _ => by
    have : x = 0 := h
    subst this; simp [dg]
  | n + 1, x, h, 0, hj => by omega
  | n + 1, x, h, j + 1, hj => by rw [dg_succ]; exact dig_end n _ h.2 j (by omega)
theorem dig_le {a : Nat} : ∀ (n x : Nat), digL 256 a n x → x ≤ a * repD 1 256 n
  | 0, x, h => by
    have : x = 0 := h
    subst this; simp
  | n + 1, x, h => by
    have h1 := dig_le n _ h.2
    have h2 := h.1
    rw [repD, Nat.mul_add, Nat.mul_one, Nat.mul_left_comm]; omega
theorem rep4 : repD 1 256 8 = 72340172838076673 := by decide
/-- Eight bytes, each not too great, are summed up. -/
theorem byte_sum {x : Nat} (h : digL 256 8 8 x) :
    (x + x / 256 + (x + x / 256) / 65536 + (x + x / 256 + (x + x / 256) / 65536) / 4294967296) % 128 = dsum 256 8 x ∧ x < 723401728380766731 := by
  have hd := dig_dg 8 x h
  have he := dig_end 8 x h
  have y1 := dg_shift (a := 8) (k := 1) (by omega) (x := x)
  rw [show 256 ^ 1 = 256 by decide] at y1
  have y1 := fun i => y1 i hd
  generalize hy : x + x / 256 = y at *
  have hyd : ∀ j, dg j y ≤ 16 := fun j => by have := y1 j; have := hd j; have := hd (j + 1); omega
  have z1 := dg_shift (a := 16) (k := 2) (by omega) (x := y)
  rw [show 256 ^ 2 = 65536 by decide] at z1
  have z1 := fun i => z1 i hyd
  generalize hz : y + y / 65536 = z at *
  have hzd : ∀ j, dg j z ≤ 32 := fun j => by have := z1 j; have := hyd j; have := hyd (j + 2); omega
  have w1 := dg_shift (a := 32) (k := 4) (by omega) (x := z)
  rw [show 256 ^ 4 = 4294967296 by decide] at w1
  have w1 := w1 0 hzd
  generalize hw : z + z / 4294967296 = w at *
  have hs : dsum 256 8 x = dg 0 x + (dg 1 x + (dg 2 x + (dg 3 x + (dg 4 x + (dg 5 x + (dg 6 x + dg 7 x)))))) := by
    simp only [dsum, dg_succ]
    simp [dg]
  have h8 := he 8 (by omega)
  have b := fun i => hd i
  have b0 := hd 0
  have b1 := hd 1
  have b2 := hd 2
  have b3 := hd 3
  have b4 := hd 4
  have b5 := hd 5
  have b6 := hd 6
  have b7 := hd 7
  have z0 := z1 0
  have z4 := z1 4
  have q0 := y1 0
  have q2 := y1 2
  have q4 := y1 4
  have q6 := y1 6
  have e1 : dg 0 w = dsum 256 8 x := by
    rw [hs]
    simp only [Nat.zero_add, Nat.reduceAdd] at *
    omega
  have e2 : dg 0 w = w % 256 := by simp [dg]
  have hle := dig_le 8 x h
  rw [rep4] at hle
  refine ⟨?_, by omega⟩
  rw [← e1]
  have : dg 0 w ≤ 64 := by rw [e1, hs]; omega
  omega
theorem rep1 : repD 1 4 32 = 6148914691236517205 := by decide
theorem rep2 : repD 3 16 16 = 3689348814741910323 := by decide
theorem rep3 : repD 15 256 8 = 1085102592571150095 := by decide
theorem pop_ok (x : Nat) : ∃ a b c : Nat, ((x / 2) &&& 6148914691236517205) + (x &&& 6148914691236517205) = a ∧ ((a / 4) &&& 3689348814741910323) + (a &&& 3689348814741910323) = b ∧ ((b / 16 + b) &&& 1085102592571150095) = c ∧
    (c + c / 256 + (c + c / 256) / 65536 + (c + c / 256 + (c + c / 256) / 65536) / 4294967296) % 128 = popN 64 x ∧ c < 723401728380766731 ∧ b < 4919131752989213765 ∧ a < 12297829382473034411 := by
  have h1 := sw1_ok 32 x
  have h2 := sw2_ok 16 (sw1 32 x)
  have d1 := sw1_dig 32 x
  have d2 := sw2_dig 16 _ d1
  have h3 := sw3_ok 8 _ d2
  have d3 := sw3_dig 8 _ d2
  rw [rep1] at h1
  rw [rep2] at h2
  rw [rep3] at h3
  obtain ⟨h4, h5⟩ := byte_sum d3
  refine ⟨_, _, _, h1, h2, h3, ?_, h5, ?_, ?_⟩
  · rw [h4, sw3_sum 8 _ d2, sw2_sum 16, sw1_sum 32]
  · have q1 : (sw1 32 x / 4) &&& 3689348814741910323 ≤ 3689348814741910323 := Nat.and_le_right
    have key : ∀ n y, digL 16 4 n y → 3 * y ≤ 4 * repD 3 16 n := by
      intro n
      induction n with
      | zero => intro y h; have : y = 0 := h; subst this; simp
      | succ n ih =>
        intro y h
        have := ih _ h.2
        have := h.1
        rw [repD]; omega
    have := key 16 _ d2
    rw [rep2] at this; omega
  · have key : ∀ n y, digL 4 2 n y → y ≤ 2 * repD 1 4 n := by
      intro n
      induction n with
      | zero => intro y h; have : y = 0 := h; subst this; simp
      | succ n ih =>
        intro y h
        have := ih _ h.2
        have := h.1
        rw [repD]; omega
    have := key 32 _ d1
    rw [rep1] at this; omega
theorem binA_and127 {n : Nat} (h : n < 4611686018427387904) : binA .and (.d (.v (.int .i64 n))) (.d (.v (.int .i64 127))) = some (.d (di ((n % 128 : Nat) : Int))) := by
  have e1 : (BitVec.ofInt 64 (n : Int)).toNat = n := by rw [BitVec.toNat_ofInt]; omega
  have e2 : (BitVec.ofInt 64 127).toNat = 127 := by decide
  have e3 : (BitVec.ofInt 64 (n : Int) &&& BitVec.ofInt 64 127).toNat = n % 128 := by
    rw [BitVec.toNat_and, e1, e2]; exact Nat.and_two_pow_sub_one_eq_mod n 7
  have e4 : binI .and .i64 (n : Int) 127 = some (.int .i64 (IntKind.wrap .i64 ((BitVec.ofInt 64 (n : Int) &&& BitVec.ofInt 64 127).toNat : Nat))) := rfl
  simp only [binA, e4, BinOp.isShift, or_true, if_true, e3, Option.map_some]
  rw [wrap64 (by omega) (by omega)]
theorem nd2 (x : Nat) : (x : Int) / 2 = ((x / 2 : Nat) : Int) := by omega
theorem nd4 (x : Nat) : (x : Int) / 4 = ((x / 4 : Nat) : Int) := by omega
theorem nd16 (x : Nat) : (x : Int) / 16 = ((x / 16 : Nat) : Int) := by omega
theorem nd256 (x : Nat) : (x : Int) / 256 = ((x / 256 : Nat) : Int) := by omega
theorem nd65536 (x : Nat) : (x : Int) / 65536 = ((x / 65536 : Nat) : Int) := by omega
theorem nd32 (x : Nat) : (x : Int) / 4294967296 = ((x / 4294967296 : Nat) : Int) := by omega
theorem nadd (a b : Nat) : (a : Int) + (b : Int) = ((a + b : Nat) : Int) := by omega
theorem d_OnesCount64_64 (x : Nat) (hx : x < 18446744073709551616) : Den PA f_math_bits_OnesCount64 [.d (.v (.int .u64 x))] [.any] (.d (di (popN 64 x))) := by
  obtain ⟨a, b, c, h1, h2, h3, h4, h5, h6, h7⟩ := pop_ok x
  have h8 : b / 16 + b < 18446744073709551616 := by omega
  refine den_go [] l_math_bits_OnesCount64 ?_
  simp -implicitDefEqProofs (maxSteps := 1000000) (disch := (first | omega | (simp only [go_sem] <;> omega) | fail)) only [go_sem, ints, bools, mat, c_math_bits_OnesCount64, binA_shr_u, binA_and_u, binA_add_u, Int.reduceToNat, Int.reducePow, nd2, nd4, nd16, nd256, nd65536, nd32, nadd, h1, h2, h3, Int.toNat_natCast, binA_and127, h4]
/-- The number whose bits are told, the least first. -/
def mkL : List Bool → Nat
  | [] => 0
  | b :: r => (if b = true then 1 else 0) + 2 * mkL r
theorem mkL_lt : ∀ L : List Bool, mkL L < 2 ^ L.length
  | [] => by simp [mkL]
  | b :: r => by
    have := mkL_lt r
    rw [mkL, List.length_cons, Nat.pow_succ]
    cases b <;> simp <;> omega
theorem mkL_bit : ∀ (L : List Bool) (i : Nat), (mkL L).testBit i = L.getD i false
  | [], i => by simp [mkL]
  | b :: r, 0 => by
    rw [mkL, Nat.testBit_zero]
    cases b <;> simp <;> omega
  | b :: r, i + 1 => by
    have e : ((if b = true then 1 else 0) + 2 * mkL r) / 2 = mkL r := by cases b <;> simp <;> omega
    rw [mkL, Nat.testBit_succ, e, mkL_bit r i]; simp
theorem mkL_pop : ∀ (n : Nat) (L : List Bool), L.length ≤ n → popN n (mkL L) = (L.filter id).length
  | 0, L, h => by
    have : L = [] := List.eq_nil_of_length_eq_zero (by omega)
    subst this; rfl
  | n + 1, [], h => by
    have := mkL_pop n [] (by simp)
    rw [mkL] at this
    rw [mkL, popN]
    simpa using this
  | n + 1, b :: r, h => by
    have ih := mkL_pop n r (by simpa using h)
    have e : ((if b = true then 1 else 0) + 2 * mkL r) / 2 = mkL r := by cases b <;> simp <;> omega
    have e2 : ((if b = true then 1 else 0) + 2 * mkL r) % 2 = if b = true then 1 else 0 := by cases b <;> simp <;> omega
    rw [mkL, popN, e, e2, ih]
    cases b <;> simp; omega
/-- A set of words. -/
abbrev wsN (l X : List Int) : Nat := mkL (cvL l X)
theorem wsN_lt {l : List Int} (h27 : prodM l ≤ 27) (X : List Int) : wsN l X < 134217728 := by
  have h1 := mkL_lt (cvL l X)
  rw [cvL_len] at h1
  have h2 : 2 ^ (prodM l).toNat ≤ 2 ^ 27 := Nat.pow_le_pow_right (by omega) (by omega)
  have h3 : (2 : Nat) ^ 27 = 134217728 := by decide
  show mkL (cvL l X) < 134217728
  omega
theorem wsN_bit (l X : List Int) (i : Nat) : (wsN l X).testBit i = decide (i < (prodM l).toNat ∧ (i : Int) ∈ X) := by
  rw [mkL_bit]
  by_cases h : i < (prodM l).toNat
  · rw [cvL_get l X h]; simp [h]
  · rw [List.getD_eq_getElem?_getD, List.getElem?_eq_none (by rw [cvL_len]; omega)]; simp [h]
theorem wsN_or (l X Y : List Int) : wsN l X ||| wsN l Y = wsN l (X ++ Y) := by
  apply Nat.eq_of_testBit_eq
  intro i
  rw [Nat.testBit_or, wsN_bit, wsN_bit, wsN_bit, Bool.eq_iff_iff]
  simp only [Bool.or_eq_true, decide_eq_true_eq, List.mem_append]
  exact ⟨fun h => h.elim (fun h => ⟨h.1, .inl h.2⟩) fun h => ⟨h.1, .inr h.2⟩, fun h => h.2.elim (fun q => .inl ⟨h.1, q⟩) fun q => .inr ⟨h.1, q⟩⟩
theorem wsN_one {l : List Int} {u : Int} (hu : 0 ≤ u ∧ u < prodM l) : 2 ^ u.toNat = wsN l [u] := by
  apply Nat.eq_of_testBit_eq
  intro i
  rw [wsN_bit, Nat.testBit_two_pow, Bool.eq_iff_iff, decide_eq_true_eq, decide_eq_true_eq, List.mem_singleton]
  omega
theorem wsN_nil (l : List Int) : wsN l [] = 0 := by
  apply Nat.eq_of_testBit_eq
  intro i
  rw [wsN_bit]; simp
theorem mkL_all : ∀ n, mkL (List.replicate n true) + 1 = 2 ^ n
  | 0 => rfl
  | n + 1 => by
    have := mkL_all n
    rw [List.replicate_succ, mkL, Nat.pow_succ, if_pos rfl]; omega
theorem wsN_all (l : List Int) : wsN l (allW l) + 1 = 2 ^ (prodM l).toNat := by
  have e : List.replicate (prodM l).toNat true = cvL l (allW l) := cvL_eq (by rw [List.length_replicate]) fun i hi => by
    rw [List.getD_eq_getElem?_getD, List.getElem?_replicate, if_pos hi, Option.getD_some]
    symm; rw [decide_eq_true_eq, allW_mem]; omega
  rw [← mkL_all, e]
theorem wsN_eq {l X Y : List Int} (h : ∀ u : Int, 0 ≤ u → u < prodM l → (u ∈ X ↔ u ∈ Y)) : wsN l X = wsN l Y := by
  unfold wsN; rw [cvL_congr h]
theorem wsN_inj {l X Y : List Int} (h : wsN l X = wsN l Y) : ∀ u : Int, 0 ≤ u → u < prodM l → (u ∈ X ↔ u ∈ Y) := fun u h0 h1 => by
  have e : (wsN l X).testBit u.toNat = (wsN l Y).testBit u.toNat := by rw [h]
  rw [wsN_bit, wsN_bit] at e
  have h2 : u.toNat < (prodM l).toNat := by omega
  simpa [h2, Int.toNat_of_nonneg h0] using e
theorem wsN_full (l X : List Int) : (wsN l X = wsN l (allW l)) ↔ opn l X = none := by
  constructor
  · intro h
    cases ho : opn l X with
    | none => rfl
    | some o =>
      obtain ⟨h1, h2, _⟩ := opn_some ho
      exact absurd ((wsN_inj h o h1.1 h1.2).2 ((allW_mem l o).2 (by omega))) h2
  · intro h
    exact wsN_eq fun u h0 h1 => ⟨fun _ => (allW_mem l u).2 (by omega), fun _ => opn_none h u h0 h1⟩
/-- The words that are not in a set. -/
def cmpX (l X : List Int) : List Int := (allW l).filter fun u => !decide (u ∈ X)
theorem wsN_pop {l : List Int} (h27 : prodM l ≤ 27) (X : List Int) : popN 64 (wsN l (cmpX l X)) = muX l X := by
  rw [mkL_pop 64 _ (by rw [cvL_len]; omega), cvL, List.filter_map, List.length_map]
  unfold muX cmpX
  congr 1
  apply List.filter_congr
  intro u hu
  simp only [Function.comp, id_eq, List.mem_filter, hu, true_and]
  cases decide (u ∈ X) <;> rfl
theorem binA_or_u {a b : Int} (h : 0 ≤ a) (h1 : a < 18446744073709551616) (h2 : 0 ≤ b) (h3 : b < 18446744073709551616) :
    binA .or (.d (.v (.int .u64 a))) (.d (.v (.int .u64 b))) = some (.d (.v (.int .u64 ((a.toNat ||| b.toNat : Nat) : Int)))) := by
  have e : (BitVec.ofInt 64 a ||| BitVec.ofInt 64 b).toNat = a.toNat ||| b.toNat := by rw [BitVec.toNat_or, ofInt_nat_u h h1, ofInt_nat_u h2 h3]
  have hl : a.toNat ||| b.toNat < 18446744073709551616 := by
    have := @Nat.or_lt_two_pow a.toNat b.toNat 64 (by omega) (by omega)
    omega
  have e2 : binI .or .u64 a b = some (.int .u64 (IntKind.wrap .u64 ((BitVec.ofInt 64 a ||| BitVec.ofInt 64 b).toNat : Nat))) := rfl
  simp only [binA, e2, BinOp.isShift, or_true, if_true, e, Option.map_some, wrap_u64 (x := ((a.toNat ||| b.toNat : Nat) : Int)) (by omega) (by omega)]
theorem wsN_not {l : List Int} (h27 : prodM l ≤ 27) (X : List Int) : (BitVec.ofInt 64 (wsN l (allW l) : Int) &&& ~~~BitVec.ofInt 64 (wsN l X : Int)).toNat = wsN l (cmpX l X) := by
  apply Nat.eq_of_testBit_eq
  intro i
  have e1 : (BitVec.ofInt 64 (wsN l (allW l) : Int)).toNat = wsN l (allW l) := by
    have := wsN_lt h27 (allW l)
    rw [ofInt_nat_u (by omega) (by omega)]; simp
  have e2 : (BitVec.ofInt 64 (wsN l X : Int)).toNat = wsN l X := by
    have := wsN_lt h27 X
    rw [ofInt_nat_u (by omega) (by omega)]; simp
  rw [BitVec.testBit_toNat, BitVec.getLsbD_and, BitVec.getLsbD_not, ← BitVec.testBit_toNat, ← BitVec.testBit_toNat, e1, e2, wsN_bit, wsN_bit, wsN_bit, Bool.eq_iff_iff]
  unfold cmpX
  simp only [Bool.and_eq_true, decide_eq_true_eq, Bool.not_eq_true', decide_eq_false_iff_not, List.mem_filter, allW_mem]
  constructor
  · rintro ⟨⟨h1, h2⟩, h3, h4⟩
    exact ⟨h1, h2, fun h => h4 ⟨h1, h⟩⟩
  · rintro ⟨h1, h2, h3⟩
    exact ⟨⟨h1, h2⟩, by omega, fun h => h3 h.2⟩
theorem binA_not_u {l : List Int} (h27 : prodM l ≤ 27) (X : List Int) : binA .andNot (.d (.v (.int .u64 (wsN l (allW l) : Int)))) (.d (.v (.int .u64 (wsN l X : Int)))) = some (.d (.v (.int .u64 (wsN l (cmpX l X) : Int)))) := by
  have hl := wsN_lt h27 (cmpX l X)
  have e2 : binI .andNot .u64 (wsN l (allW l) : Int) (wsN l X : Int) = some (.int .u64 (IntKind.wrap .u64 ((BitVec.ofInt 64 (wsN l (allW l) : Int) &&& ~~~BitVec.ofInt 64 (wsN l X : Int)).toNat : Nat))) := rfl
  simp only [binA, e2, BinOp.isShift, or_true, if_true, wsN_not h27 X, Option.map_some]
  rw [wrap_u64 (by omega) (by omega)]
theorem binA_shl_u {k : IntKind} {b : Int} (h : 0 ≤ b) (h' : b ≤ 62) : binA .shl (.d (.v (.int .u64 1))) (.d (.v (.int k b))) = some (.d (.v (.int .u64 ((2 ^ b.toNat : Nat) : Int)))) := by
  have e : min b.toNat 64 = b.toNat := by omega
  have h1 : (2 : Nat) ^ b.toNat ≤ 2 ^ 62 := Nat.pow_le_pow_right (by omega) (by omega)
  have h2 : (2 : Nat) ^ 62 = 4611686018427387904 := by decide
  have h3 : (2 : Int) ^ b.toNat = ((2 ^ b.toNat : Nat) : Int) := by rw [Int.natCast_pow]; rfl
  have e2 : binI .shl .u64 1 b = some (.int .u64 (IntKind.wrap .u64 (1 * 2 ^ min b.toNat 64))) := by
    simp only [binI, if_neg (show ¬ b < 0 by omega)]; rfl
  simp only [binA, e2, BinOp.isShift, true_or, if_true, e, Option.map_some, Int.one_mul]
  rw [h3]
  rw [h2] at h1
  clear h3 e2 e
  generalize (2 : Nat) ^ b.toNat = n at *
  rw [wrap_u64 (x := (n : Int)) (by omega) (by omega)]
theorem or_b (l X Y : List Int) (h27 : prodM l ≤ 27) : binA .or (.d (.v (.int .u64 (wsN l X : Int)))) (.d (.v (.int .u64 (wsN l Y : Int)))) = some (.d (.v (.int .u64 (wsN l (X ++ Y) : Int)))) := by
  have h1 := wsN_lt h27 X
  have h2 := wsN_lt h27 Y
  rw [binA_or_u (by omega) (by omega) (by omega) (by omega), Int.toNat_natCast, Int.toNat_natCast, wsN_or]
def duN (n : Nat) : D := .v (.int .u64 n)
@[go_sem] theorem flat_du (l : List Nat) : flat (l.map duN) = l.map duN := flat_one _ l
@[go_sem] theorem getU {l : List Nat} {j : Nat} (h : j < l.length) : (l.map duN)[j]? = some (duN (l.getD j 0)) := by simp [h]
@[go_sem] theorem app_du1 (l : List Nat) (v : Nat) : l.map duN ++ [D.v (.int .u64 (v : Int))] = (l ++ [v]).map duN := by rw [List.map_append]; rfl
@[go_sem] theorem take_du (l : List Nat) (n : Nat) : (l.map duN).take n = (l.take n).map duN := by rw [List.map_take]
@[go_sem] theorem duN_v (n : Nat) : duN n = .v (.int .u64 n) := rfl
@[go_sem] theorem lf_own_du (z : Nat) (l : List Nat) : lfR (.own z (l.map duN)) = true := by simp [lfR, lfD, duN]
@[go_sem] theorem all_lf_du (l : List Nat) : (l.map duN).all lfD = true := by simp [lfD, duN]
def nearB (l : List Int) (r : Int) : List Nat := (allW l).map fun w => wsN l (ballM l w r)
@[go_sem] theorem nearB_len (l : List Int) (r : Int) : (nearB l r).length = (prodM l).toNat := by simp [nearB, allW_len]
theorem nearB_get {l : List Int} (r : Int) {w : Int} (h : 0 ≤ w ∧ w < prodM l) : (nearB l r).getD w.toNat 0 = wsN l (ballM l w r) := by
  have h2 : w.toNat < (allW l).length := by rw [allW_len]; omega
  have e := allW_get l (i := w.toNat) (by omega)
  rw [List.getD_eq_getElem?_getD, List.getElem?_eq_getElem h2, Option.getD_some] at e
  simp [nearB, h2, e, Int.toNat_of_nonneg h.1]
theorem nearB_take (l : List Int) (r : Int) {j : Nat} (h : j < (prodM l).toNat) : (nearB l r).take (j + 1) = (nearB l r).take j ++ [wsN l (ballM l j r)] := by
  have e := nearB_get (l := l) r (w := (j : Int)) (by omega)
  rw [Int.toNat_natCast] at e
  have h2 : j < (nearB l r).length := by rw [nearB_len]; exact h
  rw [List.take_add_one, List.getElem?_eq_getElem h2]
  rw [List.getD_eq_getElem?_getD, List.getElem?_eq_getElem h2, Option.getD_some] at e
  rw [e]; rfl
theorem d_impl_nearSets (l : List Int) (hs : isSpaceM l = true) (h27 : prodM l ≤ 27) (r : Int) : Den PA f_impl_nearSets [.d (.agg [ints l]), .d (di r)] [.any, .any] (.own 1 ((nearB l r).map duN)) := by
  have hp1 := prodM_pos (isSpaceM_szs hs)
  refine den_go [] l_impl_nearSets ?_
  repeat' (first | simp -implicitDefEqProofs (maxSteps := 1000000) (disch := (first | omega | (simp only [go_sem] <;> omega) | fail)) only [go_sem, ints, bools, mat, c_impl_nearSets] | ((first | refine goIf_b (fun h => ?_) (fun h => ?_) | refine goG_b (fun h => ?_) (fun h => ?_) | refine goTG_b (fun h => ?_) (fun h => ?_) | refine goOG_b (fun h => ?_) (fun h => ?_)) <;> ((try simp only [Bool.not_eq_true', Bool.not_eq_false'] at h); (try simp only [h]); (try simp only [decide_eq_true_eq, decide_eq_false_iff_not, bne_iff_ne, bne_eq_false_iff_eq, beq_iff_eq, beq_eq_false_iff_ne, ne_eq, Int.not_lt, Int.not_le, Bool.and_eq_true, Bool.and_eq_false_iff, Bool.or_eq_true, Bool.or_eq_false_iff] at h)) <;> (try (exfalso; omega))))
  first | refine goC_call [.r] (d_impl_count l hs) ?_ | refine goOC_call [.r] (d_impl_count l hs) ?_
  repeat' (first | simp -implicitDefEqProofs (maxSteps := 1000000) (disch := (first | omega | (simp only [go_sem] <;> omega) | fail)) only [go_sem, ints, bools, mat] | ((first | refine goIf_b (fun h => ?_) (fun h => ?_) | refine goG_b (fun h => ?_) (fun h => ?_) | refine goTG_b (fun h => ?_) (fun h => ?_) | refine goOG_b (fun h => ?_) (fun h => ?_)) <;> ((try simp only [Bool.not_eq_true', Bool.not_eq_false'] at h); (try simp only [h]); (try simp only [decide_eq_true_eq, decide_eq_false_iff_not, bne_iff_ne, bne_eq_false_iff_eq, beq_iff_eq, beq_eq_false_iff_ne, ne_eq, Int.not_lt, Int.not_le, Bool.and_eq_true, Bool.and_eq_false_iff, Bool.or_eq_true, Bool.or_eq_false_iff] at h)) <;> (try (exfalso; omega))))
  refine go_loop (fun (j : Nat) => ⟨[(1, .d (di r)), (2, .ref 0 0), (5, .sl 1 0 j 1), (12, .d (di (prodM l))), (13, .d (di j))], [some (.var [ints l]), some (.dat 1 (((nearB l r).take j).map duN))]⟩) (fun j => j ≤ (prodM l).toNat) (fun j => (prodM l).toNat - j) 0 ?_ ?_ ?_
  · simp -implicitDefEqProofs (maxSteps := 1000000) (disch := (first | omega | (simp only [go_sem] <;> omega) | fail)) only [go_sem, ints, bools, mat]
  · exact Nat.zero_le _
  · intro j hj J hJ
    by_cases hjl : j < (prodM l).toNat
    · have hB := ball_in l j r
      have hBl : (ballM l j r).length ≤ (prodM l).toNat := by unfold ballM; exact filter_len_le _ _ _ (by rw [allW_len]; exact Nat.le_refl _)
      have e := nearB_take l r hjl
      repeat' (first | simp -implicitDefEqProofs (maxSteps := 1000000) (disch := (first | omega | (simp only [go_sem] <;> omega) | fail)) only [go_sem, ints, bools, mat] | ((first | refine goIf_b (fun h => ?_) (fun h => ?_) | refine goG_b (fun h => ?_) (fun h => ?_) | refine goTG_b (fun h => ?_) (fun h => ?_) | refine goOG_b (fun h => ?_) (fun h => ?_)) <;> ((try simp only [Bool.not_eq_true', Bool.not_eq_false'] at h); (try simp only [h]); (try simp only [decide_eq_true_eq, decide_eq_false_iff_not, bne_iff_ne, bne_eq_false_iff_eq, beq_iff_eq, beq_eq_false_iff_ne, ne_eq, Int.not_lt, Int.not_le, Bool.and_eq_true, Bool.and_eq_false_iff, Bool.or_eq_true, Bool.or_eq_false_iff] at h)) <;> (try (exfalso; omega))))
      first | refine goC_call [.r, .r, .r] (d_impl_ball l hs j r (by omega) (by omega)) ?_ | refine goOC_call [.r, .r, .r] (d_impl_ball l hs j r (by omega) (by omega)) ?_
      generalize ballM l j r = B at *
      repeat' (first | simp -implicitDefEqProofs (maxSteps := 1000000) (disch := (first | omega | (simp only [go_sem] <;> omega) | fail)) only [go_sem, ints, bools, mat] | ((first | refine goIf_b (fun h => ?_) (fun h => ?_) | refine goG_b (fun h => ?_) (fun h => ?_) | refine goTG_b (fun h => ?_) (fun h => ?_) | refine goOG_b (fun h => ?_) (fun h => ?_)) <;> ((try simp only [Bool.not_eq_true', Bool.not_eq_false'] at h); (try simp only [h]); (try simp only [decide_eq_true_eq, decide_eq_false_iff_not, bne_iff_ne, bne_eq_false_iff_eq, beq_iff_eq, beq_eq_false_iff_ne, ne_eq, Int.not_lt, Int.not_le, Bool.and_eq_true, Bool.and_eq_false_iff, Bool.or_eq_true, Bool.or_eq_false_iff] at h)) <;> (try (exfalso; omega))))
      refine go_loop (fun (k : Nat) => ⟨[(1, .d (di r)), (2, .ref 0 0), (5, .sl 1 0 j 1), (7, .d (.v (.int .u64 (wsN l (B.take k) : Int)))), (12, .d (di (prodM l))), (13, .d (di j)), (19, .sl 2 0 B.length 1), (20, .d (di B.length)), (21, .d (di k))], [some (.var [ints l]), some (.dat 1 (((nearB l r).take j).map duN)), some (.dat 1 (B.map di))]⟩) (fun k => k ≤ B.length) (fun k => B.length - k) 0 ?_ ?_ ?_
      · simp -implicitDefEqProofs (maxSteps := 1000000) (disch := (first | omega | (simp only [go_sem] <;> omega) | fail)) only [go_sem, ints, bools, mat, List.take_zero, wsN_nil]
      · exact Nat.zero_le _
      · intro k hk J2 hJ2
        by_cases hkl : k < B.length
        · have hub := inC_get hB k hkl
          have e1 := wsN_one (l := l) hub
          have e2 := take_one B hkl
          have e3 := or_b l (B.take k) [B.getD k 0] h27
          rw [← e2] at e3
          repeat' (first | simp -implicitDefEqProofs (maxSteps := 1000000) (disch := (first | omega | (simp only [go_sem] <;> omega) | fail)) only [go_sem, ints, bools, mat, binA_shl_u, e1, e3] | ((first | refine goIf_b (fun h => ?_) (fun h => ?_) | refine goG_b (fun h => ?_) (fun h => ?_) | refine goTG_b (fun h => ?_) (fun h => ?_) | refine goOG_b (fun h => ?_) (fun h => ?_)) <;> ((try simp only [Bool.not_eq_true', Bool.not_eq_false'] at h); (try simp only [h]); (try simp only [decide_eq_true_eq, decide_eq_false_iff_not, bne_iff_ne, bne_eq_false_iff_eq, beq_iff_eq, beq_eq_false_iff_ne, ne_eq, Int.not_lt, Int.not_le, Bool.and_eq_true, Bool.and_eq_false_iff, Bool.or_eq_true, Bool.or_eq_false_iff] at h)) <;> (try (exfalso; omega))))
          refine hJ2 (k + 1) (by omega) (by omega) _ ?_
          simp -implicitDefEqProofs (maxSteps := 1000000) (disch := (first | omega | (simp only [go_sem] <;> omega) | fail)) only [go_sem, ints, bools, mat]
          rfl
        · have hke : k = B.length := by omega
          subst hke
          repeat' (first | simp -implicitDefEqProofs (maxSteps := 1000000) (disch := (first | omega | (simp only [go_sem] <;> omega) | fail)) only [go_sem, ints, bools, mat, List.take_length] | ((first | refine goIf_b (fun h => ?_) (fun h => ?_) | refine goG_b (fun h => ?_) (fun h => ?_) | refine goTG_b (fun h => ?_) (fun h => ?_) | refine goOG_b (fun h => ?_) (fun h => ?_)) <;> ((try simp only [Bool.not_eq_true', Bool.not_eq_false'] at h); (try simp only [h]); (try simp only [decide_eq_true_eq, decide_eq_false_iff_not, bne_iff_ne, bne_eq_false_iff_eq, beq_iff_eq, beq_eq_false_iff_ne, ne_eq, Int.not_lt, Int.not_le, Bool.and_eq_true, Bool.and_eq_false_iff, Bool.or_eq_true, Bool.or_eq_false_iff] at h)) <;> (try (exfalso; omega))))
          refine hJ (j + 1) (by omega) (by omega) _ ?_
          simp -implicitDefEqProofs (maxSteps := 1000000) (disch := (first | omega | (simp only [go_sem] <;> omega) | fail)) only [go_sem, ints, bools, mat, e]
          rfl
    · have hje : j = (prodM l).toNat := by omega
      subst hje
      have el : (nearB l r).take (prodM l).toNat = nearB l r := by rw [← nearB_len l r, List.take_length]
      repeat' (first | simp -implicitDefEqProofs (maxSteps := 1000000) (disch := (first | omega | (simp only [go_sem] <;> omega) | fail)) only [go_sem, ints, bools, mat, el] | ((first | refine goIf_b (fun h => ?_) (fun h => ?_) | refine goG_b (fun h => ?_) (fun h => ?_) | refine goTG_b (fun h => ?_) (fun h => ?_) | refine goOG_b (fun h => ?_) (fun h => ?_)) <;> ((try simp only [Bool.not_eq_true', Bool.not_eq_false'] at h); (try simp only [h]); (try simp only [decide_eq_true_eq, decide_eq_false_iff_not, bne_iff_ne, bne_eq_false_iff_eq, beq_iff_eq, beq_eq_false_iff_ne, ne_eq, Int.not_lt, Int.not_le, Bool.and_eq_true, Bool.and_eq_false_iff, Bool.or_eq_true, Bool.or_eq_false_iff] at h)) <;> (try (exfalso; omega))))
/-- The first of some tries that comes to something, with its number ahead of it. -/
def nvC (f : Nat) (a b : Option (List Int)) : Option (List Int) :=
  match a with
  | some L => some ((f : Int) :: L)
  | none => b
def nvF (g : Nat → Option (List Int)) : Nat → Nat → Option (List Int)
  | 0, _ => none
  | m + 1, f => nvC f (g f) (nvF g m (f + 1))
theorem nvF_some {g : Nat → Option (List Int)} : ∀ {m f : Nat} {L : List Int}, nvF g m f = some L → ∃ w L', f ≤ w ∧ w < f + m ∧ g w = some L' ∧ L = (w : Int) :: L'
  | 0, f, L, h => by cases h
  | m + 1, f, L, h => by
    rw [nvF] at h
    cases hg : g f with
    | some L' =>
      rw [hg] at h
      have h : some ((f : Int) :: L') = some L := h
      injection h with h
      exact ⟨f, L', Nat.le_refl _, by omega, hg, h.symm⟩
    | none =>
      rw [hg] at h
      have h : nvF g m (f + 1) = some L := h
      obtain ⟨w, L', h1, h2, h3, h4⟩ := nvF_some h
      exact ⟨w, L', by omega, by omega, h3, h4⟩
theorem nvF_ne {g : Nat → Option (List Int)} : ∀ {m f w : Nat}, f ≤ w → w < f + m → g w ≠ none → nvF g m f ≠ none
  | 0, f, w, h1, h2, _ => by omega
  | m + 1, f, w, h1, h2, h3 => by
    rw [nvF]
    cases hg : g f with
    | some L' => intro h; cases h
    | none =>
      show nvF g m (f + 1) ≠ none
      have : w ≠ f := fun e => h3 (e ▸ hg)
      exact nvF_ne (by omega) (by omega) h3
theorem nvF_congr {g g' : Nat → Option (List Int)} : ∀ {m f : Nat}, (∀ w, f ≤ w → w < f + m → g w = g' w) → nvF g m f = nvF g' m f
  | 0, _, _ => rfl
  | m + 1, f, h => by rw [nvF, nvF, h f (Nat.le_refl _) (by omega), nvF_congr fun w h1 h2 => h w (by omega) (by omega)]
theorem nvF_none {g : Nat → Option (List Int)} {m f : Nat} (h : ∀ w, f ≤ w → w < f + m → g w = none) : nvF g m f = none := by
  cases hx : nvF g m f with
  | none => rfl
  | some L =>
    obtain ⟨w, L', h1, h2, h3, _⟩ := nvF_some hx
    rw [h w h1 h2] at h3; cases h3
theorem nvF_cut {g : Nat → Option (List Int)} : ∀ {m m' f : Nat}, m ≤ m' → (∀ w, f + m ≤ w → w < f + m' → g w = none) → nvF g m' f = nvF g m f
  | 0, m', f, _, h => by rw [nvF]; exact nvF_none fun w h1 h2 => h w (by omega) h2
  | m + 1, 0, f, h1, _ => by omega
  | m + 1, m' + 1, f, h1, h => by rw [nvF, nvF, nvF_cut (m := m) (m' := m') (by omega) fun w h2 h3 => h w (by omega) (by omega)]
/-- The first cover with so many words more, from a word on. -/
def nvZ : Option Int → Option (List Int)
  | none => some []
  | some _ => none
def nv (l : List Int) (r : Int) : Nat → Nat → List Int → Option (List Int)
  | 0, _, X => nvZ (opn l X)
  | k + 1, f, X => nvF (fun w => nv l r k (w + 1) (X ++ ballM l w r)) ((prodM l).toNat - f) f
def Cov (l : List Int) (r : Int) (X L : List Int) : Prop := ∀ u, 0 ≤ u → u < prodM l → u ∈ X ∨ ∃ w, w ∈ L ∧ u ∈ ballM l w r
structure AscF (l : List Int) (f : Nat) (L : List Int) : Prop where
  asc : L.Pairwise (· < ·)
  bnd : ∀ w, w ∈ L → (f : Int) ≤ w ∧ w < prodM l
theorem AscF_nil (l : List Int) (f : Nat) : AscF l f [] := ⟨List.Pairwise.nil, fun w hw => by cases hw⟩
theorem AscF_cons {l : List Int} {f w : Nat} {L : List Int} (hf : f ≤ w) (hw : (w : Int) < prodM l) (h : AscF l (w + 1) L) : AscF l f ((w : Int) :: L) := by
  refine ⟨List.pairwise_cons.2 ⟨fun u hu => ?_, h.asc⟩, fun u hu => ?_⟩
  · have := (h.bnd u hu).1; omega
  · rcases List.mem_cons.1 hu with rfl | hu
    · omega
    · have := h.bnd u hu; omega
theorem Cov_cons {l : List Int} {r : Int} {X L : List Int} {w : Int} : Cov l r (X ++ ballM l w r) L ↔ Cov l r X (w :: L) := by
  constructor
  · intro h u h0 h1
    rcases h u h0 h1 with q | ⟨v, hv, hu⟩
    · rcases List.mem_append.1 q with q | q
      · exact .inl q
      · exact .inr ⟨w, List.mem_cons_self, q⟩
    · exact .inr ⟨v, List.mem_cons_of_mem _ hv, hu⟩
  · intro h u h0 h1
    rcases h u h0 h1 with q | ⟨v, hv, hu⟩
    · exact .inl (List.mem_append_left _ q)
    · rcases List.mem_cons.1 hv with rfl | hv
      · exact .inl (List.mem_append_right _ hu)
      · exact .inr ⟨v, hv, hu⟩
theorem Cov_nil {l : List Int} {r : Int} {X : List Int} : Cov l r X [] ↔ opn l X = none := by
  constructor
  · intro h
    cases ho : opn l X with
    | none => rfl
    | some o =>
      obtain ⟨h1, h2, _⟩ := opn_some ho
      rcases h o h1.1 h1.2 with q | ⟨v, hv, _⟩
      · exact absurd q h2
      · cases hv
  · intro h u h0 h1
    exact .inl (opn_none h u h0 h1)
theorem nv_sound {l : List Int} {r : Int} : ∀ {k f : Nat} {X L : List Int}, nv l r k f X = some L → L.length = k ∧ AscF l f L ∧ Cov l r X L
  | 0, f, X, L, h => by
    rw [nv] at h
    cases ho : opn l X with
    | none =>
      rw [ho] at h
      have h : some [] = some L := h
      injection h with h
      subst h
      exact ⟨rfl, AscF_nil l f, Cov_nil.2 ho⟩
    | some o => rw [ho] at h; cases h
  | k + 1, f, X, L, h => by
    rw [nv] at h
    obtain ⟨w, L', h1, h2, h3, rfl⟩ := nvF_some h
    obtain ⟨i1, i2, i3⟩ := nv_sound h3
    exact ⟨by rw [List.length_cons, i1], AscF_cons h1 (by omega) i2, Cov_cons.1 i3⟩
theorem nv_compl {l : List Int} {r : Int} : ∀ {L X : List Int} {f : Nat}, AscF l f L → Cov l r X L → nv l r L.length f X ≠ none
  | [], X, f, _, hc => by
    rw [List.length_nil, nv, Cov_nil.1 hc]; intro h; cases h
  | w :: L, X, f, ha, hc => by
    have hw := ha.bnd w List.mem_cons_self
    have h2 := List.pairwise_cons.1 ha.asc
    rw [List.length_cons, nv]
    refine nvF_ne (w := w.toNat) (by omega) (by omega) ?_
    rw [Int.toNat_of_nonneg (by omega)]
    refine nv_compl ⟨h2.2, fun u hu => ?_⟩ (Cov_cons.2 hc)
    have := h2.1 u hu
    have := ha.bnd u (List.mem_cons_of_mem _ hu)
    omega
theorem muX_cov {l : List Int} {r : Int} (hs : isSpaceM l = true) (hr : 0 ≤ r) : ∀ (L : List Int) {X : List Int}, Cov l r X L → (muX l X : Int) ≤ L.length * bzM l r
  | [], X, h => by rw [opn_mu (Cov_nil.1 h)]; simp
  | w :: L, X, h => by
    have ih := muX_cov hs hr L (Cov_cons.2 h)
    have hb := ball_len hs w hr
    have key : ∀ A : List Int, (A.filter fun u => !decide (u ∈ X)).length ≤ (A.filter fun u => !decide (u ∈ X ++ ballM l w r)).length + (A.filter fun u => decide (u ∈ ballM l w r)).length := by
      intro A
      induction A with
      | nil => simp
      | cons x A ih =>
        rw [List.filter_cons, List.filter_cons, List.filter_cons]
        by_cases h1 : x ∈ X
        · rw [if_neg (by simp [h1]), if_neg (by simp [h1])]
          split
          · rw [List.length_cons]; omega
          · exact ih
        · by_cases h2 : x ∈ ballM l w r
          · rw [if_pos (by simp [h1]), if_neg (by simp [h2]), if_pos (by simp [h2])]
            simp only [List.length_cons]; omega
          · rw [if_pos (by simp [h1]), if_pos (by simp [h1, h2]), if_neg (by simp [h2])]
            simp only [List.length_cons]; omega
    have h1 := key (allW l)
    have h2 : ((allW l).filter fun u => decide (u ∈ ballM l w r)).length = (ballM l w r).length := by
      apply List.Perm.length_eq
      apply (List.perm_ext_iff_of_nodup ((allW_nodup l).filter _) (ballM_nodup l w r)).2
      intro u
      rw [List.mem_filter, allW_mem, decide_eq_true_eq]
      exact ⟨fun h => h.2, fun h => ⟨by have := ball_in l w r u h; omega, h⟩⟩
    unfold muX at ih ⊢
    rw [List.length_cons, Int.natCast_add, Int.add_mul]
    simp only [Int.natCast_one, Int.one_mul]
    omega
theorem nv_many {l : List Int} {r : Int} (hs : isSpaceM l = true) (hr : 0 ≤ r) {k f : Nat} {X : List Int} (h : (k : Int) * bzM l r < muX l X) : nv l r k f X = none := by
  cases hx : nv l r k f X with
  | none => rfl
  | some L =>
    obtain ⟨h1, _, h3⟩ := nv_sound hx
    have := muX_cov hs hr L h3
    rw [h1] at this; omega
def srZ (l : List Int) (r : Int) (k : Nat) (X : List Int) (F : Option (List Int)) : Option Int → Option (List Int)
  | none => none
  | some _ => if ((k + 1 : Nat) : Int) * bzM l r < muX l X then none else F
def sr (l : List Int) (r : Int) : Nat → Nat → List Int → Option (List Int)
  | 0, _, X => nvZ (opn l X)
  | k + 1, f, X => srZ l r k X (nvF (fun w => sr l r k (w + 1) (X ++ ballM l w r)) ((prodM l).toNat - f) f) (opn l X)
theorem sr_nv {l : List Int} {r : Int} (hs : isSpaceM l = true) (hr : 0 ≤ r) : ∀ {k f : Nat} {X : List Int}, (∀ L, AscF l f L → L.length < k → ¬ Cov l r X L) → sr l r k f X = nv l r k f X
  | 0, f, X, _ => rfl
  | k + 1, f, X, hm => by
    rw [sr]
    cases ho : opn l X with
    | none => exact absurd (Cov_nil.2 ho) (hm [] (AscF_nil l f) (by simp))
    | some o =>
      rw [srZ]
      split
      · rename_i h; exact (nv_many hs hr h).symm
      · rw [nv]
        refine nvF_congr fun w h1 h2 => sr_nv hs hr fun L hL hk hc => ?_
        exact hm ((w : Int) :: L) (AscF_cons h1 (by omega) hL) (by simpa using hk) (Cov_cons.1 hc)
theorem sr_top {l : List Int} {r : Int} (hs : isSpaceM l = true) (hr : 0 ≤ r) {k : Nat} (h : ∀ j, j < k → nv l r j 0 [] = none) : sr l r k 0 [] = nv l r k 0 [] :=
  sr_nv hs hr fun L hL hk hc => nv_compl hL hc (h _ hk)
/-- Behind which word none can be next. -/
def lastO (l : List Int) (r : Int) : Option Int → Int
  | none => prodM l - 1
  | some o => (ballM l o r).getD ((ballM l o r).length - 1) 0
theorem nv_last {l : List Int} {r : Int} (hs : isSpaceM l = true) (hr : 0 ≤ r) {k f w : Nat} {X : List Int} {o : Int} (ho : opn l X = some o) (hw : lastO l r (some o) < w) (hw2 : (w : Int) < prodM l) : nv l r k (w + 1) (X ++ ballM l w r) = none := by
  cases hx : nv l r k (w + 1) (X ++ ballM l w r) with
  | none => rfl
  | some L =>
    exfalso
    obtain ⟨_, h2, h3⟩ := nv_sound hx
    obtain ⟨hb, hoX, _⟩ := opn_some ho
    have hmax : ∀ v, v ∈ ballM l o r → v ≤ lastO l r (some o) := fun v hv => by
      obtain ⟨i, hi, rfl⟩ := List.mem_iff_getElem.1 hv
      have ha : (ballM l o r).Pairwise (· < ·) := (allW_asc l).filter _
      have e : lastO l r (some o) = (ballM l o r)[(ballM l o r).length - 1]'(by omega) := by
        rw [lastO, List.getD_eq_getElem?_getD, List.getElem?_eq_getElem (by omega), Option.getD_some]
      rw [e]
      rcases Nat.lt_or_ge i ((ballM l o r).length - 1) with q | q
      · have := List.pairwise_iff_getElem.1 ha i ((ballM l o r).length - 1) hi (by omega) q; omega
      · have : i = (ballM l o r).length - 1 := by omega
        subst this; exact Int.le_refl _
    have no : ∀ v : Int, (w : Int) ≤ v → 0 ≤ v → v < prodM l → o ∉ ballM l v r := fun v hv h0 h1 hm => by
      have := hmax v (ball_symm ⟨h0, h1⟩ hm); omega
    rcases Cov_cons.1 h3 o hb.1 hb.2 with q | ⟨v, hv, hu⟩
    · exact hoX q
    · rcases List.mem_cons.1 hv with rfl | hv
      · exact no w (Int.le_refl _) (by omega) hw2 hu
      · have := h2.bnd v hv
        exact no v (by omega) (by omega) this.2 hu
theorem lastO_bnd {l : List Int} {r : Int} (hs : isSpaceM l = true) (hr : 0 ≤ r) {X : List Int} : 0 ≤ lastO l r (opn l X) ∧ lastO l r (opn l X) < prodM l := by
  have hp1 := prodM_pos (isSpaceM_szs hs)
  cases ho : opn l X with
  | none => rw [lastO]; omega
  | some o =>
    obtain ⟨hb, _, _⟩ := opn_some ho
    have hl := List.length_pos_of_mem (ball_self hb hr)
    rw [lastO]
    exact inC_get (ball_in l o r) _ (by omega)
/-- The reference's search comes to the same. -/
theorem nv_cut {l : List Int} {r : Int} (hs : isSpaceM l = true) (hr : 0 ≤ r) {k f : Nat} {X : List Int} :
    nv l r (k + 1) f X = nvF (fun w => nv l r k (w + 1) (X ++ ballM l w r)) ((lastO l r (opn l X)).toNat + 1 - f) f := by
  have hlb := lastO_bnd hs hr (X := X)
  rw [nv]
  refine nvF_cut (by omega) fun w h1 h2 => ?_
  cases ho : opn l X with
  | none => rw [ho, lastO] at h1; rw [ho] at hlb; omega
  | some o =>
    rw [ho] at h1 hlb
    exact nv_last hs hr (f := 0) ho (by omega) (by omega)
theorem nv_all {l : List Int} {r : Int} (hr : 0 ≤ r) : nv l r (prodM l).toNat 0 [] ≠ none := by
  have h := nv_compl (l := l) (r := r) (L := allW l) (X := []) (f := 0) ⟨allW_asc l, fun w hw => by rw [allW_mem] at hw; omega⟩ (fun u h0 h1 => .inr ⟨u, (allW_mem l u).2 (by omega), ball_self ⟨h0, h1⟩ hr⟩)
  rwa [allW_len] at h
def fkC (a : Option (List Int)) (b : List Int) : List Int :=
  match a with
  | some L => L
  | none => b
def fk (l : List Int) (r : Int) : Nat → Nat → List Int
  | 0, _ => []
  | m + 1, k => fkC (nv l r k 0 []) (fk l r m (k + 1))
/-- The first code with the least number of words that covers. -/
def fcM (l : List Int) (r : Int) : List Int := fk l r (prodM l).toNat 1
theorem fk_ok {l : List Int} {r : Int} : ∀ {m k : Nat}, (∃ j, k ≤ j ∧ j < k + m ∧ nv l r j 0 [] ≠ none) → ∃ j, k ≤ j ∧ j < k + m ∧ nv l r j 0 [] = some (fk l r m k) ∧ ∀ i, k ≤ i → i < j → nv l r i 0 [] = none
  | 0, k, ⟨j, h1, h2, _⟩ => by omega
  | m + 1, k, ⟨j, h1, h2, h3⟩ => by
    rw [fk]
    cases hk : nv l r k 0 [] with
    | some L => exact ⟨k, Nat.le_refl _, by omega, hk, fun i a b => by omega⟩
    | none =>
      have : j ≠ k := fun e => h3 (e ▸ hk)
      obtain ⟨i, g1, g2, g3, g4⟩ := fk_ok (m := m) (k := k + 1) ⟨j, by omega, by omega, h3⟩
      refine ⟨i, by omega, by omega, g3, fun i' a b => ?_⟩
      by_cases e : i' = k
      · subst e; exact hk
      · exact g4 i' (by omega) b
theorem fcM_ok {l : List Int} {r : Int} (hs : isSpaceM l = true) (hr : 0 ≤ r) : ∃ k, 1 ≤ k ∧ k ≤ (prodM l).toNat ∧ nv l r k 0 [] = some (fcM l r) ∧ ∀ i, i < k → nv l r i 0 [] = none := by
  have hp1 := prodM_pos (isSpaceM_szs hs)
  obtain ⟨k, h1, h2, h3, h4⟩ := fk_ok (l := l) (r := r) (m := (prodM l).toNat) (k := 1) ⟨(prodM l).toNat, by omega, by omega, nv_all hr⟩
  refine ⟨k, h1, by omega, h3, fun i hi => ?_⟩
  by_cases e : i = 0
  · subst e
    rw [nv]
    cases ho : opn l [] with
    | none => exact absurd (opn_none ho 0 (by omega) (by omega)) (by simp)
    | some o => rfl
  · exact h4 i (by omega) hi
def srB : Option (List Int) → Bool
  | none => false
  | some _ => true
def srL (c : List Int) : Option (List Int) → List Int
  | none => c
  | some L => c ++ L
theorem muX_pos {l X : List Int} {o : Int} (h : opn l X = some o) : 1 ≤ muX l X := by
  obtain ⟨h1, h2, _⟩ := opn_some h
  have : o ∈ (allW l).filter fun u => !decide (u ∈ X) := List.mem_filter.2 ⟨(allW_mem l o).2 (by omega), by simpa using h2⟩
  exact List.length_pos_of_mem this
theorem nvF_go {g : Nat → Option (List Int)} {n w : Nat} (hw : w < n) (h : g w = none) : nvF g (n - w) w = nvF g (n - (w + 1)) (w + 1) := by
  rw [show n - w = (n - (w + 1)) + 1 by omega, nvF, h]; rfl
theorem nvF_hit {g : Nat → Option (List Int)} {n w : Nat} {L : List Int} (hw : w < n) (h : g w = some L) : nvF g (n - w) w = some ((w : Int) :: L) := by
  rw [show n - w = (n - (w + 1)) + 1 by omega, nvF, h]; rfl
theorem d_fcov (l : List Int) (hs : isSpaceM l = true) (h27 : prodM l ≤ 27) (r : Int) (hr0 : 0 ≤ r) (many : Nat) (hm : many ≤ 1000) : ∀ (k f : Nat) (X c : List Int) (g2 g3 g4 g5 g6 g7 : Value), c.length + k = many → f ≤ (prodM l).toNat →
    DenG PA f_impl_firstCover_1 8 [.d (di f), .d (.v (.int .u64 (wsN l X : Int))), .is (.box [di many]) g2, .is (.boxm [.own 1 (c.map di)]) g3, .is (.box [.v (.int .u64 (wsN l (allW l) : Int))]) g4, .is (.box [di (bzM l r)]) g5, .is (.box [.lst 1 ((nearB l r).map duN)]) g6, .is (.box [.v (.func (.func f_impl_firstCover_1) #[] [g2, g3, g4, g5, g6, g7].toArray)]) g7]
      [.any, .any, .any, .boxm [.own 1 ((srL c (sr l r k f X)).map di)], .any, .any, .any, .any] (.d (db (srB (sr l r k f X)))) := by
  have hp1 := prodM_pos (isSpaceM_szs hs)
  have hbz := bz_pos hs hr0
  have hal := wsN_lt h27 (allW l)
  intro k
  induction k with
  | zero =>
    intro f X c g2 g3 g4 g5 g6 g7 hk hf
    have hX := wsN_lt h27 X
    have hk2 : (many : Int) - c.length = 0 := by omega
    refine den_goG [2, 3, 4, 5, 6, 7] l_impl_firstCover_1 (by simp) ?_
    rw [sr]
    cases ho : opn l X with
    | none =>
      have he := (wsN_full l X).2 ho
      rw [nvZ, srL, srB, List.append_nil]
      repeat' (first | simp -implicitDefEqProofs (maxSteps := 1000000) (disch := (first | omega | (simp only [go_sem] <;> omega) | fail)) only [go_sem, ints, bools, mat, c_impl_firstCover_1, he, hk2] | ((first | refine goIf_b (fun h => ?_) (fun h => ?_) | refine goG_b (fun h => ?_) (fun h => ?_) | refine goTG_b (fun h => ?_) (fun h => ?_) | refine goOG_b (fun h => ?_) (fun h => ?_)) <;> ((try simp only [Bool.not_eq_true', Bool.not_eq_false'] at h); (try simp only [h]); (try simp only [decide_eq_true_eq, decide_eq_false_iff_not, bne_iff_ne, bne_eq_false_iff_eq, beq_iff_eq, beq_eq_false_iff_ne, ne_eq, Int.not_lt, Int.not_le, Bool.and_eq_true, Bool.and_eq_false_iff, Bool.or_eq_true, Bool.or_eq_false_iff] at h)) <;> (try (exfalso; omega))))
    | some o =>
      have he : (wsN l X : Int) ≠ wsN l (allW l) := fun e => by
        have := (wsN_full l X).1 (by omega)
        rw [ho] at this; cases this
      have hmu := muX_pos ho
      have hpop := d_OnesCount64_64 (wsN l (cmpX l X)) (by have := wsN_lt h27 (cmpX l X); omega)
      rw [wsN_pop h27] at hpop
      rw [nvZ, srL, srB]
      repeat' (first | simp -implicitDefEqProofs (maxSteps := 1000000) (disch := (first | omega | (simp only [go_sem] <;> omega) | fail)) only [go_sem, ints, bools, mat, c_impl_firstCover_1, hk2, binA_not_u h27, Int.zero_mul] | ((first | refine goIf_b (fun h => ?_) (fun h => ?_) | refine goG_b (fun h => ?_) (fun h => ?_) | refine goTG_b (fun h => ?_) (fun h => ?_) | refine goOG_b (fun h => ?_) (fun h => ?_)) <;> ((try simp only [Bool.not_eq_true', Bool.not_eq_false'] at h); (try simp only [h]); (try simp only [decide_eq_true_eq, decide_eq_false_iff_not, bne_iff_ne, bne_eq_false_iff_eq, beq_iff_eq, beq_eq_false_iff_ne, ne_eq, Int.not_lt, Int.not_le, Bool.and_eq_true, Bool.and_eq_false_iff, Bool.or_eq_true, Bool.or_eq_false_iff] at h)) <;> (try (exfalso; omega))))
      first | refine goC_call [.r] (hpop) ?_ | refine goOC_call [.r] (hpop) ?_
      repeat' (first | simp -implicitDefEqProofs (maxSteps := 1000000) (disch := (first | omega | (simp only [go_sem] <;> omega) | fail)) only [go_sem, ints, bools, mat] | ((first | refine goIf_b (fun h => ?_) (fun h => ?_) | refine goG_b (fun h => ?_) (fun h => ?_) | refine goTG_b (fun h => ?_) (fun h => ?_) | refine goOG_b (fun h => ?_) (fun h => ?_)) <;> ((try simp only [Bool.not_eq_true', Bool.not_eq_false'] at h); (try simp only [h]); (try simp only [decide_eq_true_eq, decide_eq_false_iff_not, bne_iff_ne, bne_eq_false_iff_eq, beq_iff_eq, beq_eq_false_iff_ne, ne_eq, Int.not_lt, Int.not_le, Bool.and_eq_true, Bool.and_eq_false_iff, Bool.or_eq_true, Bool.or_eq_false_iff] at h)) <;> (try (exfalso; omega))))
  | succ k ih =>
    intro f X c g2 g3 g4 g5 g6 g7 hk hf
    have hX := wsN_lt h27 X
    have hk2 : (many : Int) - c.length = ((k + 1 : Nat) : Int) := by omega
    refine den_goG [2, 3, 4, 5, 6, 7] l_impl_firstCover_1 (by simp) ?_
    rw [sr]
    cases ho : opn l X with
    | none =>
      have he := (wsN_full l X).2 ho
      rw [srZ, srL, srB]
      repeat' (first | simp -implicitDefEqProofs (maxSteps := 1000000) (disch := (first | omega | (simp only [go_sem] <;> omega) | fail)) only [go_sem, ints, bools, mat, c_impl_firstCover_1, he, hk2] | ((first | refine goIf_b (fun h => ?_) (fun h => ?_) | refine goG_b (fun h => ?_) (fun h => ?_) | refine goTG_b (fun h => ?_) (fun h => ?_) | refine goOG_b (fun h => ?_) (fun h => ?_)) <;> ((try simp only [Bool.not_eq_true', Bool.not_eq_false'] at h); (try simp only [h]); (try simp only [decide_eq_true_eq, decide_eq_false_iff_not, bne_iff_ne, bne_eq_false_iff_eq, beq_iff_eq, beq_eq_false_iff_ne, ne_eq, Int.not_lt, Int.not_le, Bool.and_eq_true, Bool.and_eq_false_iff, Bool.or_eq_true, Bool.or_eq_false_iff] at h)) <;> (try (exfalso; omega))))
      exact dbv (beq_eq_false_iff_ne.2 (by omega))
    | some o =>
      have he : (wsN l X : Int) ≠ wsN l (allW l) := fun e => by
        have := (wsN_full l X).1 (by omega)
        rw [ho] at this; cases this
      have hmu := muX_pos ho
      have hpop := d_OnesCount64_64 (wsN l (cmpX l X)) (by have := wsN_lt h27 (cmpX l X); omega)
      rw [wsN_pop h27] at hpop
      have hmul : ((k + 1 : Nat) : Int) * bzM l r ≤ 1000 * 27 := Int.mul_le_mul (by omega) (by omega) (by omega) (by omega)
      have hmul0 : 0 ≤ ((k + 1 : Nat) : Int) * bzM l r := Int.mul_nonneg (by omega) (by omega)
      have hmx := muX_le l X
      rw [srZ]
      by_cases hlt : ((k + 1 : Nat) : Int) * bzM l r < muX l X
      · rw [if_pos hlt, srL, srB]
        repeat' (first | simp -implicitDefEqProofs (maxSteps := 1000000) (disch := (first | omega | (simp only [go_sem] <;> omega) | fail)) only [go_sem, ints, bools, mat, c_impl_firstCover_1, hk2, binA_not_u h27] | ((first | refine goIf_b (fun h => ?_) (fun h => ?_) | refine goG_b (fun h => ?_) (fun h => ?_) | refine goTG_b (fun h => ?_) (fun h => ?_) | refine goOG_b (fun h => ?_) (fun h => ?_)) <;> ((try simp only [Bool.not_eq_true', Bool.not_eq_false'] at h); (try simp only [h]); (try simp only [decide_eq_true_eq, decide_eq_false_iff_not, bne_iff_ne, bne_eq_false_iff_eq, beq_iff_eq, beq_eq_false_iff_ne, ne_eq, Int.not_lt, Int.not_le, Bool.and_eq_true, Bool.and_eq_false_iff, Bool.or_eq_true, Bool.or_eq_false_iff] at h)) <;> (try (exfalso; omega))))
        first | refine goC_call [.r] (hpop) ?_ | refine goOC_call [.r] (hpop) ?_
        repeat' (first | simp -implicitDefEqProofs (maxSteps := 1000000) (disch := (first | omega | (simp only [go_sem] <;> omega) | fail)) only [go_sem, ints, bools, mat] | ((first | refine goIf_b (fun h => ?_) (fun h => ?_) | refine goG_b (fun h => ?_) (fun h => ?_) | refine goTG_b (fun h => ?_) (fun h => ?_) | refine goOG_b (fun h => ?_) (fun h => ?_)) <;> ((try simp only [Bool.not_eq_true', Bool.not_eq_false'] at h); (try simp only [h]); (try simp only [decide_eq_true_eq, decide_eq_false_iff_not, bne_iff_ne, bne_eq_false_iff_eq, beq_iff_eq, beq_eq_false_iff_ne, ne_eq, Int.not_lt, Int.not_le, Bool.and_eq_true, Bool.and_eq_false_iff, Bool.or_eq_true, Bool.or_eq_false_iff] at h)) <;> (try (exfalso; omega))))
      · rw [if_neg hlt]
        repeat' (first | simp -implicitDefEqProofs (maxSteps := 1000000) (disch := (first | omega | (simp only [go_sem] <;> omega) | fail)) only [go_sem, ints, bools, mat, c_impl_firstCover_1, hk2, binA_not_u h27] | ((first | refine goIf_b (fun h => ?_) (fun h => ?_) | refine goG_b (fun h => ?_) (fun h => ?_) | refine goTG_b (fun h => ?_) (fun h => ?_) | refine goOG_b (fun h => ?_) (fun h => ?_)) <;> ((try simp only [Bool.not_eq_true', Bool.not_eq_false'] at h); (try simp only [h]); (try simp only [decide_eq_true_eq, decide_eq_false_iff_not, bne_iff_ne, bne_eq_false_iff_eq, beq_iff_eq, beq_eq_false_iff_ne, ne_eq, Int.not_lt, Int.not_le, Bool.and_eq_true, Bool.and_eq_false_iff, Bool.or_eq_true, Bool.or_eq_false_iff] at h)) <;> (try (exfalso; omega))))
        first | refine goC_call [.r] (hpop) ?_ | refine goOC_call [.r] (hpop) ?_
        repeat' (first | simp -implicitDefEqProofs (maxSteps := 1000000) (disch := (first | omega | (simp only [go_sem] <;> omega) | fail)) only [go_sem, ints, bools, mat] | ((first | refine goIf_b (fun h => ?_) (fun h => ?_) | refine goG_b (fun h => ?_) (fun h => ?_) | refine goTG_b (fun h => ?_) (fun h => ?_) | refine goOG_b (fun h => ?_) (fun h => ?_)) <;> ((try simp only [Bool.not_eq_true', Bool.not_eq_false'] at h); (try simp only [h]); (try simp only [decide_eq_true_eq, decide_eq_false_iff_not, bne_iff_ne, bne_eq_false_iff_eq, beq_iff_eq, beq_eq_false_iff_ne, ne_eq, Int.not_lt, Int.not_le, Bool.and_eq_true, Bool.and_eq_false_iff, Bool.or_eq_true, Bool.or_eq_false_iff] at h)) <;> (try (exfalso; omega))))
        generalize hres : nvF (fun w => sr l r k (w + 1) (X ++ ballM l w r)) ((prodM l).toNat - f) f = res
        refine go_loop (fun (p : Nat × List Int) => ⟨[(1, .d (.v (.int .u64 (wsN l X : Int)))), (3, .ref 0 0), (6, .iref [.lst 1 ((nearB l r).map duN)] 0), (7, .iref [.v (.func (.func f_impl_firstCover_1) #[] [g2, g3, g4, g5, g6, g7].toArray)] 0), (12, .d (di p.1)), (58, .is (.iref [di many] 0) g2), (59, .is (.ref 0 0) g3), (60, .is (.iref [.v (.int .u64 (wsN l (allW l) : Int))] 0) g4), (61, .is (.iref [di (bzM l r)] 0) g5), (62, .is (.iref [.lst 1 ((nearB l r).map duN)] 0) g6), (63, .is (.iref [.v (.func (.func f_impl_firstCover_1) #[] [g2, g3, g4, g5, g6, g7].toArray)] 0) g7)], [some (.mix [.sl 1 0 c.length 1]), some (.dat 1 ((c ++ p.2).map di))]⟩)
          (fun p => f ≤ p.1 ∧ p.1 ≤ (prodM l).toNat ∧ nvF (fun w => sr l r k (w + 1) (X ++ ballM l w r)) ((prodM l).toNat - p.1) p.1 = res) (fun p => (prodM l).toNat - p.1) (f, []) ?_ ?_ ?_
        · simp -implicitDefEqProofs (maxSteps := 1000000) (disch := (first | omega | (simp only [go_sem] <;> omega) | fail)) only [go_sem, ints, bools, mat, List.append_nil]
        · exact ⟨Nat.le_refl _, hf, hres⟩
        · rintro ⟨w, t⟩ ⟨h1, h2, h3⟩ J hJ
          dsimp only at h1 h2 h3 ⊢
          by_cases hwl : w < (prodM l).toNat
          · have eN := nearB_get (l := l) r (w := (w : Int)) (by omega)
            rw [Int.toNat_natCast] at eN
            have eo := or_b l X (ballM l w r) h27
            have hW := wsN_lt h27 (ballM l w r)
            have hden := ih (w + 1) (X ++ ballM l w r) (c ++ [(w : Int)]) g2 g3 g4 g5 g6 g7 (by simp; omega) (by omega)
            rw [show ((w + 1 : Nat) : Int) = (w : Int) + 1 by omega] at hden
            repeat' (first | simp -implicitDefEqProofs (maxSteps := 1000000) (disch := (first | omega | (simp only [go_sem] <;> omega) | fail)) only [go_sem, ints, bools, mat, eN, eo, List.take_left] | ((first | refine goIf_b (fun h => ?_) (fun h => ?_) | refine goG_b (fun h => ?_) (fun h => ?_) | refine goTG_b (fun h => ?_) (fun h => ?_) | refine goOG_b (fun h => ?_) (fun h => ?_)) <;> ((try simp only [Bool.not_eq_true', Bool.not_eq_false'] at h); (try simp only [h]); (try simp only [decide_eq_true_eq, decide_eq_false_iff_not, bne_iff_ne, bne_eq_false_iff_eq, beq_iff_eq, beq_eq_false_iff_ne, ne_eq, Int.not_lt, Int.not_le, Bool.and_eq_true, Bool.and_eq_false_iff, Bool.or_eq_true, Bool.or_eq_false_iff] at h)) <;> (try (exfalso; omega))))
            refine goOV_val f_impl_firstCover_1 [g2, g3, g4, g5, g6, g7] [58, 59, 60, 61, 62, 63] [] rfl (by simp -implicitDefEqProofs (maxSteps := 1000000) (disch := (first | omega | (simp only [go_sem] <;> omega) | fail)) only [go_sem, ints, bools, mat]) ?_
            repeat' (first | simp -implicitDefEqProofs (maxSteps := 1000000) (disch := (first | omega | (simp only [go_sem] <;> omega) | fail)) only [go_sem, ints, bools, mat] | ((first | refine goIf_b (fun h => ?_) (fun h => ?_) | refine goG_b (fun h => ?_) (fun h => ?_) | refine goTG_b (fun h => ?_) (fun h => ?_) | refine goOG_b (fun h => ?_) (fun h => ?_)) <;> ((try simp only [Bool.not_eq_true', Bool.not_eq_false'] at h); (try simp only [h]); (try simp only [decide_eq_true_eq, decide_eq_false_iff_not, bne_iff_ne, bne_eq_false_iff_eq, beq_iff_eq, beq_eq_false_iff_ne, ne_eq, Int.not_lt, Int.not_le, Bool.and_eq_true, Bool.and_eq_false_iff, Bool.or_eq_true, Bool.or_eq_false_iff] at h)) <;> (try (exfalso; omega))))
            cases hsr : sr l r k (w + 1) (X ++ ballM l w r) with
            | some L =>
              have hr2 := nvF_hit (g := fun w => sr l r k (w + 1) (X ++ ballM l w r)) hwl hsr
              rw [h3] at hr2
              rw [hr2, srL, srB]
              rw [hsr, srL, srB] at hden
              rw [show c ++ (w : Int) :: L = c ++ [(w : Int)] ++ L by simp]
              refine goOCG_call [.r, .r, .i .b, .i .bm, .i .b, .i .b, .i .b, .i .b] hden ?_
              repeat' (first | simp -implicitDefEqProofs (maxSteps := 1000000) (disch := (first | omega | (simp only [go_sem] <;> omega) | fail)) only [go_sem, ints, bools, mat] | ((first | refine goIf_b (fun h => ?_) (fun h => ?_) | refine goG_b (fun h => ?_) (fun h => ?_) | refine goTG_b (fun h => ?_) (fun h => ?_) | refine goOG_b (fun h => ?_) (fun h => ?_)) <;> ((try simp only [Bool.not_eq_true', Bool.not_eq_false'] at h); (try simp only [h]); (try simp only [decide_eq_true_eq, decide_eq_false_iff_not, bne_iff_ne, bne_eq_false_iff_eq, beq_iff_eq, beq_eq_false_iff_ne, ne_eq, Int.not_lt, Int.not_le, Bool.and_eq_true, Bool.and_eq_false_iff, Bool.or_eq_true, Bool.or_eq_false_iff] at h)) <;> (try (exfalso; omega))))
            | none =>
              have hr2 := nvF_go (g := fun w => sr l r k (w + 1) (X ++ ballM l w r)) hwl hsr
              rw [h3] at hr2
              rw [hsr, srL, srB] at hden
              refine goOCG_call [.r, .r, .i .b, .i .bm, .i .b, .i .b, .i .b, .i .b] hden ?_
              repeat' (first | simp -implicitDefEqProofs (maxSteps := 1000000) (disch := (first | omega | (simp only [go_sem] <;> omega) | fail)) only [go_sem, ints, bools, mat] | ((first | refine goIf_b (fun h => ?_) (fun h => ?_) | refine goG_b (fun h => ?_) (fun h => ?_) | refine goTG_b (fun h => ?_) (fun h => ?_) | refine goOG_b (fun h => ?_) (fun h => ?_)) <;> ((try simp only [Bool.not_eq_true', Bool.not_eq_false'] at h); (try simp only [h]); (try simp only [decide_eq_true_eq, decide_eq_false_iff_not, bne_iff_ne, bne_eq_false_iff_eq, beq_iff_eq, beq_eq_false_iff_ne, ne_eq, Int.not_lt, Int.not_le, Bool.and_eq_true, Bool.and_eq_false_iff, Bool.or_eq_true, Bool.or_eq_false_iff] at h)) <;> (try (exfalso; omega))))
              refine hJ (w + 1, [(w : Int)]) ⟨by dsimp only; omega, by dsimp only; omega, hr2.symm⟩ (by dsimp only; omega) _ ?_
              simp -implicitDefEqProofs (maxSteps := 1000000) (disch := (first | omega | (simp only [go_sem] <;> omega) | fail)) only [go_sem, ints, bools, mat]
              rfl
          · have hwe : w = (prodM l).toNat := by omega
            subst hwe
            rw [Nat.sub_self] at h3
            rw [← h3, nvF, srL, srB]
            repeat' (first | simp -implicitDefEqProofs (maxSteps := 1000000) (disch := (first | omega | (simp only [go_sem] <;> omega) | fail)) only [go_sem, ints, bools, mat, leaS_pre, List.take_left] | ((first | refine goIf_b (fun h => ?_) (fun h => ?_) | refine goG_b (fun h => ?_) (fun h => ?_) | refine goTG_b (fun h => ?_) (fun h => ?_) | refine goOG_b (fun h => ?_) (fun h => ?_)) <;> ((try simp only [Bool.not_eq_true', Bool.not_eq_false'] at h); (try simp only [h]); (try simp only [decide_eq_true_eq, decide_eq_false_iff_not, bne_iff_ne, bne_eq_false_iff_eq, beq_iff_eq, beq_eq_false_iff_ne, ne_eq, Int.not_lt, Int.not_le, Bool.and_eq_true, Bool.and_eq_false_iff, Bool.or_eq_true, Bool.or_eq_false_iff] at h)) <;> (try (exfalso; omega))))
/-- The error of a space with few words and a number. -/
def scE (l : List Int) (n lo hi : Int) : Int := if isSpaceM l = true then (if lo ≤ n ∧ n ≤ hi then (if prodM l ≤ 27 then 0 else 3) else 2) else 1
theorem scE_ok {l : List Int} {n lo hi : Int} (h : scE l n lo hi = 0) : isSpaceM l = true ∧ (lo ≤ n ∧ n ≤ hi) ∧ prodM l ≤ 27 := by
  unfold scE at h
  split at h
  · rename_i h1
    split at h
    · rename_i h2
      split at h
      · rename_i h3; exact ⟨h1, h2, h3⟩
      · omega
    · omega
  · omega
theorem d_impl_soughtCode (l : List Int) (hl : l.length < 1048577) (n lo hi : Int) : Den PA f_impl_soughtCode [.d (.agg [ints l]), .d (di n), .d (di lo), .d (di hi)] [.any, .any, .any, .any] (.d (di (scE l n lo hi))) := by
  refine den_go [] l_impl_soughtCode ?_
  repeat' (first | simp -implicitDefEqProofs (maxSteps := 1000000) (disch := (first | omega | (simp only [go_sem] <;> omega) | fail)) only [go_sem, ints, bools, mat, c_impl_soughtCode] | ((first | refine goIf_b (fun h => ?_) (fun h => ?_) | refine goG_b (fun h => ?_) (fun h => ?_) | refine goTG_b (fun h => ?_) (fun h => ?_) | refine goOG_b (fun h => ?_) (fun h => ?_)) <;> ((try simp only [Bool.not_eq_true', Bool.not_eq_false'] at h); (try simp only [h]); (try simp only [decide_eq_true_eq, decide_eq_false_iff_not, bne_iff_ne, bne_eq_false_iff_eq, beq_iff_eq, beq_eq_false_iff_ne, ne_eq, Int.not_lt, Int.not_le, Bool.and_eq_true, Bool.and_eq_false_iff, Bool.or_eq_true, Bool.or_eq_false_iff] at h)) <;> (try (exfalso; omega))))
  first | refine goC_call [.r] (d_impl_IsSpace l hl) ?_ | refine goOC_call [.r] (d_impl_IsSpace l hl) ?_
  by_cases h1 : isSpaceM l = true
  · rw [h1]
    by_cases h2 : lo ≤ n ∧ n ≤ hi
    · obtain ⟨h2, h3⟩ := h2
      repeat' (first | simp -implicitDefEqProofs (maxSteps := 1000000) (disch := (first | omega | (simp only [go_sem] <;> omega) | fail)) only [go_sem, ints, bools, mat] | ((first | refine goIf_b (fun h => ?_) (fun h => ?_) | refine goG_b (fun h => ?_) (fun h => ?_) | refine goTG_b (fun h => ?_) (fun h => ?_) | refine goOG_b (fun h => ?_) (fun h => ?_)) <;> ((try simp only [Bool.not_eq_true', Bool.not_eq_false'] at h); (try simp only [h]); (try simp only [decide_eq_true_eq, decide_eq_false_iff_not, bne_iff_ne, bne_eq_false_iff_eq, beq_iff_eq, beq_eq_false_iff_ne, ne_eq, Int.not_lt, Int.not_le, Bool.and_eq_true, Bool.and_eq_false_iff, Bool.or_eq_true, Bool.or_eq_false_iff] at h)) <;> (try (exfalso; omega))))
      first | refine goC_call [.r] (d_impl_count l h1) ?_ | refine goOC_call [.r] (d_impl_count l h1) ?_
      by_cases h4 : prodM l ≤ 27
      · rw [scE, if_pos h1, if_pos ⟨h2, h3⟩, if_pos h4]
        repeat' (first | simp -implicitDefEqProofs (maxSteps := 1000000) (disch := (first | omega | (simp only [go_sem] <;> omega) | fail)) only [go_sem, ints, bools, mat] | ((first | refine goIf_b (fun h => ?_) (fun h => ?_) | refine goG_b (fun h => ?_) (fun h => ?_) | refine goTG_b (fun h => ?_) (fun h => ?_) | refine goOG_b (fun h => ?_) (fun h => ?_)) <;> ((try simp only [Bool.not_eq_true', Bool.not_eq_false'] at h); (try simp only [h]); (try simp only [decide_eq_true_eq, decide_eq_false_iff_not, bne_iff_ne, bne_eq_false_iff_eq, beq_iff_eq, beq_eq_false_iff_ne, ne_eq, Int.not_lt, Int.not_le, Bool.and_eq_true, Bool.and_eq_false_iff, Bool.or_eq_true, Bool.or_eq_false_iff] at h)) <;> (try (exfalso; omega))))
      · rw [scE, if_pos h1, if_pos ⟨h2, h3⟩, if_neg h4]
        repeat' (first | simp -implicitDefEqProofs (maxSteps := 1000000) (disch := (first | omega | (simp only [go_sem] <;> omega) | fail)) only [go_sem, ints, bools, mat] | ((first | refine goIf_b (fun h => ?_) (fun h => ?_) | refine goG_b (fun h => ?_) (fun h => ?_) | refine goTG_b (fun h => ?_) (fun h => ?_) | refine goOG_b (fun h => ?_) (fun h => ?_)) <;> ((try simp only [Bool.not_eq_true', Bool.not_eq_false'] at h); (try simp only [h]); (try simp only [decide_eq_true_eq, decide_eq_false_iff_not, bne_iff_ne, bne_eq_false_iff_eq, beq_iff_eq, beq_eq_false_iff_ne, ne_eq, Int.not_lt, Int.not_le, Bool.and_eq_true, Bool.and_eq_false_iff, Bool.or_eq_true, Bool.or_eq_false_iff] at h)) <;> (try (exfalso; omega))))
    · rw [scE, if_pos h1, if_neg h2]
      repeat' (first | simp -implicitDefEqProofs (maxSteps := 1000000) (disch := (first | omega | (simp only [go_sem] <;> omega) | fail)) only [go_sem, ints, bools, mat] | ((first | refine goIf_b (fun h => ?_) (fun h => ?_) | refine goG_b (fun h => ?_) (fun h => ?_) | refine goTG_b (fun h => ?_) (fun h => ?_) | refine goOG_b (fun h => ?_) (fun h => ?_)) <;> ((try simp only [Bool.not_eq_true', Bool.not_eq_false'] at h); (try simp only [h]); (try simp only [decide_eq_true_eq, decide_eq_false_iff_not, bne_iff_ne, bne_eq_false_iff_eq, beq_iff_eq, beq_eq_false_iff_ne, ne_eq, Int.not_lt, Int.not_le, Bool.and_eq_true, Bool.and_eq_false_iff, Bool.or_eq_true, Bool.or_eq_false_iff] at h)) <;> (try (exfalso; omega))))
  · have h2 : isSpaceM l = false := by simpa using h1
    rw [scE, if_neg h1, h2]
    repeat' (first | simp -implicitDefEqProofs (maxSteps := 1000000) (disch := (first | omega | (simp only [go_sem] <;> omega) | fail)) only [go_sem, ints, bools, mat] | ((first | refine goIf_b (fun h => ?_) (fun h => ?_) | refine goG_b (fun h => ?_) (fun h => ?_) | refine goTG_b (fun h => ?_) (fun h => ?_) | refine goOG_b (fun h => ?_) (fun h => ?_)) <;> ((try simp only [Bool.not_eq_true', Bool.not_eq_false'] at h); (try simp only [h]); (try simp only [decide_eq_true_eq, decide_eq_false_iff_not, bne_iff_ne, bne_eq_false_iff_eq, beq_iff_eq, beq_eq_false_iff_ne, ne_eq, Int.not_lt, Int.not_le, Bool.and_eq_true, Bool.and_eq_false_iff, Bool.or_eq_true, Bool.or_eq_false_iff] at h)) <;> (try (exfalso; omega))))
theorem d_spec_l04Sought (l : List Int) (hl : l.length < 1048577) (n lo hi : Int) : Den PA f_spec_l04Sought [.d (.agg [ints l]), .d (di n), .d (di lo), .d (di hi)] [.any, .any, .any, .any] (.d (di (scE l n lo hi))) := by
  refine den_go [] l_spec_l04Sought ?_
  repeat' (first | simp -implicitDefEqProofs (maxSteps := 1000000) (disch := (first | omega | (simp only [go_sem] <;> omega) | fail)) only [go_sem, ints, bools, mat, c_spec_l04Sought] | ((first | refine goIf_b (fun h => ?_) (fun h => ?_) | refine goG_b (fun h => ?_) (fun h => ?_) | refine goTG_b (fun h => ?_) (fun h => ?_) | refine goOG_b (fun h => ?_) (fun h => ?_)) <;> ((try simp only [Bool.not_eq_true', Bool.not_eq_false'] at h); (try simp only [h]); (try simp only [decide_eq_true_eq, decide_eq_false_iff_not, bne_iff_ne, bne_eq_false_iff_eq, beq_iff_eq, beq_eq_false_iff_ne, ne_eq, Int.not_lt, Int.not_le, Bool.and_eq_true, Bool.and_eq_false_iff, Bool.or_eq_true, Bool.or_eq_false_iff] at h)) <;> (try (exfalso; omega))))
  have hc := d_spec_l04Code l hl n lo hi
  by_cases h1 : isSpaceM l = true
  · by_cases h2 : lo ≤ n ∧ n ≤ hi
    · rw [if_pos h1, if_pos h2] at hc
      first | refine goC_call [.r, .r, .r, .r] (hc) ?_ | refine goOC_call [.r, .r, .r, .r] (hc) ?_
      have hn := isSpaceM_n h1
      repeat' (first | simp -implicitDefEqProofs (maxSteps := 1000000) (disch := (first | omega | (simp only [go_sem] <;> omega) | fail)) only [go_sem, ints, bools, mat] | ((first | refine goIf_b (fun h => ?_) (fun h => ?_) | refine goG_b (fun h => ?_) (fun h => ?_) | refine goTG_b (fun h => ?_) (fun h => ?_) | refine goOG_b (fun h => ?_) (fun h => ?_)) <;> ((try simp only [Bool.not_eq_true', Bool.not_eq_false'] at h); (try simp only [h]); (try simp only [decide_eq_true_eq, decide_eq_false_iff_not, bne_iff_ne, bne_eq_false_iff_eq, beq_iff_eq, beq_eq_false_iff_ne, ne_eq, Int.not_lt, Int.not_le, Bool.and_eq_true, Bool.and_eq_false_iff, Bool.or_eq_true, Bool.or_eq_false_iff] at h)) <;> (try (exfalso; omega))))
      first | refine goC_call [.r] (d_spec_l01N l (by omega) (isSpaceM_q h1)) ?_ | refine goOC_call [.r] (d_spec_l01N l (by omega) (isSpaceM_q h1)) ?_
      by_cases h4 : prodM l ≤ 27
      · rw [scE, if_pos h1, if_pos h2, if_pos h4]
        repeat' (first | simp -implicitDefEqProofs (maxSteps := 1000000) (disch := (first | omega | (simp only [go_sem] <;> omega) | fail)) only [go_sem, ints, bools, mat] | ((first | refine goIf_b (fun h => ?_) (fun h => ?_) | refine goG_b (fun h => ?_) (fun h => ?_) | refine goTG_b (fun h => ?_) (fun h => ?_) | refine goOG_b (fun h => ?_) (fun h => ?_)) <;> ((try simp only [Bool.not_eq_true', Bool.not_eq_false'] at h); (try simp only [h]); (try simp only [decide_eq_true_eq, decide_eq_false_iff_not, bne_iff_ne, bne_eq_false_iff_eq, beq_iff_eq, beq_eq_false_iff_ne, ne_eq, Int.not_lt, Int.not_le, Bool.and_eq_true, Bool.and_eq_false_iff, Bool.or_eq_true, Bool.or_eq_false_iff] at h)) <;> (try (exfalso; omega))))
      · rw [scE, if_pos h1, if_pos h2, if_neg h4]
        repeat' (first | simp -implicitDefEqProofs (maxSteps := 1000000) (disch := (first | omega | (simp only [go_sem] <;> omega) | fail)) only [go_sem, ints, bools, mat] | ((first | refine goIf_b (fun h => ?_) (fun h => ?_) | refine goG_b (fun h => ?_) (fun h => ?_) | refine goTG_b (fun h => ?_) (fun h => ?_) | refine goOG_b (fun h => ?_) (fun h => ?_)) <;> ((try simp only [Bool.not_eq_true', Bool.not_eq_false'] at h); (try simp only [h]); (try simp only [decide_eq_true_eq, decide_eq_false_iff_not, bne_iff_ne, bne_eq_false_iff_eq, beq_iff_eq, beq_eq_false_iff_ne, ne_eq, Int.not_lt, Int.not_le, Bool.and_eq_true, Bool.and_eq_false_iff, Bool.or_eq_true, Bool.or_eq_false_iff] at h)) <;> (try (exfalso; omega))))
    · rw [if_pos h1, if_neg h2] at hc
      first | refine goC_call [.r, .r, .r, .r] (hc) ?_ | refine goOC_call [.r, .r, .r, .r] (hc) ?_
      rw [scE, if_pos h1, if_neg h2]
      repeat' (first | simp -implicitDefEqProofs (maxSteps := 1000000) (disch := (first | omega | (simp only [go_sem] <;> omega) | fail)) only [go_sem, ints, bools, mat] | ((first | refine goIf_b (fun h => ?_) (fun h => ?_) | refine goG_b (fun h => ?_) (fun h => ?_) | refine goTG_b (fun h => ?_) (fun h => ?_) | refine goOG_b (fun h => ?_) (fun h => ?_)) <;> ((try simp only [Bool.not_eq_true', Bool.not_eq_false'] at h); (try simp only [h]); (try simp only [decide_eq_true_eq, decide_eq_false_iff_not, bne_iff_ne, bne_eq_false_iff_eq, beq_iff_eq, beq_eq_false_iff_ne, ne_eq, Int.not_lt, Int.not_le, Bool.and_eq_true, Bool.and_eq_false_iff, Bool.or_eq_true, Bool.or_eq_false_iff] at h)) <;> (try (exfalso; omega))))
  · rw [if_neg h1] at hc
    first | refine goC_call [.r, .r, .r, .r] (hc) ?_ | refine goOC_call [.r, .r, .r, .r] (hc) ?_
    rw [scE, if_neg h1]
    repeat' (first | simp -implicitDefEqProofs (maxSteps := 1000000) (disch := (first | omega | (simp only [go_sem] <;> omega) | fail)) only [go_sem, ints, bools, mat] | ((first | refine goIf_b (fun h => ?_) (fun h => ?_) | refine goG_b (fun h => ?_) (fun h => ?_) | refine goTG_b (fun h => ?_) (fun h => ?_) | refine goOG_b (fun h => ?_) (fun h => ?_)) <;> ((try simp only [Bool.not_eq_true', Bool.not_eq_false'] at h); (try simp only [h]); (try simp only [decide_eq_true_eq, decide_eq_false_iff_not, bne_iff_ne, bne_eq_false_iff_eq, beq_iff_eq, beq_eq_false_iff_ne, ne_eq, Int.not_lt, Int.not_le, Bool.and_eq_true, Bool.and_eq_false_iff, Bool.or_eq_true, Bool.or_eq_false_iff] at h)) <;> (try (exfalso; omega))))
theorem d_impl_firstCover (l : List Int) (hs : isSpaceM l = true) (h27 : prodM l ≤ 27) (r : Int) (hr0 : 0 ≤ r) : Den PA f_impl_firstCover [.d (.agg [ints l]), .d (di r)] [.any, .any] (.own 1 ((fcM l r).map di)) := by
  have hp1 := prodM_pos (isSpaceM_szs hs)
  have hbz := bz_pos hs hr0
  have hall := wsN_all l
  have hal := wsN_lt h27 (allW l)
  have e0 := nearB_get (l := l) r (w := 0) (by omega)
  rw [show (0 : Int).toNat = 0 from rfl] at e0
  have hB0 := wsN_lt h27 (ballM l 0 r)
  have hpop := d_OnesCount64_64 (wsN l (ballM l 0 r)) (by omega)
  have hsz : ((popN 64 (wsN l (ballM l 0 r)) : Nat) : Int) = bzM l r := by
    rw [mkL_pop 64 _ (by rw [cvL_len]; omega), ← ball_len hs 0 hr0, cvL, List.filter_map, List.length_map]
    congr 1
    apply List.Perm.length_eq
    apply (List.perm_ext_iff_of_nodup ((allW_nodup l).filter _) (ballM_nodup l 0 r)).2
    intro u
    rw [List.mem_filter, allW_mem]
    simp only [Function.comp, id_eq, decide_eq_true_eq]
    exact ⟨fun h => h.2, fun h => ⟨by have := ball_in l 0 r u h; omega, h⟩⟩
  rw [hsz] at hpop
  obtain ⟨kk, hk1, hkN, hkS, hkl⟩ := fcM_ok hs hr0
  have h2N : 2 ^ (prodM l).toNat = wsN l (allW l) + 1 := hall.symm
  have eall : ((wsN l (allW l) + 1 : Nat) : Int) - 1 = wsN l (allW l) := by omega
  let I : Nat → ASt := fun p => ⟨[(5, .ref 0 0), (6, .ref 1 0), (7, .ref 2 0), (8, .ref 3 0)], [some (.mix [.sl 4 0 (prodM l).toNat 1]), some (.var [.v (.int .u64 (wsN l (allW l) : Int))]), some (.var [di (bzM l r)]), some (.var [di p]), some (.dat 1 ((nearB l r).map duN))]⟩
  let V : Nat → Prop := fun p => 1 ≤ p ∧ p ≤ kk
  let mu : Nat → Nat := fun p => kk - p
  have hstep : ∀ p, V p → ∀ J : ASt → Prop, (∀ y, V y → mu y < mu p → ∀ st', norm [5, 6, 7, 8] st' = I y → J st') → go PA (lastLoop c_impl_firstCover.code) [.back J, .blk 0] (I p) (postF [.t 4] 30 2 [] [.any, .any] (.own 1 ((fcM l r).map di))) := by
    rintro p ⟨hp, hpk⟩ J hJ
    have htop := sr_top hs hr0 (k := p) fun j hj => hkl j (by omega)
    repeat' (first | simp -implicitDefEqProofs (maxSteps := 1000000) (disch := (first | omega | (simp only [go_sem] <;> omega) | fail)) only [go_sem, ints, bools, mat, c_impl_firstCover, lastLoop, I] | ((first | refine goIf_b (fun h => ?_) (fun h => ?_) | refine goG_b (fun h => ?_) (fun h => ?_) | refine goTG_b (fun h => ?_) (fun h => ?_) | refine goOG_b (fun h => ?_) (fun h => ?_)) <;> ((try simp only [Bool.not_eq_true', Bool.not_eq_false'] at h); (try simp only [h]); (try simp only [decide_eq_true_eq, decide_eq_false_iff_not, bne_iff_ne, bne_eq_false_iff_eq, beq_iff_eq, beq_eq_false_iff_ne, ne_eq, Int.not_lt, Int.not_le, Bool.and_eq_true, Bool.and_eq_false_iff, Bool.or_eq_true, Bool.or_eq_false_iff] at h)) <;> (try (exfalso; omega))))
    refine goC_real [7] [] (by simp -implicitDefEqProofs (maxSteps := 1000000) (disch := (first | omega | (simp only [go_sem] <;> omega) | fail)) only [go_sem, ints, bools, mat]) fun ρ hρ => ?_
    have hden := d_fcov l hs h27 r hr0 p (by omega) p 0 [] [] (ρ 3) (ρ 6) (ρ 1) (ρ 2) (ρ 0) (ρ 7) (by simp) (by omega)
    rw [htop, show ((wsN l [] : Nat) : Int) = 0 by rw [wsN_nil]; rfl, show ((0 : Nat) : Int) = 0 from rfl] at hden
    repeat' (first | simp -implicitDefEqProofs (maxSteps := 1000000) (disch := (first | omega | (simp only [go_sem] <;> omega) | fail)) only [go_sem, ints, bools, mat] | ((first | refine goIf_b (fun h => ?_) (fun h => ?_) | refine goG_b (fun h => ?_) (fun h => ?_) | refine goTG_b (fun h => ?_) (fun h => ?_) | refine goOG_b (fun h => ?_) (fun h => ?_)) <;> ((try simp only [Bool.not_eq_true', Bool.not_eq_false'] at h); (try simp only [h]); (try simp only [decide_eq_true_eq, decide_eq_false_iff_not, bne_iff_ne, bne_eq_false_iff_eq, beq_iff_eq, beq_eq_false_iff_ne, ne_eq, Int.not_lt, Int.not_le, Bool.and_eq_true, Bool.and_eq_false_iff, Bool.or_eq_true, Bool.or_eq_false_iff] at h)) <;> (try (exfalso; omega))))
    by_cases hpe : p = kk
    · subst hpe
      rw [hkS, srL, srB, List.nil_append] at hden
      refine goCG_call [.r, .r, .i .b, .i .bm, .i .b, .i .b, .i .b, .i .b] hden ?_
      repeat' (first | simp -implicitDefEqProofs (maxSteps := 1000000) (disch := (first | omega | (simp only [go_sem] <;> omega) | fail)) only [go_sem, ints, bools, mat] | ((first | refine goIf_b (fun h => ?_) (fun h => ?_) | refine goG_b (fun h => ?_) (fun h => ?_) | refine goTG_b (fun h => ?_) (fun h => ?_) | refine goOG_b (fun h => ?_) (fun h => ?_)) <;> ((try simp only [Bool.not_eq_true', Bool.not_eq_false'] at h); (try simp only [h]); (try simp only [decide_eq_true_eq, decide_eq_false_iff_not, bne_iff_ne, bne_eq_false_iff_eq, beq_iff_eq, beq_eq_false_iff_ne, ne_eq, Int.not_lt, Int.not_le, Bool.and_eq_true, Bool.and_eq_false_iff, Bool.or_eq_true, Bool.or_eq_false_iff] at h)) <;> (try (exfalso; omega))))
    · have hn : nv l r p 0 [] = none := hkl p (by omega)
      rw [hn, srL, srB] at hden
      refine goCG_call [.r, .r, .i .b, .i .bm, .i .b, .i .b, .i .b, .i .b] hden ?_
      repeat' (first | simp -implicitDefEqProofs (maxSteps := 1000000) (disch := (first | omega | (simp only [go_sem] <;> omega) | fail)) only [go_sem, ints, bools, mat] | ((first | refine goIf_b (fun h => ?_) (fun h => ?_) | refine goG_b (fun h => ?_) (fun h => ?_) | refine goTG_b (fun h => ?_) (fun h => ?_) | refine goOG_b (fun h => ?_) (fun h => ?_)) <;> ((try simp only [Bool.not_eq_true', Bool.not_eq_false'] at h); (try simp only [h]); (try simp only [decide_eq_true_eq, decide_eq_false_iff_not, bne_iff_ne, bne_eq_false_iff_eq, beq_iff_eq, beq_eq_false_iff_ne, ne_eq, Int.not_lt, Int.not_le, Bool.and_eq_true, Bool.and_eq_false_iff, Bool.or_eq_true, Bool.or_eq_false_iff] at h)) <;> (try (exfalso; omega))))
      refine hJ (p + 1) ⟨by omega, by omega⟩ (by dsimp only [mu]; omega) _ ?_
      simp -implicitDefEqProofs (maxSteps := 1000000) (disch := (first | omega | (simp only [go_sem] <;> omega) | fail)) only [go_sem, ints, bools, mat, I]
      rfl
  refine den_go [] l_impl_firstCover ?_
  repeat' (first | simp -implicitDefEqProofs (maxSteps := 1000000) (disch := (first | omega | (simp only [go_sem] <;> omega) | fail)) only [go_sem, ints, bools, mat, c_impl_firstCover] | ((first | refine goIf_b (fun h => ?_) (fun h => ?_) | refine goG_b (fun h => ?_) (fun h => ?_) | refine goTG_b (fun h => ?_) (fun h => ?_) | refine goOG_b (fun h => ?_) (fun h => ?_)) <;> ((try simp only [Bool.not_eq_true', Bool.not_eq_false'] at h); (try simp only [h]); (try simp only [decide_eq_true_eq, decide_eq_false_iff_not, bne_iff_ne, bne_eq_false_iff_eq, beq_iff_eq, beq_eq_false_iff_ne, ne_eq, Int.not_lt, Int.not_le, Bool.and_eq_true, Bool.and_eq_false_iff, Bool.or_eq_true, Bool.or_eq_false_iff] at h)) <;> (try (exfalso; omega))))
  first | refine goC_call [.r, .r] (d_impl_nearSets l hs h27 r) ?_ | refine goOC_call [.r, .r] (d_impl_nearSets l hs h27 r) ?_
  repeat' (first | simp -implicitDefEqProofs (maxSteps := 1000000) (disch := (first | omega | (simp only [go_sem] <;> omega) | fail)) only [go_sem, ints, bools, mat, e0, binA_shl_u, Int.toNat_natCast, h2N, eall] | ((first | refine goIf_b (fun h => ?_) (fun h => ?_) | refine goG_b (fun h => ?_) (fun h => ?_) | refine goTG_b (fun h => ?_) (fun h => ?_) | refine goOG_b (fun h => ?_) (fun h => ?_)) <;> ((try simp only [Bool.not_eq_true', Bool.not_eq_false'] at h); (try simp only [h]); (try simp only [decide_eq_true_eq, decide_eq_false_iff_not, bne_iff_ne, bne_eq_false_iff_eq, beq_iff_eq, beq_eq_false_iff_ne, ne_eq, Int.not_lt, Int.not_le, Bool.and_eq_true, Bool.and_eq_false_iff, Bool.or_eq_true, Bool.or_eq_false_iff] at h)) <;> (try (exfalso; omega))))
  rw [goS_three]
  refine ⟨?_, ?_, ?_⟩
  all_goals (repeat' (first | simp -implicitDefEqProofs (maxSteps := 1000000) (disch := (first | omega | (simp only [go_sem] <;> omega) | fail)) only [go_sem, ints, bools, mat, e0] | ((first | refine goIf_b (fun h => ?_) (fun h => ?_) | refine goG_b (fun h => ?_) (fun h => ?_) | refine goTG_b (fun h => ?_) (fun h => ?_) | refine goOG_b (fun h => ?_) (fun h => ?_)) <;> ((try simp only [Bool.not_eq_true', Bool.not_eq_false'] at h); (try simp only [h]); (try simp only [decide_eq_true_eq, decide_eq_false_iff_not, bne_iff_ne, bne_eq_false_iff_eq, beq_iff_eq, beq_eq_false_iff_ne, ne_eq, Int.not_lt, Int.not_le, Bool.and_eq_true, Bool.and_eq_false_iff, Bool.or_eq_true, Bool.or_eq_false_iff] at h)) <;> (try (exfalso; omega))) | ((first | refine goC_call [.r] (hpop) ?_ | refine goOC_call [.r] (hpop) ?_); simp -implicitDefEqProofs (maxSteps := 1000000) (disch := (first | omega | (simp only [go_sem] <;> omega) | fail)) only [go_sem, ints, bools, mat, e0]; fail_if_success (with_reducible show chk _ _)) | (rw [goS_two]; refine ⟨?_, ?_⟩))
    )
  all_goals (refine go_loop I V mu 1 ?_ ⟨Nat.le_refl _, hk1⟩ hstep)
  all_goals (simp -implicitDefEqProofs (maxSteps := 1000000) (disch := (first | omega | (simp only [go_sem] <;> omega) | fail)) only [go_sem, ints, bools, mat, I])
  all_goals rfl
/-- How often each word is covered. -/
def tmX (l X : List Int) : List Int := (allW l).map fun u => (X.count u : Int)
@[go_sem] theorem tmX_len (l X : List Int) : (tmX l X).length = (prodM l).toNat := by simp [tmX, allW_len]
theorem tmX_get (l X : List Int) {i : Nat} (h : i < (prodM l).toNat) : (tmX l X).getD i 0 = (X.count (i : Int) : Int) := by
  have h2 : i < (allW l).length := by rw [allW_len]; exact h
  have e := allW_get l h
  rw [List.getD_eq_getElem?_getD, List.getElem?_eq_getElem h2, Option.getD_some] at e
  simp [tmX, h2, e]
theorem tmX_nil (l : List Int) : List.replicate (prodM l).toNat (0 : Int) = tmX l [] := by
  refine eq_getD (by rw [List.length_replicate, tmX_len]) fun j hj => ?_
  rw [List.length_replicate] at hj
  rw [tmX_get l [] hj]; simp [hj]
theorem tmX_step (l X : List Int) {B : List Int} (hB : inC l B) {i : Nat} (hi : i < B.length) : (tmX l (X ++ B.take i)).set (B.getD i 0).toNat ((tmX l (X ++ B.take i)).getD (B.getD i 0).toNat 0 + 1) = tmX l (X ++ B.take (i + 1)) := by
  have hb := inC_get hB i hi
  refine eq_getD (by rw [List.length_set, tmX_len, tmX_len]) fun j hj => ?_
  rw [List.length_set, tmX_len] at hj
  rw [tmX_get l _ hj, take_one B hi, ← List.append_assoc, List.count_append (l₁ := X ++ B.take i), List.getD_eq_getElem?_getD, List.getElem?_set]
  by_cases e : (B.getD i 0).toNat = j
  · subst e
    rw [if_pos rfl, if_pos (by rw [tmX_len]; exact hj), Option.getD_some, tmX_get l _ hj, Int.toNat_of_nonneg hb.1]
    simp
  · rw [if_neg e, ← List.getD_eq_getElem?_getD, tmX_get l _ hj]
    have : List.count (j : Int) [B.getD i 0] = 0 := List.count_eq_zero.2 (by rw [List.mem_singleton]; omega)
    rw [this]; simp
/-- The first word not covered among the first ones; how many are not covered. -/
def opJ (l X : List Int) (j : Nat) : Option Int := ((allW l).take j).find? fun u => !decide (u ∈ X)
def muJ (l X : List Int) (j : Nat) : Nat := (((allW l).take j).filter fun u => !decide (u ∈ X)).length
theorem opJ_end (l X : List Int) : opJ l X (prodM l).toNat = opn l X := by rw [opJ, ← allW_len, List.take_length, opn]
theorem muJ_end (l X : List Int) : muJ l X (prodM l).toNat = muX l X := by rw [muJ, ← allW_len, List.take_length, muX]
theorem opJ_in (l X : List Int) {j : Nat} (hj : j < (prodM l).toNat) (h : (j : Int) ∈ X) : opJ l X (j + 1) = opJ l X j ∧ muJ l X (j + 1) = muJ l X j := by
  rw [opJ, opJ, muJ, muJ, take_allW l hj, List.find?_append, List.filter_append]
  have e : List.find? (fun u => !decide (u ∈ X)) [(j : Int)] = none := by simp [h]
  have e2 : List.filter (fun u => !decide (u ∈ X)) [(j : Int)] = [] := by simp [h]
  rw [e, e2]; simp
theorem opJ_out (l X : List Int) {j : Nat} (hj : j < (prodM l).toNat) (h : (j : Int) ∉ X) : (opJ l X (j + 1) = match opJ l X j with | none => some (j : Int) | some o => some o) ∧ muJ l X (j + 1) = muJ l X j + 1 := by
  rw [opJ, opJ, muJ, muJ, take_allW l hj, List.find?_append, List.filter_append]
  have e : List.find? (fun u => !decide (u ∈ X)) [(j : Int)] = some (j : Int) := by simp [h]
  have e2 : List.filter (fun u => !decide (u ∈ X)) [(j : Int)] = [(j : Int)] := by simp [h]
  rw [e, e2]
  refine ⟨?_, by simp⟩
  cases List.find? (fun u => !decide (u ∈ X)) (List.take j (allW l)) <;> rfl
theorem opJ_nn {l X : List Int} {j : Nat} {o : Int} (h : opJ l X j = some o) : 0 ≤ o := by
  have := List.mem_of_mem_take (List.mem_of_find?_eq_some h)
  rw [allW_mem] at this; exact this.1
theorem muJ_le (l X : List Int) (j : Nat) : muJ l X j ≤ j := by
  have h1 := List.length_filter_le (fun u => !decide (u ∈ X)) ((allW l).take j)
  rw [List.length_take] at h1
  unfold muJ; omega
def cvR (c : List Int) : Option (List Int) → R
  | none => .tup [.d nil, .d (db false)]
  | some L => .tup [.d (ints (c ++ L)), .d (db true)]
def NextO (c : List Int) (f : Nat) : Prop := (c = [] ∧ f = 0) ∨ (0 < c.length ∧ c.getD (c.length - 1) 0 + 1 = (f : Int))
end Go.Proofs.Ytaigdomjaglifaa.Va
