/- Contracts of the functions that FnExactFirstApart reaches (part 0). Condition: none. -/
import Derived.Test.YtaigdomjaglifaaDoorCFirstApart
import Derived.Sort.AssemblyPlain
set_option linter.all false
set_option linter.unusedSimpArgs false
set_option linter.unusedVariables false
namespace Go.Proofs.YtaigdomjaglifaaDoor.Va
open Go
set_option maxHeartbeats 4000000
set_option maxRecDepth 100000
attribute [go_sem_proc] reduceIte Nat.reduceEqDiff Nat.reduceAdd Nat.reduceBEq Nat.reduceMul Nat.reduceLeDiff Nat.reduceLT Nat.reduceMod Nat.reduceDiv Nat.reduceSub reduceCtorEq
theorem d_spec_l01In (a lo hi : Int) : Den PA f_spec_l01In [.d (di a), .d (di lo), .d (di hi)] [.any, .any, .any] (.d (db (decide (lo ≤ a) && decide (a ≤ hi)))) := by
  refine den_go [] l_spec_l01In ?_
  repeat' (first | simp -implicitDefEqProofs (maxSteps := 1000000) (disch := (first | omega | (simp only [go_sem] <;> omega) | fail)) only [go_sem, ints, bools, mat, c_spec_l01In] | ((first | refine goIf_b (fun h => ?_) (fun h => ?_) | refine goG_b (fun h => ?_) (fun h => ?_) | refine goTG_b (fun h => ?_) (fun h => ?_) | refine goOG_b (fun h => ?_) (fun h => ?_)) <;> ((try simp only [Bool.not_eq_true', Bool.not_eq_false'] at h); (try simp only [h]); (try simp only [decide_eq_true_eq, decide_eq_false_iff_not, bne_iff_ne, bne_eq_false_iff_eq, beq_iff_eq, beq_eq_false_iff_ne, ne_eq, Int.not_lt, Int.not_le, Bool.and_eq_true, Bool.and_eq_false_iff, Bool.or_eq_true, Bool.or_eq_false_iff] at h))))
theorem d_laws_szInt64S (x : D) (l : List Int) (hx : IsInts x l) (left : Int) (hl : l.length ≤ maxLen) (h0 : 0 ≤ left) (h1 : left ≤ 1048576) :
    Den PA f_laws_szInt64S [.d x, .d (di left)] [.any, .any] (.d (di (if left < l.length then -1 else left - l.length))) := by
  have hm : maxLen = 9223372036854775807 := rfl
  refine den_go [] l_laws_szInt64S ?_
  rcases hx with rfl | ⟨rfl, rfl⟩
  all_goals repeat' (first | simp -implicitDefEqProofs (maxSteps := 1000000) (disch := (first | omega | (simp only [go_sem] <;> omega) | fail)) only [go_sem, ints, bools, mat, c_laws_szInt64S] | ((first | refine goIf_b (fun h => ?_) (fun h => ?_) | refine goG_b (fun h => ?_) (fun h => ?_) | refine goTG_b (fun h => ?_) (fun h => ?_) | refine goOG_b (fun h => ?_) (fun h => ?_)) <;> ((try simp only [Bool.not_eq_true', Bool.not_eq_false'] at h); (try simp only [h]); (try simp only [decide_eq_true_eq, decide_eq_false_iff_not, bne_iff_ne, bne_eq_false_iff_eq, beq_iff_eq, beq_eq_false_iff_ne, ne_eq, Int.not_lt, Int.not_le, Bool.and_eq_true, Bool.and_eq_false_iff, Bool.or_eq_true, Bool.or_eq_false_iff] at h))))
  · rw [if_pos (by omega)]
  · rw [if_neg (by omega)]
  · exfalso; omega
  · refine div ?_
    rw [if_neg (by simp; omega)]; rfl
theorem d_laws_eqInt64S (l m : List Int) (hl : l.length < 1048577) :
    Den PA f_laws_eqInt64S [.d (ints l), .d (ints m)] [.any, .any] (.d (db (decide (l = m)))) := by
  refine den_go [] l_laws_eqInt64S ?_
  repeat' (first | simp -implicitDefEqProofs (maxSteps := 1000000) (disch := (first | omega | (simp only [go_sem] <;> omega) | fail)) only [go_sem, ints, bools, mat, c_laws_eqInt64S] | ((first | refine goIf_b (fun h => ?_) (fun h => ?_) | refine goG_b (fun h => ?_) (fun h => ?_) | refine goTG_b (fun h => ?_) (fun h => ?_) | refine goOG_b (fun h => ?_) (fun h => ?_)) <;> ((try simp only [Bool.not_eq_true', Bool.not_eq_false'] at h); (try simp only [h]); (try simp only [decide_eq_true_eq, decide_eq_false_iff_not, bne_iff_ne, bne_eq_false_iff_eq, beq_iff_eq, beq_eq_false_iff_ne, ne_eq, Int.not_lt, Int.not_le, Bool.and_eq_true, Bool.and_eq_false_iff, Bool.or_eq_true, Bool.or_eq_false_iff] at h))))
  · exact dbF fun e => by have := of_decide_eq_true e; subst this; exact h rfl
  refine go_loop (fun (j : Nat) => ⟨[(0, .d (ints l)), (1, .d (ints m)), (5, .d (di j))], []⟩) (fun j => j ≤ l.length ∧ ∀ i, i < j → l.getD i 0 = m.getD i 0) (fun j => l.length - j) 0 ?_ ?_ ?_
  · simp -implicitDefEqProofs (maxSteps := 1000000) (disch := (first | omega | (simp only [go_sem] <;> omega) | fail)) only [go_sem, ints, bools, mat]; rfl
  · simp
  · rintro j ⟨hj, hi⟩ J hJ
    repeat' (first | simp -implicitDefEqProofs (maxSteps := 1000000) (disch := (first | omega | (simp only [go_sem] <;> omega) | fail)) only [go_sem, ints, bools, mat] | ((first | refine goIf_b (fun h => ?_) (fun h => ?_) | refine goG_b (fun h => ?_) (fun h => ?_) | refine goTG_b (fun h => ?_) (fun h => ?_) | refine goOG_b (fun h => ?_) (fun h => ?_)) <;> ((try simp only [Bool.not_eq_true', Bool.not_eq_false'] at h); (try simp only [h]); (try simp only [decide_eq_true_eq, decide_eq_false_iff_not, bne_iff_ne, bne_eq_false_iff_eq, beq_iff_eq, beq_eq_false_iff_ne, ne_eq, Int.not_lt, Int.not_le, Bool.and_eq_true, Bool.and_eq_false_iff, Bool.or_eq_true, Bool.or_eq_false_iff] at h))))
    · exact dbF fun e => by have := of_decide_eq_true e; subst this; exact h rfl
    · refine hJ (j + 1) ⟨by omega, fun i hi' => ?_⟩ (by omega) _ (by simp -implicitDefEqProofs (maxSteps := 1000000) (disch := (first | omega | (simp only [go_sem] <;> omega) | fail)) only [go_sem, ints, bools, mat]; rfl)
      rcases Nat.lt_or_ge i j with h' | h'
      · exact hi i h'
      · have : i = j := by omega
        subst this; assumption
    · exact dbT (decide_eq_true (eq_getD (by omega) fun i hi' => hi i (by omega)))
theorem d_laws_toInt64S (x : D) (l : List Int) (hx : IsInts x l) (hl : l.length < 1048577) :
    Den PA f_laws_toInt64S [.d x] [.any] (.own 1 (l.map di)) := by
  refine den_go [] l_laws_toInt64S ?_
  rcases hx with rfl | ⟨rfl, rfl⟩
  rotate_left
  · repeat' (first | simp -implicitDefEqProofs (maxSteps := 1000000) (disch := (first | omega | (simp only [go_sem] <;> omega) | fail)) only [go_sem, ints, bools, mat, c_laws_toInt64S] | ((first | refine goIf_b (fun h => ?_) (fun h => ?_) | refine goG_b (fun h => ?_) (fun h => ?_) | refine goTG_b (fun h => ?_) (fun h => ?_) | refine goOG_b (fun h => ?_) (fun h => ?_)) <;> ((try simp only [Bool.not_eq_true', Bool.not_eq_false'] at h); (try simp only [h]); (try simp only [decide_eq_true_eq, decide_eq_false_iff_not, bne_iff_ne, bne_eq_false_iff_eq, beq_iff_eq, beq_eq_false_iff_ne, ne_eq, Int.not_lt, Int.not_le, Bool.and_eq_true, Bool.and_eq_false_iff, Bool.or_eq_true, Bool.or_eq_false_iff] at h))))
    refine go_loop (fun (_ : Unit) => ⟨[(0, .d (.v (.slice none 0 0))), (3, .sl 0 0 0 1), (4, .d (di 0))], [some (.dat 1 [])]⟩) (fun _ => True) (fun _ => 0) () ?_ trivial ?_
    · simp -implicitDefEqProofs (maxSteps := 1000000) (disch := (first | omega | (simp only [go_sem] <;> omega) | fail)) only [go_sem, ints, bools, mat]; rfl
    · intro _ _ J _
      repeat' (first | simp -implicitDefEqProofs (maxSteps := 1000000) (disch := (first | omega | (simp only [go_sem] <;> omega) | fail)) only [go_sem, ints, bools, mat] | ((first | refine goIf_b (fun h => ?_) (fun h => ?_) | refine goG_b (fun h => ?_) (fun h => ?_) | refine goTG_b (fun h => ?_) (fun h => ?_) | refine goOG_b (fun h => ?_) (fun h => ?_)) <;> ((try simp only [Bool.not_eq_true', Bool.not_eq_false'] at h); (try simp only [h]); (try simp only [decide_eq_true_eq, decide_eq_false_iff_not, bne_iff_ne, bne_eq_false_iff_eq, beq_iff_eq, beq_eq_false_iff_ne, ne_eq, Int.not_lt, Int.not_le, Bool.and_eq_true, Bool.and_eq_false_iff, Bool.or_eq_true, Bool.or_eq_false_iff] at h))))
  repeat' (first | simp -implicitDefEqProofs (maxSteps := 1000000) (disch := (first | omega | (simp only [go_sem] <;> omega) | fail)) only [go_sem, ints, bools, mat, c_laws_toInt64S] | ((first | refine goIf_b (fun h => ?_) (fun h => ?_) | refine goG_b (fun h => ?_) (fun h => ?_) | refine goTG_b (fun h => ?_) (fun h => ?_) | refine goOG_b (fun h => ?_) (fun h => ?_)) <;> ((try simp only [Bool.not_eq_true', Bool.not_eq_false'] at h); (try simp only [h]); (try simp only [decide_eq_true_eq, decide_eq_false_iff_not, bne_iff_ne, bne_eq_false_iff_eq, beq_iff_eq, beq_eq_false_iff_ne, ne_eq, Int.not_lt, Int.not_le, Bool.and_eq_true, Bool.and_eq_false_iff, Bool.or_eq_true, Bool.or_eq_false_iff] at h))))
  refine go_loop (fun (j : Nat) => ⟨[(0, .d (ints l)), (3, .sl 0 0 l.length 1), (4, .d (di j))], [some (.dat 1 ((l.take j ++ List.replicate (l.length - j) 0).map di))]⟩) (fun j => j ≤ l.length) (fun j => l.length - j) 0 ?_ ?_ ?_
  · simp -implicitDefEqProofs (maxSteps := 1000000) (disch := (first | omega | (simp only [go_sem] <;> omega) | fail)) only [go_sem, ints, bools, mat]; rfl
  · simp
  · rintro j hj J hJ
    repeat' (first | simp -implicitDefEqProofs (maxSteps := 1000000) (disch := (first | omega | (simp only [go_sem] <;> omega) | fail)) only [go_sem, ints, bools, mat] | ((first | refine goIf_b (fun h => ?_) (fun h => ?_) | refine goG_b (fun h => ?_) (fun h => ?_) | refine goTG_b (fun h => ?_) (fun h => ?_) | refine goOG_b (fun h => ?_) (fun h => ?_)) <;> ((try simp only [Bool.not_eq_true', Bool.not_eq_false'] at h); (try simp only [h]); (try simp only [decide_eq_true_eq, decide_eq_false_iff_not, bne_iff_ne, bne_eq_false_iff_eq, beq_iff_eq, beq_eq_false_iff_ne, ne_eq, Int.not_lt, Int.not_le, Bool.and_eq_true, Bool.and_eq_false_iff, Bool.or_eq_true, Bool.or_eq_false_iff] at h))))
    · refine hJ (j + 1) (by omega) (by omega) _ ?_
      simp -implicitDefEqProofs (maxSteps := 1000000) (disch := (first | omega | (simp only [go_sem] <;> omega) | fail)) only [go_sem, ints, bools, mat]
      rw [fill_step l 0 0 (by omega) rfl]; rfl
    · have : j = l.length := by omega
      subst this; simp
theorem d_laws_szSpace (x : D) (l : List Int) (hx : IsInts x l) (left : Int) (hl : l.length ≤ maxLen) (h0 : 0 ≤ left) (h1 : left ≤ 1048576) :
    Den PA f_laws_szSpace [.d (.agg [x]), .d (di left)] [.any, .any] (.d (di (if left < l.length then -1 else left - l.length))) := by
  refine den_go [] l_laws_szSpace ?_
  simp -implicitDefEqProofs (maxSteps := 1000000) (disch := (first | omega | (simp only [go_sem] <;> omega) | fail)) only [go_sem, ints, bools, mat, c_laws_szSpace]
  first | refine goC_call [.r, .r] (d_laws_szInt64S x l hx left hl h0 h1) ?_ | refine goOC_call [.r, .r] (d_laws_szInt64S x l hx left hl h0 h1) ?_
  repeat' (first | simp -implicitDefEqProofs (maxSteps := 1000000) (disch := (first | omega | (simp only [go_sem] <;> omega) | fail)) only [go_sem, ints, bools, mat] | ((first | refine goIf_b (fun h => ?_) (fun h => ?_) | refine goG_b (fun h => ?_) (fun h => ?_) | refine goTG_b (fun h => ?_) (fun h => ?_) | refine goOG_b (fun h => ?_) (fun h => ?_)) <;> ((try simp only [Bool.not_eq_true', Bool.not_eq_false'] at h); (try simp only [h]); (try simp only [decide_eq_true_eq, decide_eq_false_iff_not, bne_iff_ne, bne_eq_false_iff_eq, beq_iff_eq, beq_eq_false_iff_ne, ne_eq, Int.not_lt, Int.not_le, Bool.and_eq_true, Bool.and_eq_false_iff, Bool.or_eq_true, Bool.or_eq_false_iff] at h))))
  by_cases hh : left < (l.length : Int)
  · rw [if_pos hh]
  · rw [if_neg hh] at h; omega
theorem d_laws_eqSpace (l m : List Int) (hl : l.length < 1048577) :
    Den PA f_laws_eqSpace [.d (.agg [ints l]), .d (.agg [ints m])] [.any, .any] (.d (db (decide (l = m)))) := by
  refine den_go [] l_laws_eqSpace ?_
  simp -implicitDefEqProofs (maxSteps := 1000000) (disch := (first | omega | (simp only [go_sem] <;> omega) | fail)) only [go_sem, ints, bools, mat, c_laws_eqSpace]
  first | refine goC_call [.r, .r] (d_laws_eqInt64S l m hl) ?_ | refine goOC_call [.r, .r] (d_laws_eqInt64S l m hl) ?_
  repeat' (first | simp -implicitDefEqProofs (maxSteps := 1000000) (disch := (first | omega | (simp only [go_sem] <;> omega) | fail)) only [go_sem, ints, bools, mat] | ((first | refine goIf_b (fun h => ?_) (fun h => ?_) | refine goG_b (fun h => ?_) (fun h => ?_) | refine goTG_b (fun h => ?_) (fun h => ?_) | refine goOG_b (fun h => ?_) (fun h => ?_)) <;> ((try simp only [Bool.not_eq_true', Bool.not_eq_false'] at h); (try simp only [h]); (try simp only [decide_eq_true_eq, decide_eq_false_iff_not, bne_iff_ne, bne_eq_false_iff_eq, beq_iff_eq, beq_eq_false_iff_ne, ne_eq, Int.not_lt, Int.not_le, Bool.and_eq_true, Bool.and_eq_false_iff, Bool.or_eq_true, Bool.or_eq_false_iff] at h))))
theorem d_laws_toSpace (x : D) (l : List Int) (hx : IsInts x l) (hl : l.length < 1048577) :
    Den PA f_laws_toSpace [.d (.agg [x])] [.any] (.agg [.own 1 (l.map di)]) := by
  refine den_go [] l_laws_toSpace ?_
  simp -implicitDefEqProofs (maxSteps := 1000000) (disch := (first | omega | (simp only [go_sem] <;> omega) | fail)) only [go_sem, ints, bools, mat, c_laws_toSpace]
  first | refine goC_call [.r] (d_laws_toInt64S x l hx hl) ?_ | refine goOC_call [.r] (d_laws_toInt64S x l hx hl) ?_
  repeat' (first | simp -implicitDefEqProofs (maxSteps := 1000000) (disch := (first | omega | (simp only [go_sem] <;> omega) | fail)) only [go_sem, ints, bools, mat] | ((first | refine goIf_b (fun h => ?_) (fun h => ?_) | refine goG_b (fun h => ?_) (fun h => ?_) | refine goTG_b (fun h => ?_) (fun h => ?_) | refine goOG_b (fun h => ?_) (fun h => ?_)) <;> ((try simp only [Bool.not_eq_true', Bool.not_eq_false'] at h); (try simp only [h]); (try simp only [decide_eq_true_eq, decide_eq_false_iff_not, bne_iff_ne, bne_eq_false_iff_eq, beq_iff_eq, beq_eq_false_iff_ne, ne_eq, Int.not_lt, Int.not_le, Bool.and_eq_true, Bool.and_eq_false_iff, Bool.or_eq_true, Bool.or_eq_false_iff] at h))))
def prodM (l : List Int) : Int := l.foldl (· * ·) 1
theorem take_one (l : List Int) {j : Nat} (h : j < l.length) : l.take (j + 1) = l.take j ++ [l.getD j 0] := by
  rw [List.take_add_one]; simp [h]
theorem prodM_step (l : List Int) {j : Nat} (h : j < l.length) : prodM (l.take (j + 1)) = prodM (l.take j) * l.getD j 0 := by
  rw [take_one l h]; simp [prodM]
theorem prodM_bnd (l : List Int) : ∀ j, j ≤ l.length → (∀ i, i < j → 2 ≤ l.getD i 0 ∧ l.getD i 0 ≤ 4) → 1 ≤ prodM (l.take j) ∧ prodM (l.take j) ≤ 4 ^ j
  | 0, _, _ => by simp [prodM]
  | j + 1, hj, h => by
    obtain ⟨h1, h2⟩ := prodM_bnd l j (by omega) (fun i hi => h i (by omega))
    obtain ⟨h3, h4⟩ := h j (by omega)
    rw [prodM_step l (by omega)]
    constructor
    · have := Int.mul_le_mul h1 (show (1 : Int) ≤ l.getD j 0 by omega) (by omega) (by omega)
      simpa using this
    · rw [Int.pow_succ]
      exact Int.mul_le_mul h2 h4 (by omega) (by omega)
theorem pow4 {j : Nat} (h : j ≤ 8) : (4 : Int) ^ j ≤ 65536 := by
  exact (by decide : ∀ j : Fin 9, (4 : Int) ^ (j : Nat) ≤ 65536) ⟨j, by omega⟩
theorem prodM_small (l : List Int) {j : Nat} (h8 : j ≤ 8) (hj : j ≤ l.length) (h : ∀ i, i < j → 2 ≤ l.getD i 0 ∧ l.getD i 0 ≤ 4) : 1 ≤ prodM (l.take j) ∧ prodM (l.take j) ≤ 65536 := by
  obtain ⟨h1, h2⟩ := prodM_bnd l j hj h
  exact ⟨h1, Int.le_trans h2 (pow4 h8)⟩
/-- A space: one to eight places, two to four digits each, at most 1024 words. -/
def isSpaceM (l : List Int) : Bool := decide (1 ≤ l.length) && decide (l.length ≤ 8) && l.all (fun n => decide (2 ≤ n) && decide (n ≤ 4)) && decide (prodM l ≤ 1024)
theorem isSpaceM_ok (l : List Int) : isSpaceM l = true ↔ (1 ≤ l.length ∧ l.length ≤ 8) ∧ (∀ j, j < l.length → 2 ≤ l.getD j 0 ∧ l.getD j 0 ≤ 4) ∧ prodM l ≤ 1024 := by
  simp only [isSpaceM, Bool.and_eq_true, decide_eq_true_eq, all_getD, and_assoc]
theorem d_spec_l01N (l : List Int) (h8 : l.length ≤ 8) (h : ∀ i, i < l.length → 2 ≤ l.getD i 0 ∧ l.getD i 0 ≤ 4) :
    Den PA f_spec_l01N [.d (.agg [ints l])] [.any] (.d (di (prodM l))) := by
  refine den_go [] l_spec_l01N ?_
  simp -implicitDefEqProofs (maxSteps := 1000000) (disch := (first | omega | (simp only [go_sem] <;> omega) | fail)) only [go_sem, ints, bools, mat, c_spec_l01N]
  refine go_loop (fun (j : Nat) => ⟨[(1, .ref 0 0), (3, .d (di (prodM (l.take j)))), (4, .d (di j))], [some (.var [ints l])]⟩) (fun j => j ≤ l.length) (fun j => l.length - j) 0 ?_ ?_ ?_
  · simp -implicitDefEqProofs (maxSteps := 1000000) (disch := (first | omega | (simp only [go_sem] <;> omega) | fail)) only [go_sem, ints, bools, mat]; rfl
  · simp
  · rintro j hj J hJ
    have hb := prodM_small l (j := j) (by omega) hj (fun i hi => h i (by omega))
    have hb' := fun hj' => prodM_small l (j := j + 1) (by omega) hj' (fun i hi => h i (by omega))
    have hs := fun hj' => prodM_step l (j := j) hj'
    repeat' (first | simp -implicitDefEqProofs (maxSteps := 1000000) (disch := (first | omega | (simp only [go_sem] <;> omega) | fail)) only [go_sem, ints, bools, mat] | ((first | refine goIf_b (fun h => ?_) (fun h => ?_) | refine goG_b (fun h => ?_) (fun h => ?_) | refine goTG_b (fun h => ?_) (fun h => ?_) | refine goOG_b (fun h => ?_) (fun h => ?_)) <;> ((try simp only [Bool.not_eq_true', Bool.not_eq_false'] at h); (try simp only [h]); (try simp only [decide_eq_true_eq, decide_eq_false_iff_not, bne_iff_ne, bne_eq_false_iff_eq, beq_iff_eq, beq_eq_false_iff_ne, ne_eq, Int.not_lt, Int.not_le, Bool.and_eq_true, Bool.and_eq_false_iff, Bool.or_eq_true, Bool.or_eq_false_iff] at h))))
    · rename_i hlt
      have hlt : j < l.length := by omega
      have h1 := hb' (by omega)
      rw [hs hlt] at h1
      refine hJ (j + 1) (by omega) (by omega) _ ?_
      simp -implicitDefEqProofs (maxSteps := 1000000) (disch := (first | omega | (simp only [go_sem] <;> omega) | fail)) only [go_sem, ints, bools, mat]
      rw [hs hlt]; rfl
theorem d_spec_l01Is (l : List Int) (hl : l.length < 1048577) :
    Den PA f_spec_l01Is [.d (.agg [ints l])] [.any] (.d (db (isSpaceM l))) := by
  have e := isSpaceM_ok l
  refine den_go [] l_spec_l01Is ?_
  simp -implicitDefEqProofs (maxSteps := 1000000) (disch := (first | omega | (simp only [go_sem] <;> omega) | fail)) only [go_sem, ints, bools, mat, c_spec_l01Is]
  first | refine goC_call [.r, .r, .r] (d_spec_l01In l.length 1 8) ?_ | refine goOC_call [.r, .r, .r] (d_spec_l01In l.length 1 8) ?_
  repeat' (first | simp -implicitDefEqProofs (maxSteps := 1000000) (disch := (first | omega | (simp only [go_sem] <;> omega) | fail)) only [go_sem, ints, bools, mat] | ((first | refine goIf_b (fun h => ?_) (fun h => ?_) | refine goG_b (fun h => ?_) (fun h => ?_) | refine goTG_b (fun h => ?_) (fun h => ?_) | refine goOG_b (fun h => ?_) (fun h => ?_)) <;> ((try simp only [Bool.not_eq_true', Bool.not_eq_false'] at h); (try simp only [h]); (try simp only [decide_eq_true_eq, decide_eq_false_iff_not, bne_iff_ne, bne_eq_false_iff_eq, beq_iff_eq, beq_eq_false_iff_ne, ne_eq, Int.not_lt, Int.not_le, Bool.and_eq_true, Bool.and_eq_false_iff, Bool.or_eq_true, Bool.or_eq_false_iff] at h))))
  rotate_left
  · exact dbF fun h' => by have := (e.1 h').1; omega
  refine go_loop (fun (j : Nat) => ⟨[(1, .ref 0 0), (3, .d (di j))], [some (.var [ints l])]⟩) (fun j => j ≤ l.length ∧ ∀ i, i < j → 2 ≤ l.getD i 0 ∧ l.getD i 0 ≤ 4) (fun j => l.length - j) 0 ?_ ?_ ?_
  · simp -implicitDefEqProofs (maxSteps := 1000000) (disch := (first | omega | (simp only [go_sem] <;> omega) | fail)) only [go_sem, ints, bools, mat]; rfl
  · simp
  · rintro j ⟨hj, hi⟩ J hJ
    repeat' (first | simp -implicitDefEqProofs (maxSteps := 1000000) (disch := (first | omega | (simp only [go_sem] <;> omega) | fail)) only [go_sem, ints, bools, mat] | ((first | refine goIf_b (fun h => ?_) (fun h => ?_) | refine goG_b (fun h => ?_) (fun h => ?_) | refine goTG_b (fun h => ?_) (fun h => ?_) | refine goOG_b (fun h => ?_) (fun h => ?_)) <;> ((try simp only [Bool.not_eq_true', Bool.not_eq_false'] at h); (try simp only [h]); (try simp only [decide_eq_true_eq, decide_eq_false_iff_not, bne_iff_ne, bne_eq_false_iff_eq, beq_iff_eq, beq_eq_false_iff_ne, ne_eq, Int.not_lt, Int.not_le, Bool.and_eq_true, Bool.and_eq_false_iff, Bool.or_eq_true, Bool.or_eq_false_iff] at h))))
    · first | refine goC_call [.r, .r, .r] (d_spec_l01In (l.getD j 0) 2 4) ?_ | refine goOC_call [.r, .r, .r] (d_spec_l01In (l.getD j 0) 2 4) ?_
      repeat' (first | simp -implicitDefEqProofs (maxSteps := 1000000) (disch := (first | omega | (simp only [go_sem] <;> omega) | fail)) only [go_sem, ints, bools, mat] | ((first | refine goIf_b (fun h => ?_) (fun h => ?_) | refine goG_b (fun h => ?_) (fun h => ?_) | refine goTG_b (fun h => ?_) (fun h => ?_) | refine goOG_b (fun h => ?_) (fun h => ?_)) <;> ((try simp only [Bool.not_eq_true', Bool.not_eq_false'] at h); (try simp only [h]); (try simp only [decide_eq_true_eq, decide_eq_false_iff_not, bne_iff_ne, bne_eq_false_iff_eq, beq_iff_eq, beq_eq_false_iff_ne, ne_eq, Int.not_lt, Int.not_le, Bool.and_eq_true, Bool.and_eq_false_iff, Bool.or_eq_true, Bool.or_eq_false_iff] at h))))
      · refine hJ (j + 1) ⟨by omega, fun i hi' => ?_⟩ (by omega) _ (by simp -implicitDefEqProofs (maxSteps := 1000000) (disch := (first | omega | (simp only [go_sem] <;> omega) | fail)) only [go_sem, ints, bools, mat]; rfl)
        rcases Nat.lt_or_ge i j with h' | h'
        · exact hi i h'
        · have : i = j := by omega
          subst this; assumption
      · exact dbF fun h' => by have := (e.1 h').2.1 j (by omega); omega
    · have hj' : j = l.length := by omega
      subst hj'
      first | refine goC_call [.r] (d_spec_l01N l (by omega) hi) ?_ | refine goOC_call [.r] (d_spec_l01N l (by omega) hi) ?_
      repeat' (first | simp -implicitDefEqProofs (maxSteps := 1000000) (disch := (first | omega | (simp only [go_sem] <;> omega) | fail)) only [go_sem, ints, bools, mat] | ((first | refine goIf_b (fun h => ?_) (fun h => ?_) | refine goG_b (fun h => ?_) (fun h => ?_) | refine goTG_b (fun h => ?_) (fun h => ?_) | refine goOG_b (fun h => ?_) (fun h => ?_)) <;> ((try simp only [Bool.not_eq_true', Bool.not_eq_false'] at h); (try simp only [h]); (try simp only [decide_eq_true_eq, decide_eq_false_iff_not, bne_iff_ne, bne_eq_false_iff_eq, beq_iff_eq, beq_eq_false_iff_ne, ne_eq, Int.not_lt, Int.not_le, Bool.and_eq_true, Bool.and_eq_false_iff, Bool.or_eq_true, Bool.or_eq_false_iff] at h))))
      refine dbv ?_
      cases hm : isSpaceM l with
      | true => exact decide_eq_true (e.1 hm).2.2
      | false =>
        refine decide_eq_false fun hp => ?_
        have := e.2 ⟨by omega, hi, hp⟩
        rw [hm] at this; cases this
theorem d_impl_IsSpace (l : List Int) (hl : l.length < 1048577) :
    Den PA f_impl_IsSpace [.d (.agg [ints l])] [.any] (.d (db (isSpaceM l))) := by
  have e := isSpaceM_ok l
  refine den_go [] l_impl_IsSpace ?_
  repeat' (first | simp -implicitDefEqProofs (maxSteps := 1000000) (disch := (first | omega | (simp only [go_sem] <;> omega) | fail)) only [go_sem, ints, bools, mat, c_impl_IsSpace] | ((first | refine goIf_b (fun h => ?_) (fun h => ?_) | refine goG_b (fun h => ?_) (fun h => ?_) | refine goTG_b (fun h => ?_) (fun h => ?_) | refine goOG_b (fun h => ?_) (fun h => ?_)) <;> ((try simp only [Bool.not_eq_true', Bool.not_eq_false'] at h); (try simp only [h]); (try simp only [decide_eq_true_eq, decide_eq_false_iff_not, bne_iff_ne, bne_eq_false_iff_eq, beq_iff_eq, beq_eq_false_iff_ne, ne_eq, Int.not_lt, Int.not_le, Bool.and_eq_true, Bool.and_eq_false_iff, Bool.or_eq_true, Bool.or_eq_false_iff] at h))))
  · exact dbF fun h' => by have := (e.1 h').1; omega
  · refine go_loop (fun (j : Nat) => ⟨[(3, .d (di (prodM (l.take j)))), (17, .d (ints l)), (18, .d (di l.length)), (19, .d (di j))], []⟩) (fun j => j ≤ l.length ∧ ∀ i, i < j → 2 ≤ l.getD i 0 ∧ l.getD i 0 ≤ 4) (fun j => l.length - j) 0 ?_ ?_ ?_
    · simp -implicitDefEqProofs (maxSteps := 1000000) (disch := (first | omega | (simp only [go_sem] <;> omega) | fail)) only [go_sem, ints, bools, mat]; rfl
    · simp
    · rintro j ⟨hj, hi⟩ J hJ
      have hb := prodM_small l (j := j) (by omega) hj hi
      repeat' (first | simp -implicitDefEqProofs (maxSteps := 1000000) (disch := (first | omega | (simp only [go_sem] <;> omega) | fail)) only [go_sem, ints, bools, mat] | ((first | refine goIf_b (fun h => ?_) (fun h => ?_) | refine goG_b (fun h => ?_) (fun h => ?_) | refine goTG_b (fun h => ?_) (fun h => ?_) | refine goOG_b (fun h => ?_) (fun h => ?_)) <;> ((try simp only [Bool.not_eq_true', Bool.not_eq_false'] at h); (try simp only [h]); (try simp only [decide_eq_true_eq, decide_eq_false_iff_not, bne_iff_ne, bne_eq_false_iff_eq, beq_iff_eq, beq_eq_false_iff_ne, ne_eq, Int.not_lt, Int.not_le, Bool.and_eq_true, Bool.and_eq_false_iff, Bool.or_eq_true, Bool.or_eq_false_iff] at h))))
      · exact dbF fun h' => by have := (e.1 h').2.1 j (by omega); omega
      · have hi' : ∀ i, i < j + 1 → 2 ≤ l.getD i 0 ∧ l.getD i 0 ≤ 4 := fun i hi' => by
          rcases Nat.lt_or_ge i j with h' | h'
          · exact hi i h'
          · have : i = j := by omega
            subst this; exact ⟨by assumption, by assumption⟩
        have hb' := prodM_small l (j := j + 1) (by omega) (by omega) hi'
        have hs := prodM_step l (j := j) (by omega)
        rw [hs] at hb'
        refine hJ (j + 1) ⟨by omega, hi'⟩ (by omega) _ ?_
        simp -implicitDefEqProofs (maxSteps := 1000000) (disch := (first | omega | (simp only [go_sem] <;> omega) | fail)) only [go_sem, ints, bools, mat]
        rw [hs]; rfl
      · exact dbF fun h' => by have := (e.1 h').2.1 j (by omega); omega
      · have hj' : j = l.length := by omega
        subst hj'
        refine dbv ?_
        cases hm : isSpaceM l with
        | true => exact decide_eq_true (e.1 hm).2.2
        | false =>
          refine decide_eq_false fun hp => ?_
          have := e.2 ⟨by omega, hi, hp⟩
          rw [hm] at this; cases this
  · exact dbF fun h' => by have := (e.1 h').1; omega
theorem isSpaceM_q {l : List Int} (h : isSpaceM l = true) : ∀ j, j < l.length → 2 ≤ l.getD j 0 ∧ l.getD j 0 ≤ 4 := ((isSpaceM_ok l).1 h).2.1
theorem isSpaceM_n {l : List Int} (h : isSpaceM l = true) : 1 ≤ l.length ∧ l.length ≤ 8 := ((isSpaceM_ok l).1 h).1
theorem sz_ok {l : List Int} {left : Int} (h : 0 ≤ (if left < (l.length : Int) then (-1 : Int) else left - l.length)) : (l.length : Int) ≤ left := by
  by_cases hh : left < (l.length : Int)
  · rw [if_pos hh] at h; omega
  · omega
abbrev nil : D := .v (.slice none 0 0)
def markL (n : Nat) (k : Int) : List Int := (List.range n).map fun (i : Nat) => k + (i : Int)
@[go_sem] theorem markL_len (n : Nat) (k : Int) : (markL n k).length = n := by simp [markL]
theorem markL_get {n : Nat} (k : Int) {j : Nat} (h : j < n) : (markL n k).getD j 0 = k + j := by simp [markL, h]
@[go_sem] theorem take_markL (n : Nat) (k : Int) : (markL n k).take n = markL n k := List.take_of_length_le (by rw [markL_len]; exact Nat.le_refl _)
theorem mark_step (l : List Int) (k : Int) {j : Nat} (h : j < l.length) : (markL j k ++ l.drop j).set j (k + j) = markL (j + 1) k ++ l.drop (j + 1) := by
  apply List.ext_getElem
  · simp [markL]; omega
  · intro i h1 h2
    simp [markL] at h1 h2
    rw [List.getElem_set]
    split
    · subst_vars; simp [markL, List.getElem_append]
    · simp only [List.getElem_append, markL_len]
      split <;> split
      · simp [markL]
      · omega
      · omega
      · simp only [List.getElem_drop]; congr 1; omega
theorem d_laws_markInt64S (l : List Int) (k : Int) (hl : l.length < 1048577) (hk : 0 ≤ k) (hk2 : k < 1000000000000) :
    Den PA f_laws_markInt64S [.own 1 (l.map di), .d (di k)] [.own 1 ((markL l.length k).map di), .any] (.d (di (k + l.length))) := by
  refine den_go [0] l_laws_markInt64S ?_
  repeat' (first | simp -implicitDefEqProofs (maxSteps := 1000000) (disch := (first | omega | (simp only [go_sem] <;> omega) | fail)) only [go_sem, ints, bools, mat, c_laws_markInt64S] | ((first | refine goIf_b (fun h => ?_) (fun h => ?_) | refine goG_b (fun h => ?_) (fun h => ?_) | refine goTG_b (fun h => ?_) (fun h => ?_) | refine goOG_b (fun h => ?_) (fun h => ?_)) <;> ((try simp only [Bool.not_eq_true', Bool.not_eq_false'] at h); (try simp only [h]); (try simp only [decide_eq_true_eq, decide_eq_false_iff_not, bne_iff_ne, bne_eq_false_iff_eq, beq_iff_eq, beq_eq_false_iff_ne, ne_eq, Int.not_lt, Int.not_le, Bool.and_eq_true, Bool.and_eq_false_iff, Bool.or_eq_true, Bool.or_eq_false_iff] at h))))
  refine go_loop (fun (j : Nat) => ⟨[(0, .sl 0 0 l.length 1), (1, .d (di (k + j))), (5, .d (di j)), (19, .sl 0 0 l.length 1)], [some (.dat 1 ((markL j k ++ l.drop j).map di))]⟩) (fun j => j ≤ l.length) (fun j => l.length - j) 0 ?_ ?_ ?_
  · simp -implicitDefEqProofs (maxSteps := 1000000) (disch := (first | omega | (simp only [go_sem] <;> omega) | fail)) only [go_sem, ints, bools, mat]; simp [markL]
  · simp
  · rintro j hj J hJ
    have hlen := markL_len j k
    have hst := fun h => mark_step l k (j := j) h
    repeat' (first | simp -implicitDefEqProofs (maxSteps := 1000000) (disch := (first | omega | (simp only [go_sem] <;> omega) | fail)) only [go_sem, ints, bools, mat] | ((first | refine goIf_b (fun h => ?_) (fun h => ?_) | refine goG_b (fun h => ?_) (fun h => ?_) | refine goTG_b (fun h => ?_) (fun h => ?_) | refine goOG_b (fun h => ?_) (fun h => ?_)) <;> ((try simp only [Bool.not_eq_true', Bool.not_eq_false'] at h); (try simp only [h]); (try simp only [decide_eq_true_eq, decide_eq_false_iff_not, bne_iff_ne, bne_eq_false_iff_eq, beq_iff_eq, beq_eq_false_iff_ne, ne_eq, Int.not_lt, Int.not_le, Bool.and_eq_true, Bool.and_eq_false_iff, Bool.or_eq_true, Bool.or_eq_false_iff] at h))))
    · refine hJ (j + 1) (by omega) (by omega) _ ?_
      simp -implicitDefEqProofs (maxSteps := 1000000) (disch := (first | omega | (simp only [go_sem] <;> omega) | fail)) only [go_sem, ints, bools, mat]
      rw [hst (by omega)]; simp only [Int.natCast_add, Int.natCast_one, Int.add_assoc]
    · have : j = l.length := by omega
      subst this; simp
theorem d_laws_markInt64S_nil (k : Int) : Den PA f_laws_markInt64S [.d nil, .d (di k)] [.any, .any] (.d (di k)) := by
  refine den_go [] l_laws_markInt64S ?_
  repeat' (first | simp -implicitDefEqProofs (maxSteps := 1000000) (disch := (first | omega | (simp only [go_sem] <;> omega) | fail)) only [go_sem, ints, bools, mat, c_laws_markInt64S] | ((first | refine goIf_b (fun h => ?_) (fun h => ?_) | refine goG_b (fun h => ?_) (fun h => ?_) | refine goTG_b (fun h => ?_) (fun h => ?_) | refine goOG_b (fun h => ?_) (fun h => ?_)) <;> ((try simp only [Bool.not_eq_true', Bool.not_eq_false'] at h); (try simp only [h]); (try simp only [decide_eq_true_eq, decide_eq_false_iff_not, bne_iff_ne, bne_eq_false_iff_eq, beq_iff_eq, beq_eq_false_iff_ne, ne_eq, Int.not_lt, Int.not_le, Bool.and_eq_true, Bool.and_eq_false_iff, Bool.or_eq_true, Bool.or_eq_false_iff] at h))))
  refine go_loop (fun (_ : Unit) => ⟨[(0, .d nil), (1, .d (di k)), (5, .d (di 0)), (19, .any)], []⟩) (fun _ => True) (fun _ => 0) () ?_ trivial ?_
  · (simp -implicitDefEqProofs (maxSteps := 1000000) (disch := (first | omega | (simp only [go_sem] <;> omega) | fail)) only [go_sem, ints, bools, mat] <;> rfl)
  · intro _ _ J _
    repeat' (first | simp -implicitDefEqProofs (maxSteps := 1000000) (disch := (first | omega | (simp only [go_sem] <;> omega) | fail)) only [go_sem, ints, bools, mat] | ((first | refine goIf_b (fun h => ?_) (fun h => ?_) | refine goG_b (fun h => ?_) (fun h => ?_) | refine goTG_b (fun h => ?_) (fun h => ?_) | refine goOG_b (fun h => ?_) (fun h => ?_)) <;> ((try simp only [Bool.not_eq_true', Bool.not_eq_false'] at h); (try simp only [h]); (try simp only [decide_eq_true_eq, decide_eq_false_iff_not, bne_iff_ne, bne_eq_false_iff_eq, beq_iff_eq, beq_eq_false_iff_ne, ne_eq, Int.not_lt, Int.not_le, Bool.and_eq_true, Bool.and_eq_false_iff, Bool.or_eq_true, Bool.or_eq_false_iff] at h))))
theorem d_laws_heldInt64S (n : Nat) (k : Int) (hl : n < 1048577) (hk : 0 ≤ k) (hk2 : k < 1000000000000) :
    Den PA f_laws_heldInt64S [.d (ints (markL n k)), .d (di k)] [.any, .any] (.d (di (k + n))) := by
  have hlen := markL_len n k
  refine den_go [] l_laws_heldInt64S ?_
  repeat' (first | simp -implicitDefEqProofs (maxSteps := 1000000) (disch := (first | omega | (simp only [go_sem] <;> omega) | fail)) only [go_sem, ints, bools, mat, c_laws_heldInt64S] | ((first | refine goIf_b (fun h => ?_) (fun h => ?_) | refine goG_b (fun h => ?_) (fun h => ?_) | refine goTG_b (fun h => ?_) (fun h => ?_) | refine goOG_b (fun h => ?_) (fun h => ?_)) <;> ((try simp only [Bool.not_eq_true', Bool.not_eq_false'] at h); (try simp only [h]); (try simp only [decide_eq_true_eq, decide_eq_false_iff_not, bne_iff_ne, bne_eq_false_iff_eq, beq_iff_eq, beq_eq_false_iff_ne, ne_eq, Int.not_lt, Int.not_le, Bool.and_eq_true, Bool.and_eq_false_iff, Bool.or_eq_true, Bool.or_eq_false_iff] at h))))
  refine go_loop (fun (j : Nat) => ⟨[(0, .d (ints (markL n k))), (1, .d (di (k + j))), (5, .d (di j))], []⟩) (fun j => j ≤ n) (fun j => n - j) 0 ?_ ?_ ?_
  · simp -implicitDefEqProofs (maxSteps := 1000000) (disch := (first | omega | (simp only [go_sem] <;> omega) | fail)) only [go_sem, ints, bools, mat]; simp
  · simp
  · rintro j hj J hJ
    have hst := fun h => markL_get k (n := n) (j := j) h
    repeat' (first | simp -implicitDefEqProofs (maxSteps := 1000000) (disch := (first | omega | (simp only [go_sem] <;> omega) | fail)) only [go_sem, ints, bools, mat] | ((first | refine goIf_b (fun h => ?_) (fun h => ?_) | refine goG_b (fun h => ?_) (fun h => ?_) | refine goTG_b (fun h => ?_) (fun h => ?_) | refine goOG_b (fun h => ?_) (fun h => ?_)) <;> ((try simp only [Bool.not_eq_true', Bool.not_eq_false'] at h); (try simp only [h]); (try simp only [decide_eq_true_eq, decide_eq_false_iff_not, bne_iff_ne, bne_eq_false_iff_eq, beq_iff_eq, beq_eq_false_iff_ne, ne_eq, Int.not_lt, Int.not_le, Bool.and_eq_true, Bool.and_eq_false_iff, Bool.or_eq_true, Bool.or_eq_false_iff] at h))))
    · exfalso; rw [hst (by omega)] at h; exact h rfl
    · refine hJ (j + 1) (by omega) (by omega) _ ?_
      simp -implicitDefEqProofs (maxSteps := 1000000) (disch := (first | omega | (simp only [go_sem] <;> omega) | fail)) only [go_sem, ints, bools, mat]
      simp only [Int.natCast_add, Int.natCast_one, Int.add_assoc]
    · have : j = n := by omega
      subst this; rfl
theorem d_laws_heldInt64S_nil (k : Int) : Den PA f_laws_heldInt64S [.d nil, .d (di k)] [.any, .any] (.d (di k)) := by
  refine den_go [] l_laws_heldInt64S ?_
  repeat' (first | simp -implicitDefEqProofs (maxSteps := 1000000) (disch := (first | omega | (simp only [go_sem] <;> omega) | fail)) only [go_sem, ints, bools, mat, c_laws_heldInt64S] | ((first | refine goIf_b (fun h => ?_) (fun h => ?_) | refine goG_b (fun h => ?_) (fun h => ?_) | refine goTG_b (fun h => ?_) (fun h => ?_) | refine goOG_b (fun h => ?_) (fun h => ?_)) <;> ((try simp only [Bool.not_eq_true', Bool.not_eq_false'] at h); (try simp only [h]); (try simp only [decide_eq_true_eq, decide_eq_false_iff_not, bne_iff_ne, bne_eq_false_iff_eq, beq_iff_eq, beq_eq_false_iff_ne, ne_eq, Int.not_lt, Int.not_le, Bool.and_eq_true, Bool.and_eq_false_iff, Bool.or_eq_true, Bool.or_eq_false_iff] at h))))
  refine go_loop (fun (_ : Unit) => ⟨[(0, .d nil), (1, .d (di k)), (5, .d (di 0))], []⟩) (fun _ => True) (fun _ => 0) () ?_ trivial ?_
  · (simp -implicitDefEqProofs (maxSteps := 1000000) (disch := (first | omega | (simp only [go_sem] <;> omega) | fail)) only [go_sem, ints, bools, mat] <;> rfl)
  · intro _ _ J _
    repeat' (first | simp -implicitDefEqProofs (maxSteps := 1000000) (disch := (first | omega | (simp only [go_sem] <;> omega) | fail)) only [go_sem, ints, bools, mat] | ((first | refine goIf_b (fun h => ?_) (fun h => ?_) | refine goG_b (fun h => ?_) (fun h => ?_) | refine goTG_b (fun h => ?_) (fun h => ?_) | refine goOG_b (fun h => ?_) (fun h => ?_)) <;> ((try simp only [Bool.not_eq_true', Bool.not_eq_false'] at h); (try simp only [h]); (try simp only [decide_eq_true_eq, decide_eq_false_iff_not, bne_iff_ne, bne_eq_false_iff_eq, beq_iff_eq, beq_eq_false_iff_ne, ne_eq, Int.not_lt, Int.not_le, Bool.and_eq_true, Bool.and_eq_false_iff, Bool.or_eq_true, Bool.or_eq_false_iff] at h))))
theorem d_laws_eqInt64S_nil : Den PA f_laws_eqInt64S [.d nil, .d nil] [.any, .any] (.d (db true)) := by
  refine den_go [] l_laws_eqInt64S ?_
  repeat' (first | simp -implicitDefEqProofs (maxSteps := 1000000) (disch := (first | omega | (simp only [go_sem] <;> omega) | fail)) only [go_sem, ints, bools, mat, c_laws_eqInt64S] | ((first | refine goIf_b (fun h => ?_) (fun h => ?_) | refine goG_b (fun h => ?_) (fun h => ?_) | refine goTG_b (fun h => ?_) (fun h => ?_) | refine goOG_b (fun h => ?_) (fun h => ?_)) <;> ((try simp only [Bool.not_eq_true', Bool.not_eq_false'] at h); (try simp only [h]); (try simp only [decide_eq_true_eq, decide_eq_false_iff_not, bne_iff_ne, bne_eq_false_iff_eq, beq_iff_eq, beq_eq_false_iff_ne, ne_eq, Int.not_lt, Int.not_le, Bool.and_eq_true, Bool.and_eq_false_iff, Bool.or_eq_true, Bool.or_eq_false_iff] at h))))
  refine go_loop (fun (_ : Unit) => ⟨[(0, .d nil), (1, .d nil), (5, .d (di 0))], []⟩) (fun _ => True) (fun _ => 0) () ?_ trivial ?_
  · (simp -implicitDefEqProofs (maxSteps := 1000000) (disch := (first | omega | (simp only [go_sem] <;> omega) | fail)) only [go_sem, ints, bools, mat] <;> rfl)
  · intro _ _ J _
    repeat' (first | simp -implicitDefEqProofs (maxSteps := 1000000) (disch := (first | omega | (simp only [go_sem] <;> omega) | fail)) only [go_sem, ints, bools, mat] | ((first | refine goIf_b (fun h => ?_) (fun h => ?_) | refine goG_b (fun h => ?_) (fun h => ?_) | refine goTG_b (fun h => ?_) (fun h => ?_) | refine goOG_b (fun h => ?_) (fun h => ?_)) <;> ((try simp only [Bool.not_eq_true', Bool.not_eq_false'] at h); (try simp only [h]); (try simp only [decide_eq_true_eq, decide_eq_false_iff_not, bne_iff_ne, bne_eq_false_iff_eq, beq_iff_eq, beq_eq_false_iff_ne, ne_eq, Int.not_lt, Int.not_le, Bool.and_eq_true, Bool.and_eq_false_iff, Bool.or_eq_true, Bool.or_eq_false_iff] at h))))
theorem d_laws_markSpace (l : List Int) (k : Int) (hl : l.length < 1048577) (hk : 0 ≤ k) (hk2 : k < 1000000000000) :
    Den PA f_laws_markSpace [.agg [.own 1 (l.map di)], .d (di k)] [.agg [.own 1 ((markL l.length k).map di)], .any] (.d (di (k + l.length))) := by
  refine den_go [0] l_laws_markSpace ?_
  repeat' (first | simp -implicitDefEqProofs (maxSteps := 1000000) (disch := (first | omega | (simp only [go_sem] <;> omega) | fail)) only [go_sem, ints, bools, mat, c_laws_markSpace] | ((first | refine goIf_b (fun h => ?_) (fun h => ?_) | refine goG_b (fun h => ?_) (fun h => ?_) | refine goTG_b (fun h => ?_) (fun h => ?_) | refine goOG_b (fun h => ?_) (fun h => ?_)) <;> ((try simp only [Bool.not_eq_true', Bool.not_eq_false'] at h); (try simp only [h]); (try simp only [decide_eq_true_eq, decide_eq_false_iff_not, bne_iff_ne, bne_eq_false_iff_eq, beq_iff_eq, beq_eq_false_iff_ne, ne_eq, Int.not_lt, Int.not_le, Bool.and_eq_true, Bool.and_eq_false_iff, Bool.or_eq_true, Bool.or_eq_false_iff] at h))))
  have hm := markL_len l.length k
  first | refine goC_call [.o, .r] (d_laws_markInt64S l k hl hk hk2) ?_ | refine goOC_call [.o, .r] (d_laws_markInt64S l k hl hk hk2) ?_
  repeat' (first | simp -implicitDefEqProofs (maxSteps := 1000000) (disch := (first | omega | (simp only [go_sem] <;> omega) | fail)) only [go_sem, ints, bools, mat] | ((first | refine goIf_b (fun h => ?_) (fun h => ?_) | refine goG_b (fun h => ?_) (fun h => ?_) | refine goTG_b (fun h => ?_) (fun h => ?_) | refine goOG_b (fun h => ?_) (fun h => ?_)) <;> ((try simp only [Bool.not_eq_true', Bool.not_eq_false'] at h); (try simp only [h]); (try simp only [decide_eq_true_eq, decide_eq_false_iff_not, bne_iff_ne, bne_eq_false_iff_eq, beq_iff_eq, beq_eq_false_iff_ne, ne_eq, Int.not_lt, Int.not_le, Bool.and_eq_true, Bool.and_eq_false_iff, Bool.or_eq_true, Bool.or_eq_false_iff] at h))))
@[go_sem] theorem cast_succ_sub (i : Nat) : ((i + 1 : Nat) : Int) - 1 = (i : Int) := by omega
@[go_sem] theorem cast_zero0 : ((0 : Nat) : Int) = 0 := rfl
theorem foldl_mul (l : List Int) : ∀ a : Int, l.foldl (· * ·) a = a * l.foldl (· * ·) 1 := by
  induction l with
  | nil => intro a; simp
  | cons q r ih => intro a; simp only [List.foldl_cons]; rw [ih (a * q), ih (1 * q), Int.one_mul, Int.mul_assoc]
theorem prodM_cons (q : Int) (r : List Int) : prodM (q :: r) = q * prodM r := by
  simp only [prodM, List.foldl_cons]; rw [foldl_mul, Int.one_mul]
theorem prodM_nil : prodM [] = 1 := rfl
/-- The digits of a word, the first one first. -/
def digM : List Int → Int → List Int
  | [], _ => []
  | q :: r, w => (w / prodM r) % q :: digM r w
theorem digM_len : ∀ (l : List Int) (w : Int), (digM l w).length = l.length
  | [], _ => rfl
  | _ :: r, w => by simp [digM, digM_len r w]
theorem drop_cons1 {l : List Int} {i : Nat} (h : i < l.length) : l.drop i = l.getD i 0 :: l.drop (i + 1) := by
  rw [List.drop_eq_getElem_cons h]; simp [h]
theorem digM_drop {l : List Int} (w : Int) {i : Nat} (h : i < l.length) : digM (l.drop i) w = (w / prodM (l.drop (i + 1))) % l.getD i 0 :: digM (l.drop (i + 1)) w := by
  rw [drop_cons1 h]; rfl
theorem prodM_drop {l : List Int} {i : Nat} (h : i < l.length) : prodM (l.drop i) = l.getD i 0 * prodM (l.drop (i + 1)) := by
  rw [drop_cons1 h, prodM_cons]
/-- All sizes are at least 2. -/
def szs (l : List Int) : Prop := ∀ j, j < l.length → 2 ≤ l.getD j 0 ∧ l.getD j 0 ≤ 4
theorem szs_tail {q : Int} {r : List Int} (h : szs (q :: r)) : szs r := fun j hj => by simpa using h (j + 1) (by simpa using hj)
theorem prodM_pos : ∀ {l : List Int}, szs l → 1 ≤ prodM l
  | [], _ => by simp [prodM]
  | q :: r, h => by
    have h1 := prodM_pos (szs_tail h)
    have h2 := h 0 (by simp)
    simp at h2
    rw [prodM_cons]
    have := Int.mul_le_mul (show (1 : Int) ≤ q by omega) h1 (by omega) (by omega)
    simpa using this
theorem szs_drop {l : List Int} (h : szs l) (k : Nat) : szs (l.drop k) := fun j hj => by
  have := h (k + j) (by simp at hj; omega)
  simpa [List.getD_eq_getElem?_getD, List.getElem?_drop] using this
theorem div_le_self {w p : Int} (h : 0 ≤ w) (hp : 1 ≤ p) : 0 ≤ w / p ∧ w / p ≤ w := by
  refine ⟨Int.ediv_nonneg h (by omega), Int.ediv_le_self _ h⟩
theorem div_step {l : List Int} {w : Int} {i : Nat} (hs : szs l) (h : i < l.length) : w / prodM (l.drop (i + 1)) / l.getD i 0 = w / prodM (l.drop i) := by
  rw [prodM_drop h, Int.mul_comm, Int.ediv_ediv_of_nonneg (by have := prodM_pos (szs_drop hs (i + 1)); omega)]
theorem mod_bnd {x q : Int} (h : 2 ≤ q ∧ q ≤ 4) : 0 ≤ x % q ∧ x % q < q ∧ x % q < 4 := by
  have h1 := Int.emod_nonneg x (show q ≠ 0 by omega)
  have h2 := Int.emod_lt_of_pos x (show 0 < q by omega)
  omega
def pad8 (ds : List Int) : List Int := (ds ++ List.replicate 8 0).take 8
@[go_sem] theorem pad8_len (ds : List Int) : (pad8 ds).length = 8 := by simp [pad8]
theorem pad8_eq {ds : List Int} (h : ds.length ≤ 8) : pad8 ds = ds ++ List.replicate (8 - ds.length) 0 := by
  rw [pad8, List.take_append, List.take_of_length_le h, List.take_replicate]
  congr 2; omega
abbrev dig (ds : List Int) : D := .agg ((pad8 ds).map dy)
theorem set_rep {i : Nat} (v : Int) (r : List Int) : (List.replicate (i + 1) 0 ++ r).set i v = List.replicate i 0 ++ v :: r := by
  rw [List.replicate_succ', List.append_assoc, List.set_append_right _ _ (by simp)]
  simp
theorem isSpaceM_szs {l : List Int} (h : isSpaceM l = true) : szs l := isSpaceM_q h
theorem isSpaceM_prod {l : List Int} (h : isSpaceM l = true) : prodM l ≤ 1024 := ((isSpaceM_ok l).1 h).2.2
theorem d_impl_count (l : List Int) (hs : isSpaceM l = true) : Den PA f_impl_count [.d (.agg [ints l])] [.any] (.d (di (prodM l))) := by
  have hn := isSpaceM_n hs
  refine den_go [] l_impl_count ?_
  repeat' (first | simp -implicitDefEqProofs (maxSteps := 1000000) (disch := (first | omega | (simp only [go_sem] <;> omega) | fail)) only [go_sem, ints, bools, mat, c_impl_count] | ((first | refine goIf_b (fun h => ?_) (fun h => ?_) | refine goG_b (fun h => ?_) (fun h => ?_) | refine goTG_b (fun h => ?_) (fun h => ?_) | refine goOG_b (fun h => ?_) (fun h => ?_)) <;> ((try simp only [Bool.not_eq_true', Bool.not_eq_false'] at h); (try simp only [h]); (try simp only [decide_eq_true_eq, decide_eq_false_iff_not, bne_iff_ne, bne_eq_false_iff_eq, beq_iff_eq, beq_eq_false_iff_ne, ne_eq, Int.not_lt, Int.not_le, Bool.and_eq_true, Bool.and_eq_false_iff, Bool.or_eq_true, Bool.or_eq_false_iff] at h))))
  refine go_loop (fun (j : Nat) => ⟨[(3, .d (di (prodM (l.take j)))), (7, .d (ints l)), (8, .d (di l.length)), (9, .d (di j))], []⟩) (fun j => j ≤ l.length) (fun j => l.length - j) 0 ?_ ?_ ?_
  · (simp -implicitDefEqProofs (maxSteps := 1000000) (disch := (first | omega | (simp only [go_sem] <;> omega) | fail)) only [go_sem, ints, bools, mat] <;> rfl)
  · simp
  · rintro j hj J hJ
    have hb := prodM_small l (j := j) (by omega) hj (fun i hi => isSpaceM_q hs i (by omega))
    have hb' := fun hj' => prodM_small l (j := j + 1) (by omega) hj' (fun i hi => isSpaceM_q hs i (by omega))
    have hst := fun hj' => prodM_step l (j := j) hj'
    repeat' (first | simp -implicitDefEqProofs (maxSteps := 1000000) (disch := (first | omega | (simp only [go_sem] <;> omega) | fail)) only [go_sem, ints, bools, mat] | ((first | refine goIf_b (fun h => ?_) (fun h => ?_) | refine goG_b (fun h => ?_) (fun h => ?_) | refine goTG_b (fun h => ?_) (fun h => ?_) | refine goOG_b (fun h => ?_) (fun h => ?_)) <;> ((try simp only [Bool.not_eq_true', Bool.not_eq_false'] at h); (try simp only [h]); (try simp only [decide_eq_true_eq, decide_eq_false_iff_not, bne_iff_ne, bne_eq_false_iff_eq, beq_iff_eq, beq_eq_false_iff_ne, ne_eq, Int.not_lt, Int.not_le, Bool.and_eq_true, Bool.and_eq_false_iff, Bool.or_eq_true, Bool.or_eq_false_iff] at h))))
    · have h1 := hb' (by omega)
      rw [hst (by omega)] at h1
      refine hJ (j + 1) (by omega) (by omega) _ ?_
      simp -implicitDefEqProofs (maxSteps := 1000000) (disch := (first | omega | (simp only [go_sem] <;> omega) | fail)) only [go_sem, ints, bools, mat]
      rw [hst (by omega)]; rfl
theorem d_impl_places (l : List Int) (hl : l.length < 1048577) : Den PA f_impl_places [.d (.agg [ints l])] [.any] (.d (di l.length)) := by
  refine den_go [] l_impl_places ?_
  repeat' (first | simp -implicitDefEqProofs (maxSteps := 1000000) (disch := (first | omega | (simp only [go_sem] <;> omega) | fail)) only [go_sem, ints, bools, mat, c_impl_places] | ((first | refine goIf_b (fun h => ?_) (fun h => ?_) | refine goG_b (fun h => ?_) (fun h => ?_) | refine goTG_b (fun h => ?_) (fun h => ?_) | refine goOG_b (fun h => ?_) (fun h => ?_)) <;> ((try simp only [Bool.not_eq_true', Bool.not_eq_false'] at h); (try simp only [h]); (try simp only [decide_eq_true_eq, decide_eq_false_iff_not, bne_iff_ne, bne_eq_false_iff_eq, beq_iff_eq, beq_eq_false_iff_ne, ne_eq, Int.not_lt, Int.not_le, Bool.and_eq_true, Bool.and_eq_false_iff, Bool.or_eq_true, Bool.or_eq_false_iff] at h))))
theorem d_impl_digitsOf (l : List Int) (hs : isSpaceM l = true) (w : Int) (hw : 0 ≤ w) (hw2 : w < 1000000000000) : Den PA f_impl_digitsOf [.d (.agg [ints l]), .d (di w)] [.any, .any] (.d (dig (digM l w))) := by
  have hn := isSpaceM_n hs
  have hz := isSpaceM_szs hs
  refine den_go [] l_impl_digitsOf ?_
  repeat' (first | simp -implicitDefEqProofs (maxSteps := 1000000) (disch := (first | omega | (simp only [go_sem] <;> omega) | fail)) only [go_sem, ints, bools, mat, c_impl_digitsOf] | ((first | refine goIf_b (fun h => ?_) (fun h => ?_) | refine goG_b (fun h => ?_) (fun h => ?_) | refine goTG_b (fun h => ?_) (fun h => ?_) | refine goOG_b (fun h => ?_) (fun h => ?_)) <;> ((try simp only [Bool.not_eq_true', Bool.not_eq_false'] at h); (try simp only [h]); (try simp only [decide_eq_true_eq, decide_eq_false_iff_not, bne_iff_ne, bne_eq_false_iff_eq, beq_iff_eq, beq_eq_false_iff_ne, ne_eq, Int.not_lt, Int.not_le, Bool.and_eq_true, Bool.and_eq_false_iff, Bool.or_eq_true, Bool.or_eq_false_iff] at h))))
  refine go_loop (fun (k : Nat) => ⟨[(1, .d (di (w / prodM (l.drop k)))), (2, .ref 0 0), (4, .ref 1 0), (5, .ref 2 0), (6, .d (di ((k : Int) - 1)))], [some (.var [ints l]), some (.var [dy 0, dy 0, dy 0, dy 0, dy 0, dy 0, dy 0, dy 0]), some (.var ((List.replicate k 0 ++ (digM (l.drop k) w ++ List.replicate (8 - l.length) 0)).map dy))]⟩) (fun k => k ≤ l.length) (fun k => k) l.length ?_ ?_ ?_
  · simp -implicitDefEqProofs (maxSteps := 1000000) (disch := (first | omega | (simp only [go_sem] <;> omega) | fail)) only [go_sem, ints, bools, mat]
    have e1 : l.drop l.length = [] := by simp
    have e2 : List.replicate l.length (0 : Int) ++ List.replicate (8 - l.length) 0 = List.replicate 8 0 := by
      rw [List.replicate_append_replicate]; congr 1; omega
    rw [e1, digM, List.nil_append, e2, prodM_nil, Int.ediv_one]; rfl
  · simp
  · intro k hk J hJ
    rcases k with _ | i
    · have hdl := digM_len l w
      repeat' (first | simp -implicitDefEqProofs (maxSteps := 1000000) (disch := (first | omega | (simp only [go_sem] <;> omega) | fail)) only [go_sem, ints, bools, mat] | ((first | refine goIf_b (fun h => ?_) (fun h => ?_) | refine goG_b (fun h => ?_) (fun h => ?_) | refine goTG_b (fun h => ?_) (fun h => ?_) | refine goOG_b (fun h => ?_) (fun h => ?_)) <;> ((try simp only [Bool.not_eq_true', Bool.not_eq_false'] at h); (try simp only [h]); (try simp only [decide_eq_true_eq, decide_eq_false_iff_not, bne_iff_ne, bne_eq_false_iff_eq, beq_iff_eq, beq_eq_false_iff_ne, ne_eq, Int.not_lt, Int.not_le, Bool.and_eq_true, Bool.and_eq_false_iff, Bool.or_eq_true, Bool.or_eq_false_iff] at h)) <;> (try (exfalso; omega))))
      simp [dig, pad8_eq (ds := digM l w) (by rw [digM_len]; omega), digM_len]
    · have hq := hz i (by omega)
      have hp := prodM_pos (szs_drop hz (i + 1))
      have hw' := div_le_self hw hp
      have hm := mod_bnd (x := w / prodM (l.drop (i + 1))) hq
      have hd := div_step (w := w) hz (i := i) (by omega)
      have hp' := prodM_pos (szs_drop hz i)
      have hw'' := div_le_self hw hp'
      have hlen : (List.replicate (i + 1) (0 : Int) ++ (digM (l.drop (i + 1)) w ++ List.replicate (8 - l.length) 0)).length = 8 := by simp [digM_len]; omega
      rw [← hd] at hw''
      repeat' (first | simp -implicitDefEqProofs (maxSteps := 1000000) (disch := (first | omega | (simp only [go_sem] <;> omega) | fail)) only [go_sem, ints, bools, mat] | ((first | refine goIf_b (fun h => ?_) (fun h => ?_) | refine goG_b (fun h => ?_) (fun h => ?_) | refine goTG_b (fun h => ?_) (fun h => ?_) | refine goOG_b (fun h => ?_) (fun h => ?_)) <;> ((try simp only [Bool.not_eq_true', Bool.not_eq_false'] at h); (try simp only [h]); (try simp only [decide_eq_true_eq, decide_eq_false_iff_not, bne_iff_ne, bne_eq_false_iff_eq, beq_iff_eq, beq_eq_false_iff_ne, ne_eq, Int.not_lt, Int.not_le, Bool.and_eq_true, Bool.and_eq_false_iff, Bool.or_eq_true, Bool.or_eq_false_iff] at h)) <;> (try (exfalso; omega))))
      refine hJ i (by omega) (by omega) _ ?_
      simp -implicitDefEqProofs (maxSteps := 1000000) (disch := (first | omega | (simp only [go_sem] <;> omega) | fail)) only [go_sem, ints, bools, mat]
      rw [set_rep, hd, digM_drop w (i := i) (by omega)]; rfl
/-- At how many places two words differ. -/
def farM : List Int → List Int → Int
  | a :: r, b :: s => (if a = b then 0 else 1) + farM r s
  | _, _ => 0
def farN (a b : List Int) : Nat → Int
  | 0 => 0
  | j + 1 => farN a b j + (if a.getD j 0 = b.getD j 0 then 0 else 1)
abbrev distM (l : List Int) (u w : Int) : Int := farM (digM l u) (digM l w)
theorem farN_cons (x y : Int) (a b : List Int) : ∀ j, farN (x :: a) (y :: b) (j + 1) = (if x = y then 0 else 1) + farN a b j
  | 0 => by simp [farN]
  | j + 1 => by rw [farN, farN_cons x y a b j, farN, Int.add_assoc]; rfl
theorem farN_nn (a b : List Int) : ∀ j : Nat, 0 ≤ farN a b j ∧ farN a b j ≤ j
  | 0 => by simp [farN]
  | j + 1 => by have := farN_nn a b j; simp only [farN]; split <;> omega
theorem farN_farM : ∀ (a b z : List Int) (k : Nat), a.length = b.length → k = a.length + z.length → farN (a ++ z) (b ++ z) k = farM a b
  | [], [], z, k, _, hk => by
    simp only [List.nil_append, farM]
    clear hk
    induction k with
    | zero => rfl
    | succ k ih => simp [farN, ih]
  | x :: a, y :: b, z, k, h, hk => by
    rcases k with _ | k
    · simp only [List.length_cons] at hk; omega
    · rw [List.cons_append, List.cons_append, farN_cons, farN_farM a b z k (by simpa using h) (by simp at hk; omega)]; rfl
  | [], _ :: _, _, _, h, _ => by simp at h
  | _ :: _, [], _, _, h, _ => by simp at h
theorem farM_bnd : ∀ (a b : List Int), 0 ≤ farM a b ∧ farM a b ≤ a.length
  | [], _ => by simp [farM]
  | _ :: _, [] => by simp [farM]; omega
  | x :: a, y :: b => by have := farM_bnd a b; simp only [farM, List.length_cons]; split <;> omega
theorem distM_bnd (l : List Int) (u w : Int) : 0 ≤ distM l u w ∧ distM l u w ≤ l.length := by
  have := farM_bnd (digM l u) (digM l w); rwa [digM_len] at this
theorem d_impl_far (a b : List Int) (ha : a.length = b.length) (h8 : a.length ≤ 8) : Den PA f_impl_far [.d (dig a), .d (dig b)] [.any, .any] (.d (di (farM a b))) := by
  have e := farN_farM a b (List.replicate (8 - a.length) 0) 8 ha (by simp; omega)
  have ea := pad8_len a
  have eb := pad8_len b
  have e' : farN (pad8 a) (pad8 b) 8 = farM a b := by rw [← e, pad8_eq h8, pad8_eq (ds := b) (by omega)]; simp only [ha]
  refine den_go [] l_impl_far ?_
  repeat' (first | simp -implicitDefEqProofs (maxSteps := 1000000) (disch := (first | omega | (simp only [go_sem] <;> omega) | fail)) only [go_sem, ints, bools, mat, c_impl_far] | ((first | refine goIf_b (fun h => ?_) (fun h => ?_) | refine goG_b (fun h => ?_) (fun h => ?_) | refine goTG_b (fun h => ?_) (fun h => ?_) | refine goOG_b (fun h => ?_) (fun h => ?_)) <;> ((try simp only [Bool.not_eq_true', Bool.not_eq_false'] at h); (try simp only [h]); (try simp only [decide_eq_true_eq, decide_eq_false_iff_not, bne_iff_ne, bne_eq_false_iff_eq, beq_iff_eq, beq_eq_false_iff_ne, ne_eq, Int.not_lt, Int.not_le, Bool.and_eq_true, Bool.and_eq_false_iff, Bool.or_eq_true, Bool.or_eq_false_iff] at h))))
  refine go_loop (fun (j : Nat) => ⟨[(3, .ref 0 0), (5, .d (di (farN (pad8 a) (pad8 b) j))), (8, .d (dig a)), (9, .d (di j))], [some (.var ((pad8 b).map dy))]⟩) (fun j => j ≤ 8) (fun j => 8 - j) 0 ?_ ?_ ?_
  · (simp -implicitDefEqProofs (maxSteps := 1000000) (disch := (first | omega | (simp only [go_sem] <;> omega) | fail)) only [go_sem, ints, bools, mat] <;> rfl)
  · simp
  · rintro j hj J hJ
    have hb := farN_nn (pad8 a) (pad8 b) j
    repeat' (first | simp -implicitDefEqProofs (maxSteps := 1000000) (disch := (first | omega | (simp only [go_sem] <;> omega) | fail)) only [go_sem, ints, bools, mat] | ((first | refine goIf_b (fun h => ?_) (fun h => ?_) | refine goG_b (fun h => ?_) (fun h => ?_) | refine goTG_b (fun h => ?_) (fun h => ?_) | refine goOG_b (fun h => ?_) (fun h => ?_)) <;> ((try simp only [Bool.not_eq_true', Bool.not_eq_false'] at h); (try simp only [h]); (try simp only [decide_eq_true_eq, decide_eq_false_iff_not, bne_iff_ne, bne_eq_false_iff_eq, beq_iff_eq, beq_eq_false_iff_ne, ne_eq, Int.not_lt, Int.not_le, Bool.and_eq_true, Bool.and_eq_false_iff, Bool.or_eq_true, Bool.or_eq_false_iff] at h)) <;> (try (exfalso; omega))))
    · refine hJ (j + 1) (by omega) (by omega) _ ?_
      simp -implicitDefEqProofs (maxSteps := 1000000) (disch := (first | omega | (simp only [go_sem] <;> omega) | fail)) only [go_sem, ints, bools, mat]
      rw [farN, if_neg (by assumption)]; rfl
    · refine hJ (j + 1) (by omega) (by omega) _ ?_
      simp -implicitDefEqProofs (maxSteps := 1000000) (disch := (first | omega | (simp only [go_sem] <;> omega) | fail)) only [go_sem, ints, bools, mat]
      rw [farN, if_pos (by assumption), Int.add_zero]; rfl
    · have : j = 8 := by omega
      subst this; rw [e']
theorem d_spec_l01Distance (l : List Int) (hs : isSpaceM l = true) (u w : Int) (hu : 0 ≤ u) (hu2 : u < 1000000000000) (hw : 0 ≤ w) (hw2 : w < 1000000000000) : Den PA f_spec_l01Distance [.d (.agg [ints l]), .d (di u), .d (di w)] [.any, .any, .any] (.d (di (distM l u w))) := by
  have hn := isSpaceM_n hs
  have hz := isSpaceM_szs hs
  refine den_go [] l_spec_l01Distance ?_
  repeat' (first | simp -implicitDefEqProofs (maxSteps := 1000000) (disch := (first | omega | (simp only [go_sem] <;> omega) | fail)) only [go_sem, ints, bools, mat, c_spec_l01Distance] | ((first | refine goIf_b (fun h => ?_) (fun h => ?_) | refine goG_b (fun h => ?_) (fun h => ?_) | refine goTG_b (fun h => ?_) (fun h => ?_) | refine goOG_b (fun h => ?_) (fun h => ?_)) <;> ((try simp only [Bool.not_eq_true', Bool.not_eq_false'] at h); (try simp only [h]); (try simp only [decide_eq_true_eq, decide_eq_false_iff_not, bne_iff_ne, bne_eq_false_iff_eq, beq_iff_eq, beq_eq_false_iff_ne, ne_eq, Int.not_lt, Int.not_le, Bool.and_eq_true, Bool.and_eq_false_iff, Bool.or_eq_true, Bool.or_eq_false_iff] at h))))
  refine go_loop (fun (k : Nat) => ⟨[(1, .d (di (u / prodM (l.drop k)))), (2, .d (di (w / prodM (l.drop k)))), (3, .ref 0 0), (7, .d (di (farM (digM (l.drop k) u) (digM (l.drop k) w)))), (8, .d (di ((k : Int) - 1)))], [some (.var [ints l])]⟩) (fun k => k ≤ l.length) (fun k => k) l.length ?_ ?_ ?_
  · simp -implicitDefEqProofs (maxSteps := 1000000) (disch := (first | omega | (simp only [go_sem] <;> omega) | fail)) only [go_sem, ints, bools, mat]
    have e1 : l.drop l.length = [] := by simp
    rw [e1, digM, digM, farM, prodM_nil, Int.ediv_one, Int.ediv_one]
    intros; simp_all
  · simp
  · intro k hk J hJ
    rcases k with _ | i
    · repeat' (first | simp -implicitDefEqProofs (maxSteps := 1000000) (disch := (first | omega | (simp only [go_sem] <;> omega) | fail)) only [go_sem, ints, bools, mat] | ((first | refine goIf_b (fun h => ?_) (fun h => ?_) | refine goG_b (fun h => ?_) (fun h => ?_) | refine goTG_b (fun h => ?_) (fun h => ?_) | refine goOG_b (fun h => ?_) (fun h => ?_)) <;> ((try simp only [Bool.not_eq_true', Bool.not_eq_false'] at h); (try simp only [h]); (try simp only [decide_eq_true_eq, decide_eq_false_iff_not, bne_iff_ne, bne_eq_false_iff_eq, beq_iff_eq, beq_eq_false_iff_ne, ne_eq, Int.not_lt, Int.not_le, Bool.and_eq_true, Bool.and_eq_false_iff, Bool.or_eq_true, Bool.or_eq_false_iff] at h)) <;> (try (exfalso; omega))))
    · have hq := hz i (by omega)
      have hp := prodM_pos (szs_drop hz (i + 1))
      have hw' := div_le_self hw hp
      have hu' := div_le_self hu hp
      have hd := div_step (w := w) hz (i := i) (by omega)
      have hd2 := div_step (w := u) hz (i := i) (by omega)
      have hp' := prodM_pos (szs_drop hz i)
      have hw'' := div_le_self hw hp'
      have hu'' := div_le_self hu hp'
      have hf := farM_bnd (digM (l.drop (i + 1)) u) (digM (l.drop (i + 1)) w)
      rw [digM_len, List.length_drop] at hf
      rw [← hd] at hw''
      rw [← hd2] at hu''
      repeat' (first | simp -implicitDefEqProofs (maxSteps := 1000000) (disch := (first | omega | (simp only [go_sem] <;> omega) | fail)) only [go_sem, ints, bools, mat] | ((first | refine goIf_b (fun h => ?_) (fun h => ?_) | refine goG_b (fun h => ?_) (fun h => ?_) | refine goTG_b (fun h => ?_) (fun h => ?_) | refine goOG_b (fun h => ?_) (fun h => ?_)) <;> ((try simp only [Bool.not_eq_true', Bool.not_eq_false'] at h); (try simp only [h]); (try simp only [decide_eq_true_eq, decide_eq_false_iff_not, bne_iff_ne, bne_eq_false_iff_eq, beq_iff_eq, beq_eq_false_iff_ne, ne_eq, Int.not_lt, Int.not_le, Bool.and_eq_true, Bool.and_eq_false_iff, Bool.or_eq_true, Bool.or_eq_false_iff] at h)) <;> (try (exfalso; omega))))
      · refine hJ i (by omega) (by omega) _ ?_
        simp -implicitDefEqProofs (maxSteps := 1000000) (disch := (first | omega | (simp only [go_sem] <;> omega) | fail)) only [go_sem, ints, bools, mat]
        rw [hd, hd2, digM_drop w (i := i) (by omega), digM_drop u (i := i) (by omega), farM, if_neg h, Int.add_comm]
      · refine hJ i (by omega) (by omega) _ ?_
        simp -implicitDefEqProofs (maxSteps := 1000000) (disch := (first | omega | (simp only [go_sem] <;> omega) | fail)) only [go_sem, ints, bools, mat]
        rw [hd, hd2, digM_drop w (i := i) (by omega), digM_drop u (i := i) (by omega), farM, if_pos h, Int.zero_add]
@[go_sem] theorem and1_norm {x : Int} (h : 0 ≤ x) : ((x.toNat &&& (1 : Int).toNat : Nat) : Int) = x % 2 := by
  rw [show (1 : Int).toNat = 1 from rfl, and_one_toNat]; omega
theorem binA_shr_u {k : IntKind} {a b : Int} (h : 0 ≤ b) (h' : b ≤ 63) : binA .shr (.d (.v (.int .u64 a))) (.d (.v (.int k b))) = some (.d (.v (.int .u64 (a / 2 ^ b.toNat)))) := by
  have e : min b.toNat 64 = b.toNat := by omega
  have h1 : (0 : Int) ≤ 2 ^ b.toNat := Int.pow_nonneg (by omega)
  simp only [binA, binI, BinOp.isShift, true_or, if_true, if_neg (show ¬ b < 0 by omega), IntKind.bits, e, Option.map_some, Int.fdiv_eq_ediv_of_nonneg _ h1]
theorem ofInt_nat_u {a : Int} (h : 0 ≤ a) (h' : a < 18446744073709551616) : (BitVec.ofInt 64 a).toNat = a.toNat := by
  rw [BitVec.toNat_ofInt]; omega
theorem binA_and_u {a b : Int} (h : 0 ≤ a) (h1 : a < 18446744073709551616) (h2 : 0 ≤ b) (h3 : b < 18446744073709551616) :
    binA .and (.d (.v (.int .u64 a))) (.d (.v (.int .u64 b))) = some (.d (.v (.int .u64 ((a.toNat &&& b.toNat : Nat) : Int)))) := by
  have e : (BitVec.ofInt 64 a &&& BitVec.ofInt 64 b).toNat = a.toNat &&& b.toNat := by rw [BitVec.toNat_and, ofInt_nat_u h h1, ofInt_nat_u h2 h3]
  have hl : a.toNat &&& b.toNat < 18446744073709551616 := Nat.lt_of_le_of_lt Nat.and_le_left (by omega)
  have e2 : binI .and .u64 a b = some (.int .u64 (IntKind.wrap .u64 ((BitVec.ofInt 64 a &&& BitVec.ofInt 64 b).toNat : Nat))) := rfl
  simp only [binA, e2, BinOp.isShift, or_true, if_true, e, Option.map_some, wrap_u64 (x := ((a.toNat &&& b.toNat : Nat) : Int)) (by omega) (by omega)]
theorem binA_add_u {a b : Int} (h : 0 ≤ a + b) (h1 : a + b < 18446744073709551616) : binA .add (.d (.v (.int .u64 a))) (.d (.v (.int .u64 b))) = some (.d (.v (.int .u64 (a + b)))) := by
  rw [binA_add, wrap_u64 h h1]
theorem flat_dig (ds : List (List Int)) : flat (ds.map fun d => D.agg ((pad8 d).map dy)) = ds.flatMap fun d => (pad8 d).map dy := by
  induction ds with
  | nil => rfl
  | cons d r ih => simp only [flat, List.map_cons, List.flatMap_cons] at ih ⊢; rw [ih]; rfl
theorem drop_dig (ds : List (List Int)) : ∀ i, i < ds.length → ((ds.flatMap fun d => (pad8 d).map dy).drop (i * 8)).take 8 = (pad8 (ds.getD i [])).map dy := by
  induction ds with
  | nil => intro i hi; simp at hi
  | cons d r ih =>
    intro i hi
    rcases i with _ | i
    · rw [List.flatMap_cons, Nat.zero_mul, List.drop_zero, List.take_left' (by simp [pad8_len])]; rfl
    · rw [List.flatMap_cons, Nat.succ_mul, Nat.add_comm, ← List.drop_drop, List.drop_left' (by simp [pad8_len]), ih i (by simpa using hi)]; rfl
theorem len_dig (ds : List (List Int)) : (ds.flatMap fun d => (pad8 d).map dy).length = ds.length * 8 := by
  induction ds with
  | nil => rfl
  | cons d r ih => simp [List.flatMap_cons, ih, Nat.succ_mul, Nat.add_comm, pad8_len]
abbrev digs (ds : List (List Int)) : List D := ds.map fun d => D.agg ((pad8 d).map dy)
@[go_sem] theorem ldC_dig {ds : List (List Int)} {i : Nat} (h : i < ds.length) : ldC true 8 (flat (ds.map fun d => D.agg ((pad8 d).map dy))) (i * 8) = some (.d (.agg ((pad8 (ds.getD i [])).map dy))) := by
  rw [flat_dig]
  have h1 := drop_dig ds i h
  have h2 := len_dig ds
  unfold ldC
  rw [if_pos rfl]
  split
  · rename_i hc
    rw [hc.1, List.drop_zero, List.take_of_length_le (by omega)] at h1
    rw [h1]
  · rw [if_pos (by omega), h1]
@[go_sem] theorem get_dig {ds : List (List Int)} {i : Nat} (h : i < ds.length) : (ds.map fun d => D.agg ((pad8 d).map dy))[i]? = some (D.agg ((pad8 (ds.getD i [])).map dy)) := by simp [h]
@[go_sem] theorem app_dig (ds : List (List Int)) (d : List Int) : (ds.map fun d => D.agg ((pad8 d).map dy)) ++ [D.agg ((pad8 d).map dy)] = (ds ++ [d]).map fun d => D.agg ((pad8 d).map dy) := by simp
@[go_sem] theorem mul_mod8 (i : Nat) : i * 8 % 8 = 0 := Nat.mul_mod_left i 8
@[go_sem] theorem mul_div8 (i : Nat) : i * 8 / 8 = i := by omega
def digsM (l c : List Int) : List (List Int) := c.map (digM l)
@[go_sem] theorem digsM_len (l c : List Int) : (digsM l c).length = c.length := by simp [digsM]
theorem digsM_get (l c : List Int) {i : Nat} (h : i < c.length) : (digsM l c).getD i [] = digM l (c.getD i 0) := by simp [digsM, h]
theorem digsM_step (l c : List Int) {j : Nat} (h : j < c.length) : digsM l (c.take (j + 1)) = digsM l (c.take j) ++ [digM l (c.getD j 0)] := by
  rw [take_one c h]; simp [digsM]
def allW (l : List Int) : List Int := (List.range (prodM l).toNat).map fun (w : Nat) => (w : Int)
@[go_sem] theorem allW_len (l : List Int) : (allW l).length = (prodM l).toNat := by simp [allW]
theorem allW_get (l : List Int) {i : Nat} (h : i < (prodM l).toNat) : (allW l).getD i 0 = i := by simp [allW, h]
theorem take_allW (l : List Int) {j : Nat} (h : j < (prodM l).toNat) : (allW l).take (j + 1) = (allW l).take j ++ [(j : Int)] := by
  rw [take_one _ (by rw [allW_len]; exact h), allW_get l h]
theorem d_impl_allDigits (l : List Int) (hs : isSpaceM l = true) : Den PA f_impl_allDigits [.d (.agg [ints l])] [.any] (.own 8 (digs (digsM l (allW l)))) := by
  have hn := isSpaceM_n hs
  have hp := isSpaceM_prod hs
  have hp1 := prodM_pos (isSpaceM_szs hs)
  refine den_go [] l_impl_allDigits ?_
  repeat' (first | simp -implicitDefEqProofs (maxSteps := 1000000) (disch := (first | omega | (simp only [go_sem] <;> omega) | fail)) only [go_sem, ints, bools, mat, c_impl_allDigits] | ((first | refine goIf_b (fun h => ?_) (fun h => ?_) | refine goG_b (fun h => ?_) (fun h => ?_) | refine goTG_b (fun h => ?_) (fun h => ?_) | refine goOG_b (fun h => ?_) (fun h => ?_)) <;> ((try simp only [Bool.not_eq_true', Bool.not_eq_false'] at h); (try simp only [h]); (try simp only [decide_eq_true_eq, decide_eq_false_iff_not, bne_iff_ne, bne_eq_false_iff_eq, beq_iff_eq, beq_eq_false_iff_ne, ne_eq, Int.not_lt, Int.not_le, Bool.and_eq_true, Bool.and_eq_false_iff, Bool.or_eq_true, Bool.or_eq_false_iff] at h))))
  first | refine goC_call [.r] (d_impl_count l hs) ?_ | refine goOC_call [.r] (d_impl_count l hs) ?_
  repeat' (first | simp -implicitDefEqProofs (maxSteps := 1000000) (disch := (first | omega | (simp only [go_sem] <;> omega) | fail)) only [go_sem, ints, bools, mat] | ((first | refine goIf_b (fun h => ?_) (fun h => ?_) | refine goG_b (fun h => ?_) (fun h => ?_) | refine goTG_b (fun h => ?_) (fun h => ?_) | refine goOG_b (fun h => ?_) (fun h => ?_)) <;> ((try simp only [Bool.not_eq_true', Bool.not_eq_false'] at h); (try simp only [h]); (try simp only [decide_eq_true_eq, decide_eq_false_iff_not, bne_iff_ne, bne_eq_false_iff_eq, beq_iff_eq, beq_eq_false_iff_ne, ne_eq, Int.not_lt, Int.not_le, Bool.and_eq_true, Bool.and_eq_false_iff, Bool.or_eq_true, Bool.or_eq_false_iff] at h))))
  refine go_loop (fun (j : Nat) => ⟨[(1, .ref 0 0), (3, .sl 1 0 j 8), (7, .d (di (prodM l))), (8, .d (di j))], [some (.var [ints l]), some (.dat 8 (digs (digsM l ((allW l).take j))))]⟩) (fun j => j ≤ (prodM l).toNat) (fun j => (prodM l).toNat - j) 0 ?_ ?_ ?_
  · (simp -implicitDefEqProofs (maxSteps := 1000000) (disch := (first | omega | (simp only [go_sem] <;> omega) | fail)) only [go_sem, ints, bools, mat] <;> rfl)
  · simp
  · rintro j hj J hJ
    have hal := allW_len l
    have hlen2 : (digsM l ((allW l).take j)).length = j := by rw [digsM_len, List.length_take, hal]; omega
    have hlen3 : (digsM l (allW l)).length = (prodM l).toNat := by rw [digsM_len, hal]
    repeat' (first | simp -implicitDefEqProofs (maxSteps := 1000000) (disch := (first | omega | (simp only [go_sem] <;> omega) | fail)) only [go_sem, ints, bools, mat] | ((first | refine goIf_b (fun h => ?_) (fun h => ?_) | refine goG_b (fun h => ?_) (fun h => ?_) | refine goTG_b (fun h => ?_) (fun h => ?_) | refine goOG_b (fun h => ?_) (fun h => ?_)) <;> ((try simp only [Bool.not_eq_true', Bool.not_eq_false'] at h); (try simp only [h]); (try simp only [decide_eq_true_eq, decide_eq_false_iff_not, bne_iff_ne, bne_eq_false_iff_eq, beq_iff_eq, beq_eq_false_iff_ne, ne_eq, Int.not_lt, Int.not_le, Bool.and_eq_true, Bool.and_eq_false_iff, Bool.or_eq_true, Bool.or_eq_false_iff] at h))))
    · first | refine goC_call [.r, .r] (d_impl_digitsOf l hs j (by omega) (by omega)) ?_ | refine goOC_call [.r, .r] (d_impl_digitsOf l hs j (by omega) (by omega)) ?_
      repeat' (first | simp -implicitDefEqProofs (maxSteps := 1000000) (disch := (first | omega | (simp only [go_sem] <;> omega) | fail)) only [go_sem, ints, bools, mat] | ((first | refine goIf_b (fun h => ?_) (fun h => ?_) | refine goG_b (fun h => ?_) (fun h => ?_) | refine goTG_b (fun h => ?_) (fun h => ?_) | refine goOG_b (fun h => ?_) (fun h => ?_)) <;> ((try simp only [Bool.not_eq_true', Bool.not_eq_false'] at h); (try simp only [h]); (try simp only [decide_eq_true_eq, decide_eq_false_iff_not, bne_iff_ne, bne_eq_false_iff_eq, beq_iff_eq, beq_eq_false_iff_ne, ne_eq, Int.not_lt, Int.not_le, Bool.and_eq_true, Bool.and_eq_false_iff, Bool.or_eq_true, Bool.or_eq_false_iff] at h))))
      refine hJ (j + 1) (by omega) (by omega) _ ?_
      simp -implicitDefEqProofs (maxSteps := 1000000) (disch := (first | omega | (simp only [go_sem] <;> omega) | fail)) only [go_sem, ints, bools, mat]
      rw [digsM_step _ _ (by rw [hal]; omega), allW_get l (by omega)]; rfl
abbrev lstR (b : Int) (v : List Int) : R := if b = 0 then .tup [.own 1 (v.map di), .d (di 0)] else .tup [.d nil, .d (di b)]
theorem lstR_ok {b : Int} {v : List Int} (h : b = 0) : lstR b v = .tup [.own 1 (v.map di), .d (di 0)] := by simp [lstR, h]
theorem lstR_no {b : Int} {v : List Int} (h : ¬ b = 0) : lstR b v = .tup [.d nil, .d (di b)] := by simp [lstR, h]
/-- How often each number comes up. -/
def histS (o : List Int) (d : Int) : List Int := o.set d.toNat (o.getD d.toNat 0 + 1)
def hist (n : Nat) (ds : List Int) : List Int := ds.foldl histS (List.replicate n 0)
theorem foldl_hist_len (ds : List Int) : ∀ o : List Int, (ds.foldl histS o).length = o.length := by
  induction ds with
  | nil => intro o; rfl
  | cons d r ih => intro o; rw [List.foldl_cons, ih]; simp [histS]
@[go_sem] theorem hist_len (n : Nat) (ds : List Int) : (hist n ds).length = n := by rw [hist, foldl_hist_len]; simp
theorem farM_comm : ∀ (a b : List Int), farM a b = farM b a
  | [], [] => rfl
  | [], _ :: _ => rfl
  | _ :: _, [] => rfl
  | x :: a, y :: b => by
    simp only [farM, farM_comm a b]
    by_cases h : x = y
    · simp [h]
    · rw [if_neg h, if_neg (fun e => h e.symm)]
theorem distM_comm (l : List Int) (u w : Int) : distM l u w = distM l w u := farM_comm _ _
attribute [go_sem] Nat.sub_zero
/-- The lesser of two. -/
def mn2 (a b : Int) : Int := if b < a then b else a
@[go_sem] theorem mnA_mn2 (a b : Int) : mnA (.d (di a)) (.d (di b)) = some (.d (di (mn2 a b))) := rfl
/-- The greater of two. -/
def mx2 (a b : Int) : Int := if a < b then b else a
@[go_sem] theorem mxA_mx2 (a b : Int) : mxA (.d (di a)) (.d (di b)) = some (.d (di (mx2 a b))) := rfl
theorem chk_intro {c p : Prop} (h : c) (k : p) : chk c p := ⟨h, k⟩
theorem fnOK_mk {P : Program} {sto : Sto} {f : FuncId} {caps : List AV} {g : List D → Value → Prop} (h : okF P f) (boxes : List (List D)) (hb : caps.map (boxR sto) = boxes.map some) (hg : ∀ ds r, g ds r → ∃ rs', Den P f (ds.map .d ++ boxes.map .box) rs' (.d (.v r))) :
    FnOK P sto (.fn f caps) g := ⟨h, boxes, hb, hg⟩
/-- A function value that tells p of digits. -/
def fnD (n : Nat) (p : List Int → Bool) : List D → Value → Prop := fun ds r => ∃ a : List Int, a.length = n ∧ (∀ i, 0 ≤ a.getD i 0 ∧ a.getD i 0 < 4) ∧ ds = [D.agg ((pad8 a).map dy)] ∧ r = .bool (p a)
theorem digM_bnd : ∀ {l : List Int} (w : Int), szs l → ∀ i, 0 ≤ (digM l w).getD i 0 ∧ (digM l w).getD i 0 < 4
  | [], w, h, i => by simp [digM]
  | q :: r, w, h, 0 => by
    have h2 := h 0 (by simp)
    simp at h2
    have := mod_bnd (x := w / prodM r) h2
    simp [digM]; omega
  | q :: r, w, h, i + 1 => by simpa [digM] using digM_bnd w (szs_tail h) i
theorem fnD_mk {l : List Int} (hs : isSpaceM l = true) (p : List Int → Bool) (w : Int) : fnD l.length p [D.agg ((pad8 (digM l w)).map dy)] (.bool (p (digM l w))) := ⟨digM l w, digM_len l w, digM_bnd w (isSpaceM_szs hs), rfl, rfl⟩
def thoseM (l : List Int) (p : List Int → Bool) : List Int := (allW l).filter fun w => p (digM l w)
theorem filter_len_le {α : Type} (p : α → Bool) (l : List α) (n : Nat) (h : l.length ≤ n) : (l.filter p).length ≤ n := Nat.le_trans (List.length_filter_le p l) h
theorem d_impl_those (l : List Int) (hs : isSpaceM l = true) (p : List Int → Bool) (g : List D → Value → Prop) (hg : ∀ w, g [D.agg ((pad8 (digM l w)).map dy)] (.bool (p (digM l w)))) :
    Den PA f_impl_those [.d (.agg [ints l]), .pfn g] [.any, .any] (.own 1 ((thoseM l p).map di)) := by
  have hn := isSpaceM_n hs
  have hp := isSpaceM_prod hs
  have hp1 := prodM_pos (isSpaceM_szs hs)
  have hal := allW_len l
  refine den_go [] l_impl_those ?_
  repeat' (first | simp -implicitDefEqProofs (maxSteps := 1000000) (disch := (first | omega | (simp only [go_sem] <;> omega) | fail)) only [go_sem, ints, bools, mat, c_impl_those] | ((first | refine goIf_b (fun h => ?_) (fun h => ?_) | refine goG_b (fun h => ?_) (fun h => ?_) | refine goTG_b (fun h => ?_) (fun h => ?_) | refine goOG_b (fun h => ?_) (fun h => ?_)) <;> ((try simp only [Bool.not_eq_true', Bool.not_eq_false'] at h); (try simp only [h]); (try simp only [decide_eq_true_eq, decide_eq_false_iff_not, bne_iff_ne, bne_eq_false_iff_eq, beq_iff_eq, beq_eq_false_iff_ne, ne_eq, Int.not_lt, Int.not_le, Bool.and_eq_true, Bool.and_eq_false_iff, Bool.or_eq_true, Bool.or_eq_false_iff] at h))))
  first | refine goC_call [.r] (d_impl_allDigits l hs) ?_ | refine goOC_call [.r] (d_impl_allDigits l hs) ?_
  repeat' (first | simp -implicitDefEqProofs (maxSteps := 1000000) (disch := (first | omega | (simp only [go_sem] <;> omega) | fail)) only [go_sem, ints, bools, mat] | ((first | refine goIf_b (fun h => ?_) (fun h => ?_) | refine goG_b (fun h => ?_) (fun h => ?_) | refine goTG_b (fun h => ?_) (fun h => ?_) | refine goOG_b (fun h => ?_) (fun h => ?_)) <;> ((try simp only [Bool.not_eq_true', Bool.not_eq_false'] at h); (try simp only [h]); (try simp only [decide_eq_true_eq, decide_eq_false_iff_not, bne_iff_ne, bne_eq_false_iff_eq, beq_iff_eq, beq_eq_false_iff_ne, ne_eq, Int.not_lt, Int.not_le, Bool.and_eq_true, Bool.and_eq_false_iff, Bool.or_eq_true, Bool.or_eq_false_iff] at h))))
  refine go_loop (fun (j : Nat) => ⟨[(1, .pfn g), (5, .sl 0 0 (((allW l).take j).filter fun w => p (digM l w)).length 1), (10, .sl 1 0 (prodM l).toNat 8), (11, .d (di (prodM l).toNat)), (12, .d (di j))], [some (.dat 1 ((((allW l).take j).filter fun w => p (digM l w)).map di)), some (.dat 8 (digs (digsM l (allW l))))]⟩) (fun j => j ≤ (prodM l).toNat) (fun j => (prodM l).toNat - j) 0 ?_ ?_ ?_
  · (simp -implicitDefEqProofs (maxSteps := 1000000) (disch := (first | omega | (simp only [go_sem] <;> omega) | fail)) only [go_sem, ints, bools, mat] <;> rfl)
  · simp
  · rintro j hj J hJ
    have hgd := fun h => digsM_get l (allW l) (i := j) h
    have hw := fun h => allW_get l (i := j) h
    have hfl := filter_len_le (fun w => p (digM l w)) ((allW l).take j) j (by simp; omega)
    repeat' (first | simp -implicitDefEqProofs (maxSteps := 1000000) (disch := (first | omega | (simp only [go_sem] <;> omega) | fail)) only [go_sem, ints, bools, mat] | ((first | refine goIf_b (fun h => ?_) (fun h => ?_) | refine goG_b (fun h => ?_) (fun h => ?_) | refine goTG_b (fun h => ?_) (fun h => ?_) | refine goOG_b (fun h => ?_) (fun h => ?_)) <;> ((try simp only [Bool.not_eq_true', Bool.not_eq_false'] at h); (try simp only [h]); (try simp only [decide_eq_true_eq, decide_eq_false_iff_not, bne_iff_ne, bne_eq_false_iff_eq, beq_iff_eq, beq_eq_false_iff_ne, ne_eq, Int.not_lt, Int.not_le, Bool.and_eq_true, Bool.and_eq_false_iff, Bool.or_eq_true, Bool.or_eq_false_iff] at h))))
    · rw [hgd (by omega), hw (by omega)]
      refine goV_pfn [D.agg ((pad8 (digM l j)).map dy)] (.bool (p (digM l j))) (by simp -implicitDefEqProofs (maxSteps := 1000000) (disch := (first | omega | (simp only [go_sem] <;> omega) | fail)) only [go_sem, ints, bools, mat]) rfl (hg _) ?_
      repeat' (first | simp -implicitDefEqProofs (maxSteps := 1000000) (disch := (first | omega | (simp only [go_sem] <;> omega) | fail)) only [go_sem, ints, bools, mat] | ((first | refine goIf_b (fun h => ?_) (fun h => ?_) | refine goG_b (fun h => ?_) (fun h => ?_) | refine goTG_b (fun h => ?_) (fun h => ?_) | refine goOG_b (fun h => ?_) (fun h => ?_)) <;> ((try simp only [Bool.not_eq_true', Bool.not_eq_false'] at h); (try simp only [h]); (try simp only [decide_eq_true_eq, decide_eq_false_iff_not, bne_iff_ne, bne_eq_false_iff_eq, beq_iff_eq, beq_eq_false_iff_ne, ne_eq, Int.not_lt, Int.not_le, Bool.and_eq_true, Bool.and_eq_false_iff, Bool.or_eq_true, Bool.or_eq_false_iff] at h))))
      · refine hJ (j + 1) (by omega) (by omega) _ ?_
        simp -implicitDefEqProofs (maxSteps := 1000000) (disch := (first | omega | (simp only [go_sem] <;> omega) | fail)) only [go_sem, ints, bools, mat]
        rw [take_allW l (by omega), List.filter_append]; simp [h]
      · refine hJ (j + 1) (by omega) (by omega) _ ?_
        simp -implicitDefEqProofs (maxSteps := 1000000) (disch := (first | omega | (simp only [go_sem] <;> omega) | fail)) only [go_sem, ints, bools, mat]
        rw [take_allW l (by omega), List.filter_append]; simp [h]
    · have : j = (prodM l).toNat := by omega
      subst this
      repeat' (first | simp -implicitDefEqProofs (maxSteps := 1000000) (disch := (first | omega | (simp only [go_sem] <;> omega) | fail)) only [go_sem, ints, bools, mat] | ((first | refine goIf_b (fun h => ?_) (fun h => ?_) | refine goG_b (fun h => ?_) (fun h => ?_) | refine goTG_b (fun h => ?_) (fun h => ?_) | refine goOG_b (fun h => ?_) (fun h => ?_)) <;> ((try simp only [Bool.not_eq_true', Bool.not_eq_false'] at h); (try simp only [h]); (try simp only [decide_eq_true_eq, decide_eq_false_iff_not, bne_iff_ne, bne_eq_false_iff_eq, beq_iff_eq, beq_eq_false_iff_ne, ne_eq, Int.not_lt, Int.not_le, Bool.and_eq_true, Bool.and_eq_false_iff, Bool.or_eq_true, Bool.or_eq_false_iff] at h))))
      rfl
theorem d_spec_l04Code (l : List Int) (hl : l.length < 1048577) (d lo hi : Int) : Den PA f_spec_l04Code [.d (.agg [ints l]), .d (di d), .d (di lo), .d (di hi)] [.any, .any, .any, .any] (.d (di (if isSpaceM l then (if lo ≤ d ∧ d ≤ hi then 0 else 2) else 1))) := by
  refine den_go [] l_spec_l04Code ?_
  simp -implicitDefEqProofs (maxSteps := 1000000) (disch := (first | omega | (simp only [go_sem] <;> omega) | fail)) only [go_sem, ints, bools, mat, c_spec_l04Code]
  first | refine goC_call [.r] (d_spec_l01Is l hl) ?_ | refine goOC_call [.r] (d_spec_l01Is l hl) ?_
  repeat' (first | simp -implicitDefEqProofs (maxSteps := 1000000) (disch := (first | omega | (simp only [go_sem] <;> omega) | fail)) only [go_sem, ints, bools, mat] | ((first | refine goIf_b (fun h => ?_) (fun h => ?_) | refine goG_b (fun h => ?_) (fun h => ?_) | refine goTG_b (fun h => ?_) (fun h => ?_) | refine goOG_b (fun h => ?_) (fun h => ?_)) <;> ((try simp only [Bool.not_eq_true', Bool.not_eq_false'] at h); (try simp only [h]); (try simp only [decide_eq_true_eq, decide_eq_false_iff_not, bne_iff_ne, bne_eq_false_iff_eq, beq_iff_eq, beq_eq_false_iff_ne, ne_eq, Int.not_lt, Int.not_le, Bool.and_eq_true, Bool.and_eq_false_iff, Bool.or_eq_true, Bool.or_eq_false_iff] at h))))
  first | refine goC_call [.r, .r, .r] (d_spec_l01In d lo hi) ?_ | refine goOC_call [.r, .r, .r] (d_spec_l01In d lo hi) ?_
  repeat' (first | simp -implicitDefEqProofs (maxSteps := 1000000) (disch := (first | omega | (simp only [go_sem] <;> omega) | fail)) only [go_sem, ints, bools, mat] | ((first | refine goIf_b (fun h => ?_) (fun h => ?_) | refine goG_b (fun h => ?_) (fun h => ?_) | refine goTG_b (fun h => ?_) (fun h => ?_) | refine goOG_b (fun h => ?_) (fun h => ?_)) <;> ((try simp only [Bool.not_eq_true', Bool.not_eq_false'] at h); (try simp only [h]); (try simp only [decide_eq_true_eq, decide_eq_false_iff_not, bne_iff_ne, bne_eq_false_iff_eq, beq_iff_eq, beq_eq_false_iff_ne, ne_eq, Int.not_lt, Int.not_le, Bool.and_eq_true, Bool.and_eq_false_iff, Bool.or_eq_true, Bool.or_eq_false_iff] at h))))
  · rw [if_pos (by omega)]
  · rw [if_neg (by omega)]
def or2 (x d : Int) : Int := ((x.toNat ||| (2 ^ d.toNat : Int).toNat : Nat) : Int)
def orN (t a : List Int) : Nat → List Int
  | 0 => t
  | j + 1 => (orN t a j).set j (or2 ((orN t a j).getD j 0) (a.getD j 0))
@[go_sem] theorem orN_len (t a : List Int) : ∀ j, (orN t a j).length = t.length
  | 0 => rfl
  | j + 1 => by rw [orN, List.length_set, orN_len t a j]
def lsN (l c : List Int) : Nat → List Int
  | 0 => List.replicate l.length 0
  | j + 1 => orN (lsN l c j) (digM l (c.getD j 0)) l.length
@[go_sem] theorem lsN_len (l c : List Int) : ∀ j, (lsN l c j).length = l.length
  | 0 => by simp [lsN]
  | j + 1 => by rw [lsN, orN_len, lsN_len l c j]
/-- How many of the first words of a code are within r of a word. -/
def cntN (l c : List Int) (r u : Int) : Nat → Int
  | 0 => 0
  | j + 1 => cntN l c r u j + (if distM l (c.getD j 0) u ≤ r then 1 else 0)
def mixT (l c : List Int) (r : Int) (j k : Nat) : List Int := (List.range (prodM l).toNat).map fun (i : Nat) => cntN l c r i (if i < k then j + 1 else j)
@[go_sem] theorem mixT_len (l c : List Int) (r : Int) (j k : Nat) : (mixT l c r j k).length = (prodM l).toNat := by simp [mixT]
def timesN (l c : List Int) (r : Int) (j : Nat) : List Int := mixT l c r j 0
@[go_sem] theorem timesN_len (l c : List Int) (r : Int) (j : Nat) : (timesN l c r j).length = (prodM l).toNat := mixT_len _ _ _ _ _
def ballM (l : List Int) (w r : Int) : List Int := (allW l).filter fun u => decide (distM l u w ≤ r)
theorem allW_nodup (l : List Int) : (allW l).Nodup := by
  unfold allW
  refine List.Pairwise.map _ ?_ (List.nodup_range (n := (prodM l).toNat))
  intro a b h e
  exact h (by omega)
theorem allW_mem (l : List Int) (u : Int) : u ∈ allW l ↔ 0 ≤ u ∧ u < (prodM l).toNat := by
  unfold allW
  rw [List.mem_map]
  constructor
  · rintro ⟨i, hi, rfl⟩; have := List.mem_range.1 hi; omega
  · rintro ⟨h1, h2⟩; exact ⟨u.toNat, List.mem_range.2 (by omega), by omega⟩
theorem ballM_mem (l : List Int) (w r u : Int) : u ∈ ballM l w r ↔ (0 ≤ u ∧ u < (prodM l).toNat) ∧ distM l u w ≤ r := by
  unfold ballM; rw [List.mem_filter, allW_mem]; simp
theorem getD_mem {l : List Int} {i : Nat} (h : i < l.length) : l.getD i 0 ∈ l := mem_getD h
attribute [go_sem] isnA List.drop_length
def and2 (x y : Int) : Int := ((x.toNat &&& y.toNat : Nat) : Int)
def andM (t u : List Int) : List Int := (List.range t.length).map fun (i : Nat) => and2 (t.getD i 0) (u.getD i 0)
@[go_sem] theorem andM_len (t u : List Int) : (andM t u).length = t.length := by simp [andM]
/-- A sum of products. -/
def sN (a b : List Int) : Nat → Int
  | 0 => 0
  | j + 1 => sN a b j + a.getD j 0 * b.getD j 0
def synM (l c : List Int) (w : Int) : List Int := c.map fun u => sN (digM l w) (digM l u) l.length % l.getD 0 0
@[go_sem] theorem synM_len (l c : List Int) (w : Int) : (synM l c w).length = c.length := by simp [synM]
def sumM (l a b : List Int) : List Int := (List.range l.length).map fun (i : Nat) => (a.getD i 0 + b.getD i 0) % l.getD i 0
@[go_sem] theorem sumM_len (l a b : List Int) : (sumM l a b).length = l.length := by simp [sumM]
def wordN (l d : List Int) : Nat → Int
  | 0 => 0
  | j + 1 => wordN l d j * l.getD j 0 + d.getD j 0
/-- The sum of two words. -/
def sumW (l : List Int) (u w : Int) : Int := wordN l (sumM l (digM l u) (digM l w)) l.length
def setN (N : Nat) (c : List Int) : Nat → List Bool
  | 0 => List.replicate N false
  | j + 1 => (setN N c j).set (c.getD j 0).toNat true
@[go_sem] theorem setN_len (N : Nat) (c : List Int) : ∀ j, (setN N c j).length = N
  | 0 => by simp [setN]
  | j + 1 => by rw [setN, List.length_set, setN_len N c j]
/-- How many of the first words of a code are within M of b, and the last of these. -/
def cntB (l c : List Int) (M b : Int) : Nat → Nat
  | 0 => 0
  | j + 1 => if distM l b (c.getD j 0) ≤ M then cntB l c M b j + 1 else cntB l c M b j
def lastB (l c : List Int) (M b : Int) : Nat → Nat
  | 0 => 0
  | j + 1 => if distM l b (c.getD j 0) ≤ M then j else lastB l c M b j
def needN (l c : List Int) (M : Int) (B : List Int) : Nat → List Bool
  | 0 => List.replicate c.length false
  | j + 1 => if cntB l c M (B.getD j 0) c.length = 1 then (needN l c M B j).set (lastB l c M (B.getD j 0) c.length) true else needN l c M B j
@[go_sem] theorem needN_len (l c : List Int) (M : Int) (B : List Int) : ∀ j, (needN l c M B j).length = c.length
  | 0 => by simp [needN]
  | j + 1 => by rw [needN]; split <;> simp [needN_len l c M B j]
@[go_sem] theorem toNat_succ (j : Nat) : ((j : Int) + 1).toNat = j + 1 := by omega
@[go_sem] theorem all_lf_digs (ds : List (List Int)) : (digs ds).all lfD = true := by
  rw [List.all_eq_true]; intro x hx
  obtain ⟨d, _, rfl⟩ := List.mem_map.1 hx
  rw [lfD, lfDs_all, List.all_eq_true]; intro y hy
  obtain ⟨i, _, rfl⟩ := List.mem_map.1 hy
  rfl
theorem d_spec_l01Own (t : List Int) (h : t.length < 1048577) : Den PA f_spec_l01Own [.d (ints t)] [.any] (.own 1 (t.map di)) := by
  refine den_go [] l_spec_l01Own ?_
  repeat' (first | simp -implicitDefEqProofs (maxSteps := 1000000) (disch := (first | omega | (simp only [go_sem] <;> omega) | fail)) only [go_sem, ints, bools, mat, c_spec_l01Own] | ((first | refine goIf_b (fun h => ?_) (fun h => ?_) | refine goG_b (fun h => ?_) (fun h => ?_) | refine goTG_b (fun h => ?_) (fun h => ?_) | refine goOG_b (fun h => ?_) (fun h => ?_)) <;> ((try simp only [Bool.not_eq_true', Bool.not_eq_false'] at h); (try simp only [h]); (try simp only [decide_eq_true_eq, decide_eq_false_iff_not, bne_iff_ne, bne_eq_false_iff_eq, beq_iff_eq, beq_eq_false_iff_ne, ne_eq, Int.not_lt, Int.not_le, Bool.and_eq_true, Bool.and_eq_false_iff, Bool.or_eq_true, Bool.or_eq_false_iff] at h))))
abbrev ltI : Int → Int → Bool := Go.Sort.ltInt
theorem arr_get (X : Array Int) (i : Nat) : X[i]! = X.toList.getD i 0 := by
  rw [List.getD_eq_getElem?_getD, Array.getElem?_toList]
  rw [Array.getElem!_eq_getD, Array.getD_eq_getD_getElem?]; rfl
theorem swp_list (X : Array Int) (i j : Nat) : (Go.Sort.swp X i j).toList = (X.toList.set i (X.toList.getD j 0)).set j (X.toList.getD i 0) := by
  rw [Go.Sort.swp, Array.toList_setIfInBounds, Array.toList_setIfInBounds, arr_get, arr_get]
theorem swp_size (X : Array Int) (i j : Nat) : (Go.Sort.swp X i j).size = X.size := by simp [Go.Sort.swp]
theorem insInner_eq (a j : Nat) (X : Array Int) : Go.Sort.insInner ltI a j X = if a < j ∧ X.toList.getD j 0 < X.toList.getD (j - 1) 0 then Go.Sort.insInner ltI a (j - 1) (Go.Sort.swp X j (j - 1)) else X := by
  cases j with
  | zero => simp [Go.Sort.insInner]
  | succ j => rw [Go.Sort.insInner, arr_get, arr_get]; simp [Go.Sort.ltInt]
theorem insOuter_step {a b i : Nat} {Y : Array Int} (h : i < b) : Go.Sort.insOuter ltI a b i Y = Go.Sort.insOuter ltI a b (i + 1) (Go.Sort.insInner ltI a i Y) := by
  rw [Go.Sort.insOuter, if_pos h]
theorem d_cmp_isNaN (x : Int) : Den PA f_cmp_isNaN_int64_ [.d (di x)] [.any] (.d (db false)) := by
  refine den_go [] l_cmp_isNaN_int64_ ?_
  repeat' (first | simp -implicitDefEqProofs (maxSteps := 1000000) (disch := (first | omega | (simp only [go_sem] <;> omega) | fail)) only [go_sem, ints, bools, mat, c_cmp_isNaN_int64_] | ((first | refine goIf_b (fun h => ?_) (fun h => ?_) | refine goG_b (fun h => ?_) (fun h => ?_) | refine goTG_b (fun h => ?_) (fun h => ?_) | refine goOG_b (fun h => ?_) (fun h => ?_)) <;> ((try simp only [Bool.not_eq_true', Bool.not_eq_false'] at h); (try simp only [h]); (try simp only [decide_eq_true_eq, decide_eq_false_iff_not, bne_iff_ne, bne_eq_false_iff_eq, beq_iff_eq, beq_eq_false_iff_ne, ne_eq, Int.not_lt, Int.not_le, Bool.and_eq_true, Bool.and_eq_false_iff, Bool.or_eq_true, Bool.or_eq_false_iff] at h))))
theorem d_cmp_Less (x y : Int) : Den PA f_cmp_Less_int64_ [.d (di x), .d (di y)] [.any, .any] (.d (db (decide (x < y)))) := by
  refine den_go [] l_cmp_Less_int64_ ?_
  repeat' (first | simp -implicitDefEqProofs (maxSteps := 1000000) (disch := (first | omega | (simp only [go_sem] <;> omega) | fail)) only [go_sem, ints, bools, mat, c_cmp_Less_int64_] | ((first | refine goIf_b (fun h => ?_) (fun h => ?_) | refine goG_b (fun h => ?_) (fun h => ?_) | refine goTG_b (fun h => ?_) (fun h => ?_) | refine goOG_b (fun h => ?_) (fun h => ?_)) <;> ((try simp only [Bool.not_eq_true', Bool.not_eq_false'] at h); (try simp only [h]); (try simp only [decide_eq_true_eq, decide_eq_false_iff_not, bne_iff_ne, bne_eq_false_iff_eq, beq_iff_eq, beq_eq_false_iff_ne, ne_eq, Int.not_lt, Int.not_le, Bool.and_eq_true, Bool.and_eq_false_iff, Bool.or_eq_true, Bool.or_eq_false_iff] at h))))
  first | refine goC_call [.r] (d_cmp_isNaN x) ?_ | refine goOC_call [.r] (d_cmp_isNaN x) ?_
  repeat' (first | simp -implicitDefEqProofs (maxSteps := 1000000) (disch := (first | omega | (simp only [go_sem] <;> omega) | fail)) only [go_sem, ints, bools, mat] | ((first | refine goIf_b (fun h => ?_) (fun h => ?_) | refine goG_b (fun h => ?_) (fun h => ?_) | refine goTG_b (fun h => ?_) (fun h => ?_) | refine goOG_b (fun h => ?_) (fun h => ?_)) <;> ((try simp only [Bool.not_eq_true', Bool.not_eq_false'] at h); (try simp only [h]); (try simp only [decide_eq_true_eq, decide_eq_false_iff_not, bne_iff_ne, bne_eq_false_iff_eq, beq_iff_eq, beq_eq_false_iff_ne, ne_eq, Int.not_lt, Int.not_le, Bool.and_eq_true, Bool.and_eq_false_iff, Bool.or_eq_true, Bool.or_eq_false_iff] at h))))
@[go_sem] theorem toNat_pred {j : Nat} : ((j : Int) - 1).toNat = j - 1 := by omega
theorem d_insertionSort (X : Array Int) (a b : Nat) (hX : X.size < 1048577) (ha : a ≤ b) (hb : b ≤ X.size) :
    Den PA f_slices_insertionSortOrdered_int64_ [.own 1 (X.toList.map di), .d (di a), .d (di b)] [.own 1 ((Go.Sort.insertionSort ltI X a b).toList.map di), .any, .any] (.tup []) := by
  refine den_go [0] l_slices_insertionSortOrdered_int64_ ?_
  have hXl : X.toList.length = X.size := Array.length_toList
  repeat' (first | simp -implicitDefEqProofs (maxSteps := 1000000) (disch := (first | omega | (simp only [go_sem] <;> omega) | fail)) only [go_sem, ints, bools, mat, c_slices_insertionSortOrdered_int64_] | ((first | refine goIf_b (fun h => ?_) (fun h => ?_) | refine goG_b (fun h => ?_) (fun h => ?_) | refine goTG_b (fun h => ?_) (fun h => ?_) | refine goOG_b (fun h => ?_) (fun h => ?_)) <;> ((try simp only [Bool.not_eq_true', Bool.not_eq_false'] at h); (try simp only [h]); (try simp only [decide_eq_true_eq, decide_eq_false_iff_not, bne_iff_ne, bne_eq_false_iff_eq, beq_iff_eq, beq_eq_false_iff_ne, ne_eq, Int.not_lt, Int.not_le, Bool.and_eq_true, Bool.and_eq_false_iff, Bool.or_eq_true, Bool.or_eq_false_iff] at h))))
  refine go_loop (fun (p : Nat × Array Int) => ⟨[(0, .sl 0 0 p.2.toList.length 1), (1, .d (di a)), (2, .d (di b)), (6, .d (di p.1)), (49, .sl 0 0 p.2.toList.length 1)], [some (.dat 1 (p.2.toList.map di))]⟩)
    (fun p => a + 1 ≤ p.1 ∧ (p.1 ≤ b ∨ p.1 = a + 1) ∧ p.2.toList.length = X.size ∧ Go.Sort.insOuter ltI a b p.1 p.2 = Go.Sort.insertionSort ltI X a b) (fun p => b - p.1) (a + 1, X) ?_ ?_ ?_
  · (simp -implicitDefEqProofs (maxSteps := 1000000) (disch := (first | omega | (simp only [go_sem] <;> omega) | fail)) only [go_sem, ints, bools, mat] <;> rfl)
  · exact ⟨Nat.le_refl _, .inr rfl, hXl, rfl⟩
  · rintro ⟨i, Y⟩ ⟨h1, h2, h3, h4⟩ J hJ
    simp only at h1 h2 h3 h4 hJ
    repeat' (first | simp -implicitDefEqProofs (maxSteps := 1000000) (disch := (first | omega | (simp only [go_sem] <;> omega) | fail)) only [go_sem, ints, bools, mat] | ((first | refine goIf_b (fun h => ?_) (fun h => ?_) | refine goG_b (fun h => ?_) (fun h => ?_) | refine goTG_b (fun h => ?_) (fun h => ?_) | refine goOG_b (fun h => ?_) (fun h => ?_)) <;> ((try simp only [Bool.not_eq_true', Bool.not_eq_false'] at h); (try simp only [h]); (try simp only [decide_eq_true_eq, decide_eq_false_iff_not, bne_iff_ne, bne_eq_false_iff_eq, beq_iff_eq, beq_eq_false_iff_ne, ne_eq, Int.not_lt, Int.not_le, Bool.and_eq_true, Bool.and_eq_false_iff, Bool.or_eq_true, Bool.or_eq_false_iff] at h))))
    · refine go_loop (fun (p : Nat × Array Int) => ⟨[(0, .sl 0 0 p.2.toList.length 1), (1, .d (di a)), (2, .d (di b)), (6, .d (di i)), (7, .d (di p.1)), (49, .sl 0 0 p.2.toList.length 1)], [some (.dat 1 (p.2.toList.map di))]⟩)
        (fun p => p.1 ≤ i ∧ p.2.toList.length = X.size ∧ Go.Sort.insInner ltI a p.1 p.2 = Go.Sort.insInner ltI a i Y) (fun p => p.1) (i, Y) ?_ ?_ ?_
      · (simp -implicitDefEqProofs (maxSteps := 1000000) (disch := (first | omega | (simp only [go_sem] <;> omega) | fail)) only [go_sem, ints, bools, mat] <;> rfl)
      · exact ⟨Nat.le_refl _, h3, rfl⟩
      · rintro ⟨j, Z⟩ ⟨g1, g2, g3⟩ K hK
        simp only at g1 g2 g3 hK
        have hsl := swp_list Z j (j - 1)
        repeat' (first | simp -implicitDefEqProofs (maxSteps := 1000000) (disch := (first | omega | (simp only [go_sem] <;> omega) | fail)) only [go_sem, ints, bools, mat] | ((first | refine goIf_b (fun h => ?_) (fun h => ?_) | refine goG_b (fun h => ?_) (fun h => ?_) | refine goTG_b (fun h => ?_) (fun h => ?_) | refine goOG_b (fun h => ?_) (fun h => ?_)) <;> ((try simp only [Bool.not_eq_true', Bool.not_eq_false'] at h); (try simp only [h]); (try simp only [decide_eq_true_eq, decide_eq_false_iff_not, bne_iff_ne, bne_eq_false_iff_eq, beq_iff_eq, beq_eq_false_iff_ne, ne_eq, Int.not_lt, Int.not_le, Bool.and_eq_true, Bool.and_eq_false_iff, Bool.or_eq_true, Bool.or_eq_false_iff] at h))))
        · first | refine goC_call [.r, .r] (d_cmp_Less (Z.toList.getD j 0) (Z.toList.getD (j - 1) 0)) ?_ | refine goOC_call [.r, .r] (d_cmp_Less (Z.toList.getD j 0) (Z.toList.getD (j - 1) 0)) ?_
          repeat' (first | simp -implicitDefEqProofs (maxSteps := 1000000) (disch := (first | omega | (simp only [go_sem] <;> omega) | fail)) only [go_sem, ints, bools, mat] | ((first | refine goIf_b (fun h => ?_) (fun h => ?_) | refine goG_b (fun h => ?_) (fun h => ?_) | refine goTG_b (fun h => ?_) (fun h => ?_) | refine goOG_b (fun h => ?_) (fun h => ?_)) <;> ((try simp only [Bool.not_eq_true', Bool.not_eq_false'] at h); (try simp only [h]); (try simp only [decide_eq_true_eq, decide_eq_false_iff_not, bne_iff_ne, bne_eq_false_iff_eq, beq_iff_eq, beq_eq_false_iff_ne, ne_eq, Int.not_lt, Int.not_le, Bool.and_eq_true, Bool.and_eq_false_iff, Bool.or_eq_true, Bool.or_eq_false_iff] at h))))
          · have hlt : Z.toList.getD j 0 < Z.toList.getD (j - 1) 0 := by assumption
            have hja : a < j := by omega
            refine hK (j - 1, Go.Sort.swp Z j (j - 1)) ⟨by omega, by simpa [swp_size] using g2, ?_⟩ (by simp only; omega) _ ?_
            · rw [← g3, insInner_eq a j Z, if_pos ⟨hja, hlt⟩]
            · simp -implicitDefEqProofs (maxSteps := 1000000) (disch := (first | omega | (simp only [go_sem] <;> omega) | fail)) only [go_sem, ints, bools, mat]
              rw [hsl]; simp [-List.getD_eq_getElem?_getD]; omega
          · refine hJ (i + 1, Z) ⟨by simp only; omega, by simp only; omega, g2, ?_⟩ (by simp only; omega) _ ?_
            · rw [← h4, insOuter_step (i := i) (by omega), ← g3, insInner_eq a j Z, if_neg (by omega)]
            · simp -implicitDefEqProofs (maxSteps := 1000000) (disch := (first | omega | (simp only [go_sem] <;> omega) | fail)) only [go_sem, ints, bools, mat]
              rfl
        · refine hJ (i + 1, Z) ⟨by simp only; omega, by simp only; omega, g2, ?_⟩ (by simp only; omega) _ ?_
          · rw [← h4, insOuter_step (i := i) (by omega), ← g3, insInner_eq a j Z, if_neg (by omega)]
          · simp -implicitDefEqProofs (maxSteps := 1000000) (disch := (first | omega | (simp only [go_sem] <;> omega) | fail)) only [go_sem, ints, bools, mat]
            rfl
    · have e : Y = Go.Sort.insertionSort ltI X a b := by rw [← h4, Go.Sort.insOuter, if_neg (by omega)]
      rw [e]
abbrev tab8 : Array UInt8 := #[0, 1, 2, 2, 3, 3, 3, 3, 4, 4, 4, 4, 4, 4, 4, 4, 5, 5, 5, 5, 5, 5, 5, 5, 5, 5, 5, 5, 5, 5, 5, 5, 6, 6, 6, 6, 6, 6, 6, 6, 6, 6, 6, 6, 6, 6, 6, 6, 6, 6, 6, 6, 6, 6, 6, 6, 6, 6, 6, 6, 6, 6, 6, 6, 7, 7, 7, 7, 7, 7, 7, 7, 7, 7, 7, 7, 7, 7, 7, 7, 7, 7, 7, 7, 7, 7, 7, 7, 7, 7, 7, 7, 7, 7, 7, 7, 7, 7, 7, 7, 7, 7, 7, 7, 7, 7, 7, 7, 7, 7, 7, 7, 7, 7, 7, 7, 7, 7, 7, 7, 7, 7, 7, 7, 7, 7, 7, 7, 8, 8, 8, 8, 8, 8, 8, 8, 8, 8, 8, 8, 8, 8, 8, 8, 8, 8, 8, 8, 8, 8, 8, 8, 8, 8, 8, 8, 8, 8, 8, 8, 8, 8, 8, 8, 8, 8, 8, 8, 8, 8, 8, 8, 8, 8, 8, 8, 8, 8, 8, 8, 8, 8, 8, 8, 8, 8, 8, 8, 8, 8, 8, 8, 8, 8, 8, 8, 8, 8, 8, 8, 8, 8, 8, 8, 8, 8, 8, 8, 8, 8, 8, 8, 8, 8, 8, 8, 8, 8, 8, 8, 8, 8, 8, 8, 8, 8, 8, 8, 8, 8, 8, 8, 8, 8, 8, 8, 8, 8, 8, 8, 8, 8, 8, 8, 8, 8, 8, 8, 8, 8, 8, 8, 8, 8, 8, 8]
theorem tab8_ok : ∀ n : Fin 256, (((⟨tab8⟩ : ByteArray)[n.1]?).map fun b => b.toNat) = some (Go.Sort.bitsLen n.1) := by decide +kernel
theorem bitsLen_lt {n : Nat} (h : n < 256) : Go.Sort.bitsLen n < 256 := by
  unfold Go.Sort.bitsLen
  split
  · omega
  · have := Nat.log2_lt (n := n) (k := 8) (by omega); omega
theorem ixt8 {n : Nat} (h : n < 256) : ixtA (.d (.v (.string ⟨#[0, 1, 2, 2, 3, 3, 3, 3, 4, 4, 4, 4, 4, 4, 4, 4, 5, 5, 5, 5, 5, 5, 5, 5, 5, 5, 5, 5, 5, 5, 5, 5, 6, 6, 6, 6, 6, 6, 6, 6, 6, 6, 6, 6, 6, 6, 6, 6, 6, 6, 6, 6, 6, 6, 6, 6, 6, 6, 6, 6, 6, 6, 6, 6, 7, 7, 7, 7, 7, 7, 7, 7, 7, 7, 7, 7, 7, 7, 7, 7, 7, 7, 7, 7, 7, 7, 7, 7, 7, 7, 7, 7, 7, 7, 7, 7, 7, 7, 7, 7, 7, 7, 7, 7, 7, 7, 7, 7, 7, 7, 7, 7, 7, 7, 7, 7, 7, 7, 7, 7, 7, 7, 7, 7, 7, 7, 7, 7, 8, 8, 8, 8, 8, 8, 8, 8, 8, 8, 8, 8, 8, 8, 8, 8, 8, 8, 8, 8, 8, 8, 8, 8, 8, 8, 8, 8, 8, 8, 8, 8, 8, 8, 8, 8, 8, 8, 8, 8, 8, 8, 8, 8, 8, 8, 8, 8, 8, 8, 8, 8, 8, 8, 8, 8, 8, 8, 8, 8, 8, 8, 8, 8, 8, 8, 8, 8, 8, 8, 8, 8, 8, 8, 8, 8, 8, 8, 8, 8, 8, 8, 8, 8, 8, 8, 8, 8, 8, 8, 8, 8, 8, 8, 8, 8, 8, 8, 8, 8, 8, 8, 8, 8, 8, 8, 8, 8, 8, 8, 8, 8, 8, 8, 8, 8, 8, 8, 8, 8, 8, 8, 8, 8, 8, 8, 8, 8]⟩))) n = some (.d (.v (.int .u8 (Go.Sort.bitsLen n)))) := by
  have h1 := tab8_ok ⟨n, h⟩
  unfold ixtA
  simp only [Int.natCast_nonneg, if_true, Int.toNat_natCast]
  revert h1
  generalize (⟨tab8⟩ : ByteArray)[n]? = o
  cases o with
  | none => intro h1; cases h1
  | some b => intro h1; simp only [Option.map_some, Option.some.injEq] at h1 ⊢; rw [h1]
theorem d_bits_Len64 (n : Nat) (h : n < 256) : Den PA f_math_bits_Len64 [.d (.v (.int .u64 n))] [.any] (.d (di (Go.Sort.bitsLen n))) := by
  refine den_go [] l_math_bits_Len64 ?_
  repeat' (first | simp -implicitDefEqProofs (maxSteps := 1000000) (disch := (first | omega | (simp only [go_sem] <;> omega) | fail)) only [go_sem, ints, bools, mat, c_math_bits_Len64] | ((first | refine goIf_b (fun h => ?_) (fun h => ?_) | refine goG_b (fun h => ?_) (fun h => ?_) | refine goTG_b (fun h => ?_) (fun h => ?_) | refine goOG_b (fun h => ?_) (fun h => ?_)) <;> ((try simp only [Bool.not_eq_true', Bool.not_eq_false'] at h); (try simp only [h]); (try simp only [decide_eq_true_eq, decide_eq_false_iff_not, bne_iff_ne, bne_eq_false_iff_eq, beq_iff_eq, beq_eq_false_iff_ne, ne_eq, Int.not_lt, Int.not_le, Bool.and_eq_true, Bool.and_eq_false_iff, Bool.or_eq_true, Bool.or_eq_false_iff] at h)) <;> (try (exfalso; omega))))
  first | rw [ixt8 (by assumption)] | (unfold Go.Lib.len8tab; rw [ixt8 (by assumption)])
  have hb := bitsLen_lt (n := n) (by assumption)
  repeat' (first | simp -implicitDefEqProofs (maxSteps := 1000000) (disch := (first | omega | (simp only [go_sem] <;> omega) | fail)) only [go_sem, ints, bools, mat] | ((first | refine goIf_b (fun h => ?_) (fun h => ?_) | refine goG_b (fun h => ?_) (fun h => ?_) | refine goTG_b (fun h => ?_) (fun h => ?_) | refine goOG_b (fun h => ?_) (fun h => ?_)) <;> ((try simp only [Bool.not_eq_true', Bool.not_eq_false'] at h); (try simp only [h]); (try simp only [decide_eq_true_eq, decide_eq_false_iff_not, bne_iff_ne, bne_eq_false_iff_eq, beq_iff_eq, beq_eq_false_iff_ne, ne_eq, Int.not_lt, Int.not_le, Bool.and_eq_true, Bool.and_eq_false_iff, Bool.or_eq_true, Bool.or_eq_false_iff] at h)) <;> (try (exfalso; omega))))
  rw [Int.zero_add]
theorem d_bits_Len (n : Nat) (h : n < 256) : Den PA f_math_bits_Len [.d (.v (.int .u64 n))] [.any] (.d (di (Go.Sort.bitsLen n))) := by
  refine den_go [] l_math_bits_Len ?_
  repeat' (first | simp -implicitDefEqProofs (maxSteps := 1000000) (disch := (first | omega | (simp only [go_sem] <;> omega) | fail)) only [go_sem, ints, bools, mat, c_math_bits_Len] | ((first | refine goIf_b (fun h => ?_) (fun h => ?_) | refine goG_b (fun h => ?_) (fun h => ?_) | refine goTG_b (fun h => ?_) (fun h => ?_) | refine goOG_b (fun h => ?_) (fun h => ?_)) <;> ((try simp only [Bool.not_eq_true', Bool.not_eq_false'] at h); (try simp only [h]); (try simp only [decide_eq_true_eq, decide_eq_false_iff_not, bne_iff_ne, bne_eq_false_iff_eq, beq_iff_eq, beq_eq_false_iff_ne, ne_eq, Int.not_lt, Int.not_le, Bool.and_eq_true, Bool.and_eq_false_iff, Bool.or_eq_true, Bool.or_eq_false_iff] at h))))
  first | refine goC_call [.r] (d_bits_Len64 n h) ?_ | refine goOC_call [.r] (d_bits_Len64 n h) ?_
  repeat' (first | simp -implicitDefEqProofs (maxSteps := 1000000) (disch := (first | omega | (simp only [go_sem] <;> omega) | fail)) only [go_sem, ints, bools, mat] | ((first | refine goIf_b (fun h => ?_) (fun h => ?_) | refine goG_b (fun h => ?_) (fun h => ?_) | refine goTG_b (fun h => ?_) (fun h => ?_) | refine goOG_b (fun h => ?_) (fun h => ?_)) <;> ((try simp only [Bool.not_eq_true', Bool.not_eq_false'] at h); (try simp only [h]); (try simp only [decide_eq_true_eq, decide_eq_false_iff_not, bne_iff_ne, bne_eq_false_iff_eq, beq_iff_eq, beq_eq_false_iff_ne, ne_eq, Int.not_lt, Int.not_le, Bool.and_eq_true, Bool.and_eq_false_iff, Bool.or_eq_true, Bool.or_eq_false_iff] at h))))
abbrev sortI (l : List Int) : List Int := l.mergeSort (fun x y => decide (x ≤ y))
@[go_sem] theorem sortI_len (l : List Int) : (sortI l).length = l.length := List.length_mergeSort l
theorem sort12 {l : List Int} (h : l.length ≤ 12) : (Go.Sort.insertionSort ltI l.toArray 0 l.toArray.size).toList = sortI l := by
  have := Go.Sort.sortInt l
  rw [Go.Sort.sort, Go.Sort.pdq, if_pos (by simpa using h)] at this; exact this
theorem d_insertionSort12 (l : List Int) (h : l.length ≤ 12) : Den PA f_slices_insertionSortOrdered_int64_ [.own 1 (l.map di), .d (di 0), .d (di l.length)] [.own 1 ((sortI l).map di), .any, .any] (.tup []) := by
  rw [← sort12 h]; exact d_insertionSort l.toArray 0 l.toArray.size (by simp; omega) (by omega) (by omega)
theorem d_pdq12 (l : List Int) (k : Int) (h : l.length ≤ 12) :
    Den PA f_slices_pdqsortOrdered_int64_ [.own 1 (l.map di), .d (di 0), .d (di l.length), .d (di k)] [.own 1 ((sortI l).map di), .any, .any, .any] (.tup []) := by
  refine den_go [0] l_slices_pdqsortOrdered_int64_ ?_
  repeat' (first | simp -implicitDefEqProofs (maxSteps := 1000000) (disch := (first | omega | (simp only [go_sem] <;> omega) | fail)) only [go_sem, ints, bools, mat, c_slices_pdqsortOrdered_int64_] | ((first | refine goIf_b (fun h => ?_) (fun h => ?_) | refine goG_b (fun h => ?_) (fun h => ?_) | refine goTG_b (fun h => ?_) (fun h => ?_) | refine goOG_b (fun h => ?_) (fun h => ?_)) <;> ((try simp only [Bool.not_eq_true', Bool.not_eq_false'] at h); (try simp only [h]); (try simp only [decide_eq_true_eq, decide_eq_false_iff_not, bne_iff_ne, bne_eq_false_iff_eq, beq_iff_eq, beq_eq_false_iff_ne, ne_eq, Int.not_lt, Int.not_le, Bool.and_eq_true, Bool.and_eq_false_iff, Bool.or_eq_true, Bool.or_eq_false_iff] at h))))
  refine go_loop (fun (_ : Unit) => ⟨[(0, .sl 0 0 l.length 1), (1, .d (di 0)), (2, .d (di l.length)), (3, .d (di k)), (8, .d (db true)), (9, .d (db true)), (134, .sl 0 0 l.length 1)], [some (.dat 1 (l.map di))]⟩) (fun _ => True) (fun _ => 0) () ?_ trivial ?_
  · (simp -implicitDefEqProofs (maxSteps := 1000000) (disch := (first | omega | (simp only [go_sem] <;> omega) | fail)) only [go_sem, ints, bools, mat] <;> rfl)
  · intro _ _ J _
    repeat' (first | simp -implicitDefEqProofs (maxSteps := 1000000) (disch := (first | omega | (simp only [go_sem] <;> omega) | fail)) only [go_sem, ints, bools, mat] | ((first | refine goIf_b (fun h => ?_) (fun h => ?_) | refine goG_b (fun h => ?_) (fun h => ?_) | refine goTG_b (fun h => ?_) (fun h => ?_) | refine goOG_b (fun h => ?_) (fun h => ?_)) <;> ((try simp only [Bool.not_eq_true', Bool.not_eq_false'] at h); (try simp only [h]); (try simp only [decide_eq_true_eq, decide_eq_false_iff_not, bne_iff_ne, bne_eq_false_iff_eq, beq_iff_eq, beq_eq_false_iff_ne, ne_eq, Int.not_lt, Int.not_le, Bool.and_eq_true, Bool.and_eq_false_iff, Bool.or_eq_true, Bool.or_eq_false_iff] at h)) <;> (try (exfalso; omega))))
    first | refine goC_call [.o, .r, .r] (d_insertionSort12 l (by omega)) ?_ | refine goOC_call [.o, .r, .r] (d_insertionSort12 l (by omega)) ?_
    repeat' (first | simp -implicitDefEqProofs (maxSteps := 1000000) (disch := (first | omega | (simp only [go_sem] <;> omega) | fail)) only [go_sem, ints, bools, mat] | ((first | refine goIf_b (fun h => ?_) (fun h => ?_) | refine goG_b (fun h => ?_) (fun h => ?_) | refine goTG_b (fun h => ?_) (fun h => ?_) | refine goOG_b (fun h => ?_) (fun h => ?_)) <;> ((try simp only [Bool.not_eq_true', Bool.not_eq_false'] at h); (try simp only [h]); (try simp only [decide_eq_true_eq, decide_eq_false_iff_not, bne_iff_ne, bne_eq_false_iff_eq, beq_iff_eq, beq_eq_false_iff_ne, ne_eq, Int.not_lt, Int.not_le, Bool.and_eq_true, Bool.and_eq_false_iff, Bool.or_eq_true, Bool.or_eq_false_iff] at h)) <;> (try (exfalso; omega))))
theorem d_slices_Sort12 (l : List Int) (h : l.length ≤ 12) : Den PA f_slices_Sort___int64_int64_ [.own 1 (l.map di)] [.own 1 ((sortI l).map di)] (.tup []) := by
  refine den_go [0] l_slices_Sort___int64_int64_ ?_
  repeat' (first | simp -implicitDefEqProofs (maxSteps := 1000000) (disch := (first | omega | (simp only [go_sem] <;> omega) | fail)) only [go_sem, ints, bools, mat, c_slices_Sort___int64_int64_] | ((first | refine goIf_b (fun h => ?_) (fun h => ?_) | refine goG_b (fun h => ?_) (fun h => ?_) | refine goTG_b (fun h => ?_) (fun h => ?_) | refine goOG_b (fun h => ?_) (fun h => ?_)) <;> ((try simp only [Bool.not_eq_true', Bool.not_eq_false'] at h); (try simp only [h]); (try simp only [decide_eq_true_eq, decide_eq_false_iff_not, bne_iff_ne, bne_eq_false_iff_eq, beq_iff_eq, beq_eq_false_iff_ne, ne_eq, Int.not_lt, Int.not_le, Bool.and_eq_true, Bool.and_eq_false_iff, Bool.or_eq_true, Bool.or_eq_false_iff] at h))))
  first | refine goC_call [.r] (d_bits_Len l.length (by omega)) ?_ | refine goOC_call [.r] (d_bits_Len l.length (by omega)) ?_
  repeat' (first | simp -implicitDefEqProofs (maxSteps := 1000000) (disch := (first | omega | (simp only [go_sem] <;> omega) | fail)) only [go_sem, ints, bools, mat] | ((first | refine goIf_b (fun h => ?_) (fun h => ?_) | refine goG_b (fun h => ?_) (fun h => ?_) | refine goTG_b (fun h => ?_) (fun h => ?_) | refine goOG_b (fun h => ?_) (fun h => ?_)) <;> ((try simp only [Bool.not_eq_true', Bool.not_eq_false'] at h); (try simp only [h]); (try simp only [decide_eq_true_eq, decide_eq_false_iff_not, bne_iff_ne, bne_eq_false_iff_eq, beq_iff_eq, beq_eq_false_iff_ne, ne_eq, Int.not_lt, Int.not_le, Bool.and_eq_true, Bool.and_eq_false_iff, Bool.or_eq_true, Bool.or_eq_false_iff] at h))))
  first | refine goC_call [.o, .r, .r, .r] (d_pdq12 l (Go.Sort.bitsLen l.length) h) ?_ | refine goOC_call [.o, .r, .r, .r] (d_pdq12 l (Go.Sort.bitsLen l.length) h) ?_
  repeat' (first | simp -implicitDefEqProofs (maxSteps := 1000000) (disch := (first | omega | (simp only [go_sem] <;> omega) | fail)) only [go_sem, ints, bools, mat] | ((first | refine goIf_b (fun h => ?_) (fun h => ?_) | refine goG_b (fun h => ?_) (fun h => ?_) | refine goTG_b (fun h => ?_) (fun h => ?_) | refine goOG_b (fun h => ?_) (fun h => ?_)) <;> ((try simp only [Bool.not_eq_true', Bool.not_eq_false'] at h); (try simp only [h]); (try simp only [decide_eq_true_eq, decide_eq_false_iff_not, bne_iff_ne, bne_eq_false_iff_eq, beq_iff_eq, beq_eq_false_iff_ne, ne_eq, Int.not_lt, Int.not_le, Bool.and_eq_true, Bool.and_eq_false_iff, Bool.or_eq_true, Bool.or_eq_false_iff] at h))))
theorem prodM_perm {a b : List Int} (h : a.Perm b) : prodM a = prodM b := by
  induction h with
  | nil => rfl
  | cons x _ ih => rw [prodM_cons, prodM_cons, ih]
  | swap x y l => rw [prodM_cons, prodM_cons, prodM_cons, prodM_cons, Int.mul_left_comm]
  | trans _ _ h1 h2 => rw [h1, h2]
/-- The product of all but the k greatest sizes. -/
def divM (l : List Int) (k : Nat) : Int := prodM ((sortI l).take (l.length - k))
theorem szs_mem {l : List Int} : szs l ↔ ∀ x, x ∈ l → 2 ≤ x ∧ x ≤ 4 := by
  constructor
  · intro h x hx
    obtain ⟨j, hj, rfl⟩ := List.mem_iff_getElem.1 hx
    simpa [hj] using h j hj
  · intro h j hj
    exact h _ (mem_getD hj)
theorem szs_perm {a b : List Int} (h : a.Perm b) (hs : szs b) : szs a := szs_mem.2 fun x hx => szs_mem.1 hs x (h.mem_iff.1 hx)
theorem d_slices_Clone_ints (t : List Int) (h : t.length < 1048577) : Den PA f_slices_Clone___int64_int64_ [.d (ints t)] [.any] (.own 1 (t.map di)) := by
  refine den_go [] l_slices_Clone___int64_int64_ ?_
  repeat' (first | simp -implicitDefEqProofs (maxSteps := 1000000) (disch := (first | omega | (simp only [go_sem] <;> omega) | fail)) only [go_sem, ints, bools, mat, c_slices_Clone___int64_int64_] | ((first | refine goIf_b (fun h => ?_) (fun h => ?_) | refine goG_b (fun h => ?_) (fun h => ?_) | refine goTG_b (fun h => ?_) (fun h => ?_) | refine goOG_b (fun h => ?_) (fun h => ?_)) <;> ((try simp only [Bool.not_eq_true', Bool.not_eq_false'] at h); (try simp only [h]); (try simp only [decide_eq_true_eq, decide_eq_false_iff_not, bne_iff_ne, bne_eq_false_iff_eq, beq_iff_eq, beq_eq_false_iff_ne, ne_eq, Int.not_lt, Int.not_le, Bool.and_eq_true, Bool.and_eq_false_iff, Bool.or_eq_true, Bool.or_eq_false_iff] at h))))
theorem d_impl_dividedBy (l : List Int) (k : Nat) (hs : isSpaceM l = true) (hk : k ≤ 8) : Den PA f_impl_dividedBy [.d (.agg [ints l]), .d (di k)] [.any, .any] (.d (di (divM l k))) := by
  have hn := isSpaceM_n hs
  have hz := szs_perm (List.mergeSort_perm l (fun x y => decide (x ≤ y))) (isSpaceM_szs hs)
  have hsl := sortI_len l
  refine den_go [] l_impl_dividedBy ?_
  repeat' (first | simp -implicitDefEqProofs (maxSteps := 1000000) (disch := (first | omega | (simp only [go_sem] <;> omega) | fail)) only [go_sem, ints, bools, mat, c_impl_dividedBy] | ((first | refine goIf_b (fun h => ?_) (fun h => ?_) | refine goG_b (fun h => ?_) (fun h => ?_) | refine goTG_b (fun h => ?_) (fun h => ?_) | refine goOG_b (fun h => ?_) (fun h => ?_)) <;> ((try simp only [Bool.not_eq_true', Bool.not_eq_false'] at h); (try simp only [h]); (try simp only [decide_eq_true_eq, decide_eq_false_iff_not, bne_iff_ne, bne_eq_false_iff_eq, beq_iff_eq, beq_eq_false_iff_ne, ne_eq, Int.not_lt, Int.not_le, Bool.and_eq_true, Bool.and_eq_false_iff, Bool.or_eq_true, Bool.or_eq_false_iff] at h))))
  first | refine goC_call [.r] (d_slices_Clone_ints l (by omega)) ?_ | refine goOC_call [.r] (d_slices_Clone_ints l (by omega)) ?_
  repeat' (first | simp -implicitDefEqProofs (maxSteps := 1000000) (disch := (first | omega | (simp only [go_sem] <;> omega) | fail)) only [go_sem, ints, bools, mat] | ((first | refine goIf_b (fun h => ?_) (fun h => ?_) | refine goG_b (fun h => ?_) (fun h => ?_) | refine goTG_b (fun h => ?_) (fun h => ?_) | refine goOG_b (fun h => ?_) (fun h => ?_)) <;> ((try simp only [Bool.not_eq_true', Bool.not_eq_false'] at h); (try simp only [h]); (try simp only [decide_eq_true_eq, decide_eq_false_iff_not, bne_iff_ne, bne_eq_false_iff_eq, beq_iff_eq, beq_eq_false_iff_ne, ne_eq, Int.not_lt, Int.not_le, Bool.and_eq_true, Bool.and_eq_false_iff, Bool.or_eq_true, Bool.or_eq_false_iff] at h))))
  first | refine goC_call [.o] (d_slices_Sort12 l (by omega)) ?_ | refine goOC_call [.o] (d_slices_Sort12 l (by omega)) ?_
  repeat' (first | simp -implicitDefEqProofs (maxSteps := 1000000) (disch := (first | omega | (simp only [go_sem] <;> omega) | fail)) only [go_sem, ints, bools, mat] | ((first | refine goIf_b (fun h => ?_) (fun h => ?_) | refine goG_b (fun h => ?_) (fun h => ?_) | refine goTG_b (fun h => ?_) (fun h => ?_) | refine goOG_b (fun h => ?_) (fun h => ?_)) <;> ((try simp only [Bool.not_eq_true', Bool.not_eq_false'] at h); (try simp only [h]); (try simp only [decide_eq_true_eq, decide_eq_false_iff_not, bne_iff_ne, bne_eq_false_iff_eq, beq_iff_eq, beq_eq_false_iff_ne, ne_eq, Int.not_lt, Int.not_le, Bool.and_eq_true, Bool.and_eq_false_iff, Bool.or_eq_true, Bool.or_eq_false_iff] at h))))
  first | refine goC_call [.r] (d_impl_places l (by omega)) ?_ | refine goOC_call [.r] (d_impl_places l (by omega)) ?_
  repeat' (first | simp -implicitDefEqProofs (maxSteps := 1000000) (disch := (first | omega | (simp only [go_sem] <;> omega) | fail)) only [go_sem, ints, bools, mat] | ((first | refine goIf_b (fun h => ?_) (fun h => ?_) | refine goG_b (fun h => ?_) (fun h => ?_) | refine goTG_b (fun h => ?_) (fun h => ?_) | refine goOG_b (fun h => ?_) (fun h => ?_)) <;> ((try simp only [Bool.not_eq_true', Bool.not_eq_false'] at h); (try simp only [h]); (try simp only [decide_eq_true_eq, decide_eq_false_iff_not, bne_iff_ne, bne_eq_false_iff_eq, beq_iff_eq, beq_eq_false_iff_ne, ne_eq, Int.not_lt, Int.not_le, Bool.and_eq_true, Bool.and_eq_false_iff, Bool.or_eq_true, Bool.or_eq_false_iff] at h))))
  rw [show (if (l.length : Int) - (k : Int) < 0 then 0 else (l.length : Int) - (k : Int)).toNat = l.length - k from by split <;> omega]
  have hSl : (sortI l).length = l.length := hsl
  generalize hS : sortI l = S at hSl
  have hSz : szs S := by rw [← hS]; exact hz
  refine go_loop (fun (j : Nat) => ⟨[(6, .d (di (prodM (S.take j)))), (20, .sl 0 0 (l.length - k) 1), (21, .d (di (l.length - k : Nat))), (22, .d (di j))], [some (.dat 1 (S.map di))]⟩) (fun j => j ≤ l.length - k) (fun j => l.length - k - j) 0 ?_ ?_ ?_
  · (simp -implicitDefEqProofs (maxSteps := 1000000) (disch := (first | omega | (simp only [go_sem] <;> omega) | fail)) only [go_sem, ints, bools, mat] <;> rfl)
  · simp
  · rintro j hj J hJ
    have hb := prodM_small S (j := j) (by omega) (by omega) (fun i hi => hSz i (by omega))
    have hb' := fun hj' => prodM_small S (j := j + 1) (by omega) hj' (fun i hi => hSz i (by omega))
    have hst := fun hj' => prodM_step S (j := j) hj'
    repeat' (first | simp -implicitDefEqProofs (maxSteps := 1000000) (disch := (first | omega | (simp only [go_sem] <;> omega) | fail)) only [go_sem, ints, bools, mat] | ((first | refine goIf_b (fun h => ?_) (fun h => ?_) | refine goG_b (fun h => ?_) (fun h => ?_) | refine goTG_b (fun h => ?_) (fun h => ?_) | refine goOG_b (fun h => ?_) (fun h => ?_)) <;> ((try simp only [Bool.not_eq_true', Bool.not_eq_false'] at h); (try simp only [h]); (try simp only [decide_eq_true_eq, decide_eq_false_iff_not, bne_iff_ne, bne_eq_false_iff_eq, beq_iff_eq, beq_eq_false_iff_ne, ne_eq, Int.not_lt, Int.not_le, Bool.and_eq_true, Bool.and_eq_false_iff, Bool.or_eq_true, Bool.or_eq_false_iff] at h))))
    · have h1 := hb' (by omega)
      rw [hst (by omega)] at h1
      refine hJ (j + 1) (by omega) (by omega) _ ?_
      simp -implicitDefEqProofs (maxSteps := 1000000) (disch := (first | omega | (simp only [go_sem] <;> omega) | fail)) only [go_sem, ints, bools, mat]
      rw [hst (by omega)]; rfl
    · have : j = l.length - k := by omega
      subst this; rw [divM, hS]
theorem digM_get : ∀ (l : List Int) (w : Int) (i : Nat), i < l.length → (digM l w).getD i 0 = (w / prodM (l.drop (i + 1))) % l.getD i 0
  | q :: r, w, 0, _ => by simp [digM]
  | q :: r, w, i + 1, h => by
    have := digM_get r w i (by simpa using h)
    simpa [digM] using this
/-- i is the place of the first digit other than 0. -/
def fdB (d : List Int) (i : Nat) : Bool := (d.getD i 0 != 0) && (List.range i).all fun j => d.getD j 0 == 0
/-- i is the first place of one of the first j words. -/
def pvB (l c : List Int) (j i : Nat) : Bool := (List.range j).any fun k => fdB (digM l (c.getD k 0)) i
@[go_sem] theorem flat_dy (l : List Int) : flat (l.map dy) = l.map dy := flat_one _ l
@[go_sem] theorem all_one_dy (l : List Int) : (l.map dy).all isOne = true := by rw [List.all_map]; simp [isOne]
attribute [go_sem] slaM
/-- The first places of the first j words, as a row of n marks. -/
def firN (l c : List Int) (n j : Nat) : List Bool := (List.range n).map fun i => pvB l c j i
@[go_sem] theorem firN_len (l c : List Int) (n j : Nat) : (firN l c n j).length = n := by simp [firN]
@[go_sem] theorem getB2 {l : List Bool} {j : Nat} (h : j < l.length) : (l.map db)[j]? = some (db (l.getD j false)) := by simp [h]
@[go_sem] theorem mask32 {x : Int} (h : 0 ≤ x) (h' : x < 4294967296) : binA .and (.d (.v (.int .u64 x))) (.d (.v (.int .u64 4294967295))) = some (.d (.v (.int .u64 x))) := by
  have e : (BitVec.ofInt 64 x &&& BitVec.ofInt 64 4294967295).toNat = x.toNat := by
    rw [BitVec.toNat_and, ofInt_nat h (by omega), ofInt_nat (by omega) (by omega)]
    have := Nat.and_two_pow_sub_one_eq_mod x.toNat 32
    rw [show (4294967295 : Int).toNat = 2 ^ 32 - 1 from rfl, this]
    exact Nat.mod_eq_of_lt (by omega)
  have e2 : binI .and .u64 x 4294967295 = some (.int .u64 (IntKind.wrap .u64 ((BitVec.ofInt 64 x &&& BitVec.ofInt 64 4294967295).toNat : Nat))) := rfl
  simp only [binA, e2, BinOp.isShift, or_true, if_true, e, Option.map_some]
  rw [wrap_u64 (by omega) (by omega), Int.toNat_of_nonneg h]
@[go_sem] theorem shr32 {x : Int} (h : 0 ≤ x) (h' : x < 4294967296) : binA .shr (.d (.v (.int .u64 x))) (.d (.v (.int .u64 32))) = some (.d (.v (.int .u64 0))) := by
  have e : min (32 : Int).toNat 64 = 32 := rfl
  have h1 : (0 : Int) ≤ 2 ^ 32 := by decide
  simp only [binA, binI, BinOp.isShift, true_or, if_true, if_neg (show ¬ (32 : Int) < 0 by omega), IntKind.bits, e, Option.map_some, Int.fdiv_eq_ediv_of_nonneg _ h1]
  rw [Int.ediv_eq_zero_of_lt h (by exact h')]
@[go_sem] theorem cast_one1 : ((1 : Nat) : Int) = 1 := rfl
def vecs : List Int → List (List Int)
  | [] => [[]]
  | q :: r => (List.range q.toNat).flatMap fun (d : Nat) => (vecs r).map fun v => (d : Int) :: v
theorem range_mul (b : Nat) : ∀ a : Nat, List.range (a * b) = (List.range a).flatMap fun i => (List.range b).map fun j => i * b + j
  | 0 => by simp
  | a + 1 => by
    rw [Nat.add_mul, Nat.one_mul, List.range_add, range_mul b a, List.range_succ, List.flatMap_append]
    simp
theorem digM_per : ∀ {r : List Int}, szs r → ∀ (w d : Int), digM r (w + d * prodM r) = digM r w
  | [], _, _, _ => rfl
  | q :: r, h, w, d => by
    have hp := prodM_pos (szs_tail h)
    rw [digM, digM, prodM_cons, ← Int.mul_assoc, digM_per (szs_tail h), Int.add_mul_ediv_right _ _ (by omega), Int.add_mul_emod_self_right]
theorem vecs_ok : ∀ {l : List Int}, szs l → (allW l).map (digM l) = vecs l
  | [], _ => by simp [allW, prodM_nil, vecs, digM, List.range_succ]
  | q :: r, h => by
    have hp := prodM_pos (szs_tail h)
    have hq := h 0 (by simp)
    simp at hq
    have ih := vecs_ok (szs_tail h)
    rw [vecs, ← ih]
    have e : (prodM (q :: r)).toNat = q.toNat * (prodM r).toNat := by rw [prodM_cons, Int.toNat_mul (by omega) (by omega)]
    have fc : ∀ (L : List Nat) (f g : Nat → List (List Int)), (∀ a, a ∈ L → f a = g a) → L.flatMap f = L.flatMap g := fun L f g hh => by
      induction L with
      | nil => rfl
      | cons x L ih => rw [List.flatMap_cons, List.flatMap_cons, hh x List.mem_cons_self, ih fun a ha => hh a (List.mem_cons_of_mem _ ha)]
    rw [allW, e, range_mul, List.map_flatMap, List.map_flatMap]
    refine fc _ _ _ fun d hd => ?_
    have hd := List.mem_range.1 hd
    rw [allW, List.map_map, List.map_map, List.map_map, List.map_map]
    refine List.map_congr_left fun j hj => ?_
    have hj := List.mem_range.1 hj
    simp only [Function.comp]
    have e2 : ((d * (prodM r).toNat + j : Nat) : Int) = (j : Int) + (d : Int) * prodM r := by
      rw [Int.natCast_add, Int.natCast_mul, Int.toNat_of_nonneg (by omega)]; omega
    rw [e2, digM, digM_per (szs_tail h), Int.add_mul_ediv_right _ _ (by omega), Int.ediv_eq_zero_of_lt (by omega) (by omega), Int.zero_add, Int.emod_eq_of_lt (by omega) (by omega)]
/-- .. with k one less; none at k = 0. -/
def dn (f : Nat → Int) (k : Nat) : Int := if k = 0 then 0 else f (k - 1)
/-- A row of coefficients times (1 + b x). -/
def mulB (b : Int) (f : Nat → Int) (k : Nat) : Int := f k + b * dn f k
/-- A list told by a function. -/
def FL (n : Nat) (f : Nat → Int) : List Int := (List.range (n + 1)).map f
@[go_sem] theorem FL_len (n : Nat) (f : Nat → Int) : (FL n f).length = n + 1 := by simp [FL]
@[go_sem] theorem tn1 (f r : Nat) : ((f : Int) + (2 * (r : Int) + 1)).toNat = f + (2 * r + 1) := by omega
@[go_sem] theorem tn2 (f r : Nat) : ((f : Int) + (2 * (r : Int) + 1) + 1).toNat = f + (2 * r + 2) := by omega
@[go_sem] theorem tn3 (f r : Nat) : ((f : Int) + (2 * (r : Int) + 1 + 1)).toNat = f + (2 * r + 2) := by omega
@[go_sem] theorem tn4 (f r : Nat) : ((f : Int) + (r : Int)).toNat = f + r := by omega
def cpN (l : List Int) : Nat → List Int
  | 0 => []
  | m + 1 => if m = 0 ∨ l.getD m 0 ≠ l.getD (m - 1) 0 then cpN l m ++ [l.getD m 0] else cpN l m
abbrev cpM (l : List Int) : List Int := cpN l l.length
abbrev Asc (l : List Int) : Prop := l.Pairwise (· < ·)
/-- The set of the numbers of a list. -/
abbrev setI (l : List Int) : List Int := cpM (sortI l)
@[go_sem] theorem setI_len_le (l : List Int) : (sortI l).length = l.length := List.length_mergeSort l
/-- All are words. -/
abbrev inC (l c : List Int) : Prop := ∀ u, u ∈ c → 0 ≤ u ∧ u < prodM l
theorem inC_get {l c : List Int} (h : inC l c) : ∀ j, j < c.length → 0 ≤ c.getD j 0 ∧ c.getD j 0 < prodM l := fun j hj => h _ (mem_getD hj)
/-- A shifted code. -/
abbrev shM (l c : List Int) (w : Int) : List Int := setI (c.map fun u => sumW l u w)
/-- The opposite of a word. -/
def oppD (l a : List Int) : List Int := (List.range l.length).map fun (i : Nat) => (l.getD i 0 - a.getD i 0) % l.getD i 0
@[go_sem] theorem oppD_len (l a : List Int) : (oppD l a).length = l.length := by simp [oppD]
theorem allW_asc (l : List Int) : Asc (allW l) := by
  unfold allW
  exact List.Pairwise.map _ (fun a b h => by omega) List.pairwise_lt_range
@[go_sem] theorem binA_shru1 {a : Int} (h : 0 ≤ a) (h' : a < 18446744073709551616) : binA .shr (.d (.v (.int .u64 a))) (.d (.v (.int .u64 1))) = some (.d (.v (.int .u64 (a / 2)))) := by
  have e : min (1 : Int).toNat 64 = 1 := rfl
  have h1 : (0 : Int) ≤ 2 ^ 1 := by decide
  simp only [binA, binI, BinOp.isShift, true_or, if_true, if_neg (show ¬ (1 : Int) < 0 by omega), IntKind.bits, e, Option.map_some, Int.fdiv_eq_ediv_of_nonneg _ h1]
  rfl
@[go_sem] theorem capA_nil : capA (.d nil) = some (.d (di 0)) := rfl
@[go_sem] theorem capA_nil' : capA (.d (.v (.slice none 0 0))) = some (.d (di 0)) := rfl
/-- The weight of a word. -/
abbrev wtM (l : List Int) (x : Int) : Int := distM l 0 x
/-- The best of the first words of a list. -/
def bstN (l L : List Int) : Nat → Int
  | 0 => L.getD 0 0
  | k + 1 => if wtM l (L.getD k 0) < wtM l (bstN l L k) then L.getD k 0 else bstN l L k
/-- The leader of the class of a word. -/
def ldW (l c : List Int) (w : Int) : Int := bstN l (shM l c w) (shM l c w).length
def kltB (l : List Int) (t w : Int) (x : Int) : Bool := decide (wtM l x < t ∨ (wtM l x = t ∧ x < w))
def ldL (l c : List Int) (t w : Int) : List Int := (allW l).map fun u => if kltB l t w (ldW l c u) then ldW l c u else -1
@[go_sem] theorem ldL_len (l c : List Int) (t w : Int) : (ldL l c t w).length = (prodM l).toNat := by simp [ldL, allW_len]
/-- Places of a list set to v. -/
def stN (X L : List Int) (v : Int) : Nat → List Int
  | 0 => X
  | k + 1 => (stN X L v k).set (L.getD k 0).toNat v
@[go_sem] theorem stN_len (X L : List Int) (v : Int) : ∀ k, (stN X L v k).length = X.length
  | 0 => rfl
  | k + 1 => by rw [stN, List.length_set, stN_len X L v k]
/-- Digits with the one at i turned. -/
def swD (d : List Int) (i : Nat) : List Int := d.set i (1 - d.getD i 0)
@[go_sem] theorem swD_len (d : List Int) (i : Nat) : (swD d i).length = d.length := by simp [swD]
def nxR (l : List Int) (j : Nat) : List (List Int) := (List.range j).map fun (d : Nat) => l ++ [(d : Int)]
@[go_sem] theorem nxR_len (l : List Int) (j : Nat) : (nxR l j).length = j := by simp [nxR]
def nxT (q : Nat) (ls : List (List Int)) (i : Nat) : List (List Int) := (ls.take i).flatMap fun l => nxR l q
def rowsN (q : Nat) : Nat → List (List Int)
  | 0 => [[]]
  | k + 1 => nxT q (rowsN q k) (rowsN q k).length
def badR (l : List Int) : Bool := match l.findIdx? fun d => d != 0 with | some j => l.getD j 0 != 1 | none => true
def colN (q m : Nat) : List (List Int) := (rowsN q m).filter fun x => !badR x
/-- The Hamming code's space, words. -/
def hamL (q m : Nat) : List Int := List.replicate (colN q m).length (q : Int)
@[go_sem] theorem hamL_len (q m : Nat) : (hamL q m).length = (colN q m).length := by simp [hamL]
abbrev sn (l : List Int) : D := .v (.string (strOfNums l))
@[go_sem] theorem str_46 : (ByteArray.mk #[46]) = strOfNums [46] := rfl
@[go_sem] theorem str_nil : (ByteArray.mk #[]) = strOfNums [] := rfl
@[go_sem] theorem str_45 : (ByteArray.mk #[45]) = strOfNums [45] := rfl
theorem str_app (a b : List Int) : strOfNums a ++ strOfNums b = strOfNums (a ++ b) := by
  apply ByteArray.ext
  simp [strOfNums]
@[go_sem] theorem eqsA_addN {a b : List Int} (h : a.length + b.length < 1048577) : eqsA .add (.d (.v (.string (strOfNums a)))) (.d (.v (.string (strOfNums b)))) = some (.d (.v (.string (strOfNums (a ++ b))))) := by
  have h2 : (strOfNums a).size + (strOfNums b).size ≤ maxLen := by
    rw [strOfNums_size, strOfNums_size]; exact Nat.le_trans (Nat.le_of_lt h) (by decide)
  simp only [eqsA]
  rw [if_pos h2, str_app]
@[go_sem] theorem eqsA_neq_self {s : ByteArray} : eqsA .neq (.d (.v (.string s))) (.d (.v (.string s))) = some (.d (.v (.bool false))) := by simp [eqsA]
@[go_sem] theorem lnsA_n {l : List Int} : lnsA (.d (.v (.string (strOfNums l)))) = some (.d (.v (.int .i64 l.length))) := by simp [lnsA, strOfNums_size]
theorem str_ext (l : List Int) (a b : Nat) : (strOfNums l).extract a b = strOfNums ((l.take b).drop a) := by
  apply ByteArray.ext
  simp [strOfNums, ByteArray.data_extract, List.map_drop, List.map_take, List.drop_take]
@[go_sem] theorem sltA_n {tm : List (Nat × AV)} {l : List Int} {lo hi : Option Opd} : sltA tm (.d (.v (.string (strOfNums l)))) lo hi = (bndA tm l.length lo hi).map fun p => .d (.v (.string (strOfNums ((l.take p.2).drop p.1)))) := by
  simp only [sltA, strOfNums_size, str_ext]
theorem BY.take {l : List Int} (h : BY l) (n : Nat) : BY (l.take n) := fun x hx => h x (List.mem_of_mem_take hx)
theorem BY.drop {l : List Int} (h : BY l) (n : Nat) : BY (l.drop n) := fun x hx => h x (List.mem_of_mem_drop hx)
def spL : List Int → List (List Int)
  | [] => [[]]
  | x :: r => if x = 46 then [] :: spL r else match spL r with
    | p :: ps => (x :: p) :: ps
    | [] => [[x]]
@[go_sem] theorem flat_sn (l : List (List Int)) : flat (l.map fun x => sn x) = l.map fun x => sn x := by
  induction l with
  | nil => rfl
  | cons x r ih => simp only [flat, List.map_cons, List.flatMap_cons, D.cells] at ih ⊢; rw [ih]; rfl
@[go_sem] theorem getSn {l : List (List Int)} {j : Nat} (h : j < l.length) : (l.map fun x => sn x)[j]? = some (sn (l.getD j [])) := by simp [h]
def ptS (m c : Int) : Int := if 48 ≤ c ∧ c ≤ 51 then or2 m (c - 48) else m
def ptB (p : List Int) : Int := p.foldl ptS 0
def psT (l : List Int) : List Int := (spL l).map ptB
@[go_sem] theorem psT_len (l : List Int) : (psT l).length = (spL l).length := by simp [psT]
@[go_sem] theorem binA_shr33 {a : Int} : binA .shr (.d (.v (.int .u64 a))) (.d (.v (.int .u64 33))) = some (.d (.v (.int .u64 (a / 8589934592)))) := by
  have e : min (33 : Int).toNat 64 = 33 := rfl
  have h1 : (0 : Int) ≤ 2 ^ 33 := by decide
  simp only [binA, binI, BinOp.isShift, true_or, if_true, if_neg (show ¬ (33 : Int) < 0 by omega), IntKind.bits, e, Option.map_some, Int.fdiv_eq_ediv_of_nonneg _ h1]
  rfl
@[go_sem] theorem binA_mask24 {a : Int} (h : 0 ≤ a) (h' : a < 18446744073709551616) : binA .and (.d (.v (.int .u64 a))) (.d (.v (.int .u64 16777215))) = some (.d (.v (.int .u64 (a % 16777216)))) := by
  have e1 : (BitVec.ofInt 64 a).toNat = a.toNat := by rw [BitVec.toNat_ofInt]; omega
  have e2 : (BitVec.ofInt 64 16777215).toNat = 16777215 := by decide
  have e3 : (BitVec.ofInt 64 a &&& BitVec.ofInt 64 16777215).toNat = a.toNat % 16777216 := by
    rw [BitVec.toNat_and, e1, e2]; exact Nat.and_two_pow_sub_one_eq_mod a.toNat 24
  have e4 : binI .and .u64 a 16777215 = some (.int .u64 (IntKind.wrap .u64 ((BitVec.ofInt 64 a &&& BitVec.ofInt 64 16777215).toNat : Nat))) := rfl
  simp only [binA, e4, BinOp.isShift, or_true, if_true, e3, Option.map_some]
  rw [wrap_u64 (by omega) (by omega)]
  congr 4
  omega
attribute [go_sem] mkBlk
def leaB (o : Option (Option Blk)) (k i : Nat) (s : Sto) : R × Sto :=
  match o with
  | some (some (.var cs)) => (.boxm (cs.map .d), s.set i none)
  | some (some (.mix cs)) => (.boxm (leaL (leaA k) cs (s.set i none)).1, (leaL (leaA k) cs (s.set i none)).2)
  | _ => (.any, s)
@[go_sem] theorem leaA_ref (k i : Nat) (s : Sto) : leaA (k + 1) (.ref i 0) s = leaB s[i]? k i s := by
  simp only [leaA, leaB] <;> (rcases s[i]? with _ | _ | b <;> first | rfl | (cases b <;> rfl))
@[go_sem] theorem leaB_var (cs : List D) (k i : Nat) (s : Sto) : leaB (some (some (.var cs))) k i s = (.boxm (cs.map .d), s.set i none) := rfl
@[go_sem] theorem RLes_boxm (x y xs ys : List R) : RLes (.boxm x :: xs) (.boxm y :: ys) = (x = y ∧ RLes xs ys) := by
  apply propext
  constructor
  · intro h; cases h with | cons h hs => cases h; exact ⟨rfl, hs⟩
  · rintro ⟨rfl, hs⟩; exact .cons .refl hs
@[go_sem] theorem leaA_is (k : Nat) (x : AV) (v : Value) (s : Sto) : leaA (k + 1) (.is x v) s = leaA k x s := rfl
@[go_sem] theorem leaA_iref (k : Nat) (cs : List D) (c : Nat) (s : Sto) : leaA (k + 1) (.iref cs c) s = (.any, s) := rfl
@[go_sem] theorem leaA_fn (k : Nat) (f : FuncId) (xs : List AV) (s : Sto) : leaA (k + 1) (.fn f xs) s = (.any, s) := rfl
def leaBm (p : List R × Sto) : R × Sto := (.boxm p.1, p.2)
@[go_sem] theorem leaBm_ok (ls : List R) (s : Sto) : leaBm (ls, s) = (.boxm ls, s) := rfl
@[go_sem] theorem leaB_mix (cs : List AV) (k i : Nat) (s : Sto) : leaB (some (some (.mix cs))) k i s = leaBm (leaL (leaA k) cs (s.set i none)) := rfl
theorem leaS_pre {i n : Nat} {es : List D} {s : Sto} (h : n ≤ es.length) : leaS (some (some (.dat 1 es))) i 0 n 1 s = (.own 1 (es.take n), s.set i none) := by
  simp [leaS, h, Nat.mod_one]
theorem ballM_those (l : List Int) (w r : Int) : thoseM l (fun a => decide (farM (digM l w) a ≤ r)) = ballM l w r := by
  unfold thoseM ballM
  congr 1; funext u
  rw [← distM_comm l w u, distM]
theorem d_impl_ball_1 (a b : List Int) (r : Int) (ha : a.length = b.length) (h8 : a.length ≤ 8) : Den PA f_impl_ball_1 [.d (dig a), .box ((pad8 b).map dy), .box [di r]] [.any, .any, .any] (.d (db (decide (farM b a ≤ r)))) := by
  refine den_go [] l_impl_ball_1 ?_
  repeat' (first | simp -implicitDefEqProofs (maxSteps := 1000000) (disch := (first | omega | (simp only [go_sem] <;> omega) | fail)) only [go_sem, ints, bools, mat, c_impl_ball_1] | ((first | refine goIf_b (fun h => ?_) (fun h => ?_) | refine goG_b (fun h => ?_) (fun h => ?_) | refine goTG_b (fun h => ?_) (fun h => ?_) | refine goOG_b (fun h => ?_) (fun h => ?_)) <;> ((try simp only [Bool.not_eq_true', Bool.not_eq_false'] at h); (try simp only [h]); (try simp only [decide_eq_true_eq, decide_eq_false_iff_not, bne_iff_ne, bne_eq_false_iff_eq, beq_iff_eq, beq_eq_false_iff_ne, ne_eq, Int.not_lt, Int.not_le, Bool.and_eq_true, Bool.and_eq_false_iff, Bool.or_eq_true, Bool.or_eq_false_iff] at h))))
  first | refine goC_call [.r, .r] (d_impl_far b a ha.symm (by omega)) ?_ | refine goOC_call [.r, .r] (d_impl_far b a ha.symm (by omega)) ?_
  repeat' (first | simp -implicitDefEqProofs (maxSteps := 1000000) (disch := (first | omega | (simp only [go_sem] <;> omega) | fail)) only [go_sem, ints, bools, mat] | ((first | refine goIf_b (fun h => ?_) (fun h => ?_) | refine goG_b (fun h => ?_) (fun h => ?_) | refine goTG_b (fun h => ?_) (fun h => ?_) | refine goOG_b (fun h => ?_) (fun h => ?_)) <;> ((try simp only [Bool.not_eq_true', Bool.not_eq_false'] at h); (try simp only [h]); (try simp only [decide_eq_true_eq, decide_eq_false_iff_not, bne_iff_ne, bne_eq_false_iff_eq, beq_iff_eq, beq_eq_false_iff_ne, ne_eq, Int.not_lt, Int.not_le, Bool.and_eq_true, Bool.and_eq_false_iff, Bool.or_eq_true, Bool.or_eq_false_iff] at h))))
theorem d_impl_ball (l : List Int) (hs : isSpaceM l = true) (w r : Int) (hw : 0 ≤ w) (hw2 : w < 1000000000000) : Den PA f_impl_ball [.d (.agg [ints l]), .d (di w), .d (di r)] [.any, .any, .any] (.own 1 ((ballM l w r).map di)) := by
  have hn := isSpaceM_n hs
  have e := digM_len l w
  refine den_go [] l_impl_ball ?_
  repeat' (first | simp -implicitDefEqProofs (maxSteps := 1000000) (disch := (first | omega | (simp only [go_sem] <;> omega) | fail)) only [go_sem, ints, bools, mat, c_impl_ball] | ((first | refine goIf_b (fun h => ?_) (fun h => ?_) | refine goG_b (fun h => ?_) (fun h => ?_) | refine goTG_b (fun h => ?_) (fun h => ?_) | refine goOG_b (fun h => ?_) (fun h => ?_)) <;> ((try simp only [Bool.not_eq_true', Bool.not_eq_false'] at h); (try simp only [h]); (try simp only [decide_eq_true_eq, decide_eq_false_iff_not, bne_iff_ne, bne_eq_false_iff_eq, beq_iff_eq, beq_eq_false_iff_ne, ne_eq, Int.not_lt, Int.not_le, Bool.and_eq_true, Bool.and_eq_false_iff, Bool.or_eq_true, Bool.or_eq_false_iff] at h))))
  first | refine goC_call [.r, .r] (d_impl_digitsOf l hs w hw hw2) ?_ | refine goOC_call [.r, .r] (d_impl_digitsOf l hs w hw hw2) ?_
  repeat' (first | simp -implicitDefEqProofs (maxSteps := 1000000) (disch := (first | omega | (simp only [go_sem] <;> omega) | fail)) only [go_sem, ints, bools, mat, dig] | ((first | refine goIf_b (fun h => ?_) (fun h => ?_) | refine goG_b (fun h => ?_) (fun h => ?_) | refine goTG_b (fun h => ?_) (fun h => ?_) | refine goOG_b (fun h => ?_) (fun h => ?_)) <;> ((try simp only [Bool.not_eq_true', Bool.not_eq_false'] at h); (try simp only [h]); (try simp only [decide_eq_true_eq, decide_eq_false_iff_not, bne_iff_ne, bne_eq_false_iff_eq, beq_iff_eq, beq_eq_false_iff_ne, ne_eq, Int.not_lt, Int.not_le, Bool.and_eq_true, Bool.and_eq_false_iff, Bool.or_eq_true, Bool.or_eq_false_iff] at h))))
  first | refine goC_call [.r, .g (fnD l.length fun a => decide (farM (digM l w) a ≤ r))] (d_impl_those l hs (fun a => decide (farM (digM l w) a ≤ r)) _ (fun u => fnD_mk hs (fun a => decide (farM (digM l w) a ≤ r)) u)) ?_ | refine goOC_call [.r, .g (fnD l.length fun a => decide (farM (digM l w) a ≤ r))] (d_impl_those l hs (fun a => decide (farM (digM l w) a ≤ r)) _ (fun u => fnD_mk hs (fun a => decide (farM (digM l w) a ≤ r)) u)) ?_
  repeat' (first | simp -implicitDefEqProofs (maxSteps := 1000000) (disch := (first | omega | (simp only [go_sem] <;> omega) | fail)) only [go_sem, ints, bools, mat] | ((first | refine goIf_b (fun h => ?_) (fun h => ?_) | refine goG_b (fun h => ?_) (fun h => ?_) | refine goTG_b (fun h => ?_) (fun h => ?_) | refine goOG_b (fun h => ?_) (fun h => ?_)) <;> ((try simp only [Bool.not_eq_true', Bool.not_eq_false'] at h); (try simp only [h]); (try simp only [decide_eq_true_eq, decide_eq_false_iff_not, bne_iff_ne, bne_eq_false_iff_eq, beq_iff_eq, beq_eq_false_iff_ne, ne_eq, Int.not_lt, Int.not_le, Bool.and_eq_true, Bool.and_eq_false_iff, Bool.or_eq_true, Bool.or_eq_false_iff] at h))))
  refine chk_intro (fnOK_mk (d_impl_ball_1 [] [] 0 rfl (by simp)).1 [(pad8 (digM l w)).map dy, [di r]] rfl fun ds v hgg => ?_) ?_
  · obtain ⟨a, ha, _, rfl, rfl⟩ := hgg
    exact ⟨_, d_impl_ball_1 a (digM l w) r (by rw [ha, digM_len]) (by omega)⟩
  rw [ballM_those]
  repeat' (first | simp -implicitDefEqProofs (maxSteps := 1000000) (disch := (first | omega | (simp only [go_sem] <;> omega) | fail)) only [go_sem, ints, bools, mat] | ((first | refine goIf_b (fun h => ?_) (fun h => ?_) | refine goG_b (fun h => ?_) (fun h => ?_) | refine goTG_b (fun h => ?_) (fun h => ?_) | refine goOG_b (fun h => ?_) (fun h => ?_)) <;> ((try simp only [Bool.not_eq_true', Bool.not_eq_false'] at h); (try simp only [h]); (try simp only [decide_eq_true_eq, decide_eq_false_iff_not, bne_iff_ne, bne_eq_false_iff_eq, beq_iff_eq, beq_eq_false_iff_ne, ne_eq, Int.not_lt, Int.not_le, Bool.and_eq_true, Bool.and_eq_false_iff, Bool.or_eq_true, Bool.or_eq_false_iff] at h))))
/-- How many rows of digits lie at a distance of k from one row. -/
def cf : List Int → Nat → Int
  | [], k => if k = 0 then 1 else 0
  | q :: r, k => mulB (q - 1) (cf r) k
def sumN (f : Nat → Int) : Nat → Int
  | 0 => 0
  | n + 1 => sumN f n + f n
/-- How many words a ball has. -/
def bzM (l : List Int) (r : Int) : Int := sumN (cf l) (r.toNat + 1)
/-- The row of numbers while the place i is taken in: the numbers behind k are done. -/
def rowS (l : List Int) (i k : Nat) : List Int := (List.range (l.length + 1)).map fun j => if k < j then cf (l.take (i + 1)) j else cf (l.take i) j
@[go_sem] theorem rowS_len (l : List Int) (i k : Nat) : (rowS l i k).length = l.length + 1 := by simp [rowS]
/-- Which words are covered. -/
def cvL (l X : List Int) : List Bool := (allW l).map fun u => decide (u ∈ X)
@[go_sem] theorem cvL_len (l X : List Int) : (cvL l X).length = (prodM l).toNat := by simp [cvL, allW_len]
theorem cvL_get (l X : List Int) {i : Nat} (h : i < (prodM l).toNat) : (cvL l X).getD i false = decide ((i : Int) ∈ X) := by
  have h2 : i < (allW l).length := by rw [allW_len]; exact h
  have e := allW_get l h
  rw [List.getD_eq_getElem?_getD, List.getElem?_eq_getElem h2, Option.getD_some] at e
  simp [cvL, h2, e]
theorem cvL_eq {l X : List Int} {L : List Bool} (h : L.length = (prodM l).toNat) (h2 : ∀ i : Nat, i < (prodM l).toNat → L.getD i false = decide ((i : Int) ∈ X)) : L = cvL l X := by
  apply List.ext_getElem (by rw [h, cvL_len])
  intro i h3 h4
  have := h2 i (by omega)
  have e := cvL_get l X (i := i) (by omega)
  rw [List.getD_eq_getElem?_getD, List.getElem?_eq_getElem h3, Option.getD_some] at this
  rw [List.getD_eq_getElem?_getD, List.getElem?_eq_getElem h4, Option.getD_some] at e
  rw [this, e]
theorem distM_self (l : List Int) (w : Int) : distM l w w = 0 := by
  have key : ∀ a : List Int, farM a a = 0 := by
    intro a
    induction a with
    | nil => rfl
    | cons x a ih => rw [farM, if_pos rfl, ih]; rfl
  exact key _
theorem ball_self {l : List Int} {w r : Int} (hw : 0 ≤ w ∧ w < prodM l) (hr : 0 ≤ r) : w ∈ ballM l w r := by
  rw [ballM_mem, distM_self]; omega
theorem ball_in (l : List Int) (w r : Int) : inC l (ballM l w r) := fun u hu => by
  rw [ballM_mem] at hu; omega
/-- The balls of all words. -/
def nearM (l : List Int) (r : Int) : List (List Int) := (allW l).map fun w => ballM l w r
@[go_sem] theorem nearM_len (l : List Int) (r : Int) : (nearM l r).length = (prodM l).toNat := by simp [nearM, allW_len]
structure Pck (l : List Int) (r : Int) (X c : List Int) : Prop where
  nd : X.Nodup
  inX : inC l X
  len : (X.length : Int) = c.length * bzM l r
  sub : ∀ w, w ∈ c → w ∈ X
  cnd : c.Nodup
theorem Pck.nil (l : List Int) (r : Int) : Pck l r [] [] := ⟨List.nodup_nil, fun u hu => (by cases hu), by simp, fun u hu => hu, List.nodup_nil⟩
/-- A list and an error, the list kept as it is. -/
def lstF (e : Int) (v : List Int) : R := if e = 0 then .tup [.d (ints v), .d (di 0)] else .tup [.d nil, .d (di e)]
theorem and_cut (k a b : Nat) : a &&& b = (a % 2 ^ k &&& b % 2 ^ k) + 2 ^ k * (a / 2 ^ k &&& b / 2 ^ k) := by
  have h1 : (a &&& b) % 2 ^ k = a % 2 ^ k &&& b % 2 ^ k := Nat.and_mod_two_pow
  have h2 : (a &&& b) / 2 ^ k = a / 2 ^ k &&& b / 2 ^ k := Nat.and_div_two_pow
  rw [← h1, ← h2]
  exact (Nat.mod_add_div _ _).symm
/-- The same digits again and again. -/
def repD (m B : Nat) : Nat → Nat
  | 0 => 0
  | n + 1 => m + B * repD m B n
def popN : Nat → Nat → Nat
  | 0, _ => 0
  | n + 1, x => x % 2 + popN n (x / 2)
def dsum (B : Nat) : Nat → Nat → Nat
  | 0, _ => 0
  | n + 1, x => x % B + dsum B n (x / B)
def sw1 : Nat → Nat → Nat
  | 0, _ => 0
  | n + 1, x => (x % 2 + x / 2 % 2) + 4 * sw1 n (x / 4)
theorem sw1_ok : ∀ n x, ((x / 2) &&& repD 1 4 n) + (x &&& repD 1 4 n) = sw1 n x
  | 0, x => by simp [repD, sw1]
  | n + 1, x => by
    have ih := sw1_ok n (x / 4)
    have a1 := and_cut 2 (x / 2) (repD 1 4 (n + 1))
    have a2 := and_cut 2 x (repD 1 4 (n + 1))
    have e1 : repD 1 4 (n + 1) % 2 ^ 2 = 1 := by rw [repD]; omega
    have e2 : repD 1 4 (n + 1) / 2 ^ 2 = repD 1 4 n := by rw [repD]; omega
    rw [e1, e2, Nat.and_one_is_mod] at a1 a2
    have e3 : x / 2 / 2 ^ 2 = x / 4 / 2 := by omega
    rw [e3] at a1
    rw [show x / 2 ^ 2 = x / 4 by omega] at a2
    rw [a1, a2, sw1, ← ih]
    omega
theorem sw1_sum : ∀ n x, dsum 4 n (sw1 n x) = popN (2 * n) x
  | 0, _ => rfl
  | n + 1, x => by
    have ih := sw1_sum n (x / 4)
    have e1 : sw1 (n + 1) x % 4 = x % 2 + x / 2 % 2 := by rw [sw1]; omega
    have e2 : sw1 (n + 1) x / 4 = sw1 n (x / 4) := by rw [sw1]; omega
    rw [dsum, e1, e2, ih, show 2 * (n + 1) = 2 * n + 1 + 1 by omega, popN, popN, show x / 2 / 2 = x / 4 by omega]
    omega
/-- Digits that are not too great. -/
def digL (B d : Nat) : Nat → Nat → Prop
  | 0, x => x = 0
  | n + 1, x => x % B ≤ d ∧ digL B d n (x / B)
theorem sw1_dig : ∀ n x, digL 4 2 n (sw1 n x)
  | 0, _ => rfl
  | n + 1, x => by
    have e1 : sw1 (n + 1) x % 4 = x % 2 + x / 2 % 2 := by rw [sw1]; omega
    have e2 : sw1 (n + 1) x / 4 = sw1 n (x / 4) := by rw [sw1]; omega
    refine ⟨by omega, ?_⟩
    rw [e2]; exact sw1_dig n _
def sw2 : Nat → Nat → Nat
  | 0, _ => 0
  | n + 1, x => (x % 4 + x / 4 % 4) + 16 * sw2 n (x / 16)
theorem and_3 (x : Nat) : x % 2 ^ 4 &&& 3 = x % 4 := by
  have := Nat.and_two_pow_sub_one_eq_mod (x % 2 ^ 4) 2
  rw [show 2 ^ 2 - 1 = 3 by decide] at this
  rw [this]; omega
theorem sw2_ok : ∀ n x, ((x / 4) &&& repD 3 16 n) + (x &&& repD 3 16 n) = sw2 n x
  | 0, x => by simp [repD, sw2]
  | n + 1, x => by
    have ih := sw2_ok n (x / 16)
    have a1 := and_cut 4 (x / 4) (repD 3 16 (n + 1))
    have a2 := and_cut 4 x (repD 3 16 (n + 1))
    have e1 : repD 3 16 (n + 1) % 2 ^ 4 = 3 := by rw [repD]; omega
    have e2 : repD 3 16 (n + 1) / 2 ^ 4 = repD 3 16 n := by rw [repD]; omega
    rw [e1, e2, and_3] at a1 a2
    have e3 : x / 4 / 2 ^ 4 = x / 16 / 4 := by omega
    rw [e3] at a1
    rw [show x / 2 ^ 4 = x / 16 by omega] at a2
    rw [a1, a2, sw2, ← ih]
    omega
theorem sw2_sum : ∀ n x, dsum 16 n (sw2 n x) = dsum 4 (2 * n) x
  | 0, _ => rfl
  | n + 1, x => by
    have ih := sw2_sum n (x / 16)
    have e1 : sw2 (n + 1) x % 16 = x % 4 + x / 4 % 4 := by rw [sw2]; omega
    have e2 : sw2 (n + 1) x / 16 = sw2 n (x / 16) := by rw [sw2]; omega
    rw [dsum, e1, e2, ih, show 2 * (n + 1) = 2 * n + 1 + 1 by omega, dsum, dsum, show x / 4 / 4 = x / 16 by omega]
    omega
theorem sw2_dig : ∀ n x, digL 4 2 (2 * n) x → digL 16 4 n (sw2 n x)
  | 0, _, _ => rfl
  | n + 1, x, h => by
    have e1 : sw2 (n + 1) x % 16 = x % 4 + x / 4 % 4 := by rw [sw2]; omega
    have e2 : sw2 (n + 1) x / 16 = sw2 n (x / 16) := by rw [sw2]; omega
    rw [show 2 * (n + 1) = 2 * n + 1 + 1 by omega] at h
    obtain ⟨h1, h2, h3⟩ := h
    rw [show x / 4 / 4 = x / 16 by omega] at h3
    refine ⟨by omega, ?_⟩
    rw [e2]; exact sw2_dig n _ h3
def sw3 : Nat → Nat → Nat
  | 0, _ => 0
  | n + 1, x => (x % 16 + x / 16 % 16) + 256 * sw3 n (x / 256)
theorem and_15 (x : Nat) : x % 2 ^ 8 &&& 15 = x % 16 := by
  have := Nat.and_two_pow_sub_one_eq_mod (x % 2 ^ 8) 4
  rw [show 2 ^ 4 - 1 = 15 by decide] at this
  rw [this]; omega
theorem dig_hd {B d n x : Nat} (h : digL B d n x) : x % B ≤ d := by
  cases n with
  | zero => have : x = 0 := h; subst this; simp
  | succ n => exact h.1
theorem sw3_ok : ∀ n x, digL 16 4 (2 * n) x → ((x / 16 + x) &&& repD 15 256 n) = sw3 n x
  | 0, x, _ => by simp [repD, sw3]
  | n + 1, x, h => by
    rw [show 2 * (n + 1) = 2 * n + 1 + 1 by omega] at h
    obtain ⟨h1, h2, h3⟩ := h
    rw [show x / 16 / 16 = x / 256 by omega] at h3
    have ih := sw3_ok n (x / 256) h3
    have h4 := dig_hd h3
    have a1 := and_cut 8 (x / 16 + x) (repD 15 256 (n + 1))
    have e1 : repD 15 256 (n + 1) % 2 ^ 8 = 15 := by rw [repD]; omega
    have e2 : repD 15 256 (n + 1) / 2 ^ 8 = repD 15 256 n := by rw [repD]; omega
    rw [e1, e2, and_15] at a1
    have hx : x / 16 = x / 16 % 16 + 16 * (x / 256) := by
      have := Nat.div_div_eq_div_mul x 16 16
      omega
    have e3 : (x / 16 + x) / 2 ^ 8 = x / 256 / 16 + x / 256 := by
      clear a1 ih h3
      have hx2 := Nat.div_add_mod x 16
      generalize x / 16 % 16 = e at *
      generalize x / 256 = d at *
      generalize x % 16 = f at *
      generalize x / 16 = g at *
      subst hx
      omega
    rw [e3, ih] at a1
    rw [a1, sw3]
    omega
theorem sw3_sum : ∀ n x, digL 16 4 (2 * n) x → dsum 256 n (sw3 n x) = dsum 16 (2 * n) x
  | 0, _, _ => rfl
  | n + 1, x, h => by
    rw [show 2 * (n + 1) = 2 * n + 1 + 1 by omega] at h
    obtain ⟨h1, h2, h3⟩ := h
    rw [show x / 16 / 16 = x / 256 by omega] at h3
    have ih := sw3_sum n (x / 256) h3
    have e1 : sw3 (n + 1) x % 256 = x % 16 + x / 16 % 16 := by rw [sw3]; omega
    have e2 : sw3 (n + 1) x / 256 = sw3 n (x / 256) := by rw [sw3]; omega
    rw [dsum, e1, e2, ih, show 2 * (n + 1) = 2 * n + 1 + 1 by omega, dsum, dsum, show x / 16 / 16 = x / 256 by omega]
    omega
theorem sw3_dig : ∀ n x, digL 16 4 (2 * n) x → digL 256 8 n (sw3 n x)
  | 0, _, _ => rfl
  | n + 1, x, h => by
    have e1 : sw3 (n + 1) x % 256 = x % 16 + x / 16 % 16 := by rw [sw3]; omega
    have e2 : sw3 (n + 1) x / 256 = sw3 n (x / 256) := by rw [sw3]; omega
    rw [show 2 * (n + 1) = 2 * n + 1 + 1 by omega] at h
    obtain ⟨h1, h2, h3⟩ := h
    rw [show x / 16 / 16 = x / 256 by omega] at h3
    refine ⟨by omega, ?_⟩
    rw [e2]; exact sw3_dig n _ h3
abbrev dg (i x : Nat) : Nat := x / 256 ^ i % 256
theorem dg_succ (i x : Nat) : dg (i + 1) x = dg i (x / 256) := by
  simp only [dg]
  rw [Nat.pow_succ, Nat.mul_comm, Nat.div_div_eq_div_mul]
theorem dg_shift {a k : Nat} (ha : 2 * a < 256) : ∀ (i x : Nat), (∀ j, dg j x ≤ a) → dg i (x + x / 256 ^ k) = dg i x + dg (i + k) x
  | 0, x, h => by
    have h0 := h 0
    have hk := h k
    simp only [dg, Nat.pow_zero, Nat.div_one, Nat.zero_add] at h0 hk ⊢
    generalize x / 256 ^ k = y at *
    omega
  | i + 1, x, h => by
    have h0 := h 0
    have hk := h k
    have ih := dg_shift (k := k) ha i (x / 256) fun j => by rw [← dg_succ]; exact h (j + 1)
    have e : (x + x / 256 ^ k) / 256 = x / 256 + x / 256 / 256 ^ k := by
      rw [Nat.div_div_eq_div_mul, Nat.mul_comm, ← Nat.div_div_eq_div_mul]
      simp only [dg, Nat.pow_zero, Nat.div_one] at h0 hk
      generalize x / 256 ^ k = y at *
      omega
    rw [dg_succ, e, ih, dg_succ, show i + 1 + k = i + k + 1 by omega, dg_succ]
theorem dig_dg {a : Nat} : ∀ (n x : Nat), digL 256 a n x → ∀ j, dg j x ≤ a
  | 0, x, h, j => by
    have : x = 0 := h
    subst this; simp [dg]
  | n + 1, x, h, 0 => by simpa [dg] using h.1
  | n + 1, x, h, j + 1 => by rw [dg_succ]; exact dig_dg n _ h.2 j
theorem dig_end {a : Nat} : ∀ (n x : Nat), digL 256 a n x → ∀ j, n ≤ j → dg j x = 0
  | 0, x, h, j, _ => by
    have : x = 0 := h
    subst this; simp [dg]
  | n + 1, x, h, 0, hj => by omega
  | n + 1, x, h, j + 1, hj => by rw [dg_succ]; exact dig_end n _ h.2 j (by omega)
theorem dig_le {a : Nat} : ∀ (n x : Nat), digL 256 a n x → x ≤ a * repD 1 256 n
  | 0, x, h => by
    have : x = 0 := h
    subst this; simp
  | n + 1, x, h => by
    have h1 := dig_le n _ h.2
    have h2 := h.1
    rw [repD, Nat.mul_add, Nat.mul_one, Nat.mul_left_comm]; omega
theorem rep4 : repD 1 256 8 = 72340172838076673 := by decide
/-- Eight bytes, each not too great, are summed up. -/
theorem byte_sum {x : Nat} (h : digL 256 8 8 x) :
    (x + x / 256 + (x + x / 256) / 65536 + (x + x / 256 + (x + x / 256) / 65536) / 4294967296) % 128 = dsum 256 8 x ∧ x < 723401728380766731 := by
  have hd := dig_dg 8 x h
  have he := dig_end 8 x h
  have y1 := dg_shift (a := 8) (k := 1) (by omega) (x := x)
  rw [show 256 ^ 1 = 256 by decide] at y1
  have y1 := fun i => y1 i hd
  generalize hy : x + x / 256 = y at *
  have hyd : ∀ j, dg j y ≤ 16 := fun j => by have := y1 j; have := hd j; have := hd (j + 1); omega
  have z1 := dg_shift (a := 16) (k := 2) (by omega) (x := y)
  rw [show 256 ^ 2 = 65536 by decide] at z1
  have z1 := fun i => z1 i hyd
  generalize hz : y + y / 65536 = z at *
  have hzd : ∀ j, dg j z ≤ 32 := fun j => by have := z1 j; have := hyd j; have := hyd (j + 2); omega
  have w1 := dg_shift (a := 32) (k := 4) (by omega) (x := z)
  rw [show 256 ^ 4 = 4294967296 by decide] at w1
  have w1 := w1 0 hzd
  generalize hw : z + z / 4294967296 = w at *
  have hs : dsum 256 8 x = dg 0 x + (dg 1 x + (dg 2 x + (dg 3 x + (dg 4 x + (dg 5 x + (dg 6 x + dg 7 x)))))) := by
    simp only [dsum, dg_succ]
    simp [dg]
  have h8 := he 8 (by omega)
  have b := fun i => hd i
  have b0 := hd 0
  have b1 := hd 1
  have b2 := hd 2
  have b3 := hd 3
  have b4 := hd 4
  have b5 := hd 5
  have b6 := hd 6
  have b7 := hd 7
  have z0 := z1 0
  have z4 := z1 4
  have q0 := y1 0
  have q2 := y1 2
  have q4 := y1 4
  have q6 := y1 6
  have e1 : dg 0 w = dsum 256 8 x := by
    rw [hs]
    simp only [Nat.zero_add, Nat.reduceAdd] at *
    omega
  have e2 : dg 0 w = w % 256 := by simp [dg]
  have hle := dig_le 8 x h
  rw [rep4] at hle
  refine ⟨?_, by omega⟩
  rw [← e1]
  have : dg 0 w ≤ 64 := by rw [e1, hs]; omega
  omega
theorem rep1 : repD 1 4 32 = 6148914691236517205 := by decide
theorem rep2 : repD 3 16 16 = 3689348814741910323 := by decide
theorem rep3 : repD 15 256 8 = 1085102592571150095 := by decide
theorem pop_ok (x : Nat) : ∃ a b c : Nat, ((x / 2) &&& 6148914691236517205) + (x &&& 6148914691236517205) = a ∧ ((a / 4) &&& 3689348814741910323) + (a &&& 3689348814741910323) = b ∧ ((b / 16 + b) &&& 1085102592571150095) = c ∧
    (c + c / 256 + (c + c / 256) / 65536 + (c + c / 256 + (c + c / 256) / 65536) / 4294967296) % 128 = popN 64 x ∧ c < 723401728380766731 ∧ b < 4919131752989213765 ∧ a < 12297829382473034411 := by
  have h1 := sw1_ok 32 x
  have h2 := sw2_ok 16 (sw1 32 x)
  have d1 := sw1_dig 32 x
  have d2 := sw2_dig 16 _ d1
  have h3 := sw3_ok 8 _ d2
  have d3 := sw3_dig 8 _ d2
  rw [rep1] at h1
  rw [rep2] at h2
  rw [rep3] at h3
  obtain ⟨h4, h5⟩ := byte_sum d3
  refine ⟨_, _, _, h1, h2, h3, ?_, h5, ?_, ?_⟩
  · rw [h4, sw3_sum 8 _ d2, sw2_sum 16, sw1_sum 32]
  · have q1 : (sw1 32 x / 4) &&& 3689348814741910323 ≤ 3689348814741910323 := Nat.and_le_right
    have key : ∀ n y, digL 16 4 n y → 3 * y ≤ 4 * repD 3 16 n := by
      intro n
      induction n with
      | zero => intro y h; have : y = 0 := h; subst this; simp
      | succ n ih =>
        intro y h
        have := ih _ h.2
        have := h.1
        rw [repD]; omega
    have := key 16 _ d2
    rw [rep2] at this; omega
  · have key : ∀ n y, digL 4 2 n y → y ≤ 2 * repD 1 4 n := by
      intro n
      induction n with
      | zero => intro y h; have : y = 0 := h; subst this; simp
      | succ n ih =>
        intro y h
        have := ih _ h.2
        have := h.1
        rw [repD]; omega
    have := key 32 _ d1
    rw [rep1] at this; omega
theorem binA_and127 {n : Nat} (h : n < 4611686018427387904) : binA .and (.d (.v (.int .i64 n))) (.d (.v (.int .i64 127))) = some (.d (di ((n % 128 : Nat) : Int))) := by
  have e1 : (BitVec.ofInt 64 (n : Int)).toNat = n := by rw [BitVec.toNat_ofInt]; omega
  have e2 : (BitVec.ofInt 64 127).toNat = 127 := by decide
  have e3 : (BitVec.ofInt 64 (n : Int) &&& BitVec.ofInt 64 127).toNat = n % 128 := by
    rw [BitVec.toNat_and, e1, e2]; exact Nat.and_two_pow_sub_one_eq_mod n 7
  have e4 : binI .and .i64 (n : Int) 127 = some (.int .i64 (IntKind.wrap .i64 ((BitVec.ofInt 64 (n : Int) &&& BitVec.ofInt 64 127).toNat : Nat))) := rfl
  simp only [binA, e4, BinOp.isShift, or_true, if_true, e3, Option.map_some]
  rw [wrap64 (by omega) (by omega)]
theorem nd2 (x : Nat) : (x : Int) / 2 = ((x / 2 : Nat) : Int) := by omega
theorem nd4 (x : Nat) : (x : Int) / 4 = ((x / 4 : Nat) : Int) := by omega
theorem nd16 (x : Nat) : (x : Int) / 16 = ((x / 16 : Nat) : Int) := by omega
theorem nd256 (x : Nat) : (x : Int) / 256 = ((x / 256 : Nat) : Int) := by omega
theorem nd65536 (x : Nat) : (x : Int) / 65536 = ((x / 65536 : Nat) : Int) := by omega
theorem nd32 (x : Nat) : (x : Int) / 4294967296 = ((x / 4294967296 : Nat) : Int) := by omega
theorem nadd (a b : Nat) : (a : Int) + (b : Int) = ((a + b : Nat) : Int) := by omega
theorem d_OnesCount64_64 (x : Nat) (hx : x < 18446744073709551616) : Den PA f_math_bits_OnesCount64 [.d (.v (.int .u64 x))] [.any] (.d (di (popN 64 x))) := by
  obtain ⟨a, b, c, h1, h2, h3, h4, h5, h6, h7⟩ := pop_ok x
  have h8 : b / 16 + b < 18446744073709551616 := by omega
  refine den_go [] l_math_bits_OnesCount64 ?_
  simp -implicitDefEqProofs (maxSteps := 1000000) (disch := (first | omega | (simp only [go_sem] <;> omega) | fail)) only [go_sem, ints, bools, mat, c_math_bits_OnesCount64, binA_shr_u, binA_and_u, binA_add_u, Int.reduceToNat, Int.reducePow, nd2, nd4, nd16, nd256, nd65536, nd32, nadd, h1, h2, h3, Int.toNat_natCast, binA_and127, h4]
/-- The number whose bits are told, the least first. -/
def mkL : List Bool → Nat
  | [] => 0
  | b :: r => (if b = true then 1 else 0) + 2 * mkL r
theorem mkL_lt : ∀ L : List Bool, mkL L < 2 ^ L.length
  | [] => by simp [mkL]
  | b :: r => by
    have := mkL_lt r
    rw [mkL, List.length_cons, Nat.pow_succ]
    cases b <;> simp <;> omega
theorem mkL_bit : ∀ (L : List Bool) (i : Nat), (mkL L).testBit i = L.getD i false
  | [], i => by simp [mkL]
  | b :: r, 0 => by
    rw [mkL, Nat.testBit_zero]
    cases b <;> simp <;> omega
  | b :: r, i + 1 => by
    have e : ((if b = true then 1 else 0) + 2 * mkL r) / 2 = mkL r := by cases b <;> simp <;> omega
    rw [mkL, Nat.testBit_succ, e, mkL_bit r i]; simp
theorem mkL_pop : ∀ (n : Nat) (L : List Bool), L.length ≤ n → popN n (mkL L) = (L.filter id).length
  | 0, L, h => by
    have : L = [] := List.eq_nil_of_length_eq_zero (by omega)
    subst this; rfl
  | n + 1, [], h => by
    have := mkL_pop n [] (by simp)
    rw [mkL] at this
    rw [mkL, popN]
    simpa using this
  | n + 1, b :: r, h => by
    have ih := mkL_pop n r (by simpa using h)
    have e : ((if b = true then 1 else 0) + 2 * mkL r) / 2 = mkL r := by cases b <;> simp <;> omega
    have e2 : ((if b = true then 1 else 0) + 2 * mkL r) % 2 = if b = true then 1 else 0 := by cases b <;> simp <;> omega
    rw [mkL, popN, e, e2, ih]
    cases b <;> simp; omega
/-- A set of words. -/
abbrev wsN (l X : List Int) : Nat := mkL (cvL l X)
theorem wsN_lt {l : List Int} (h27 : prodM l ≤ 27) (X : List Int) : wsN l X < 134217728 := by
  have h1 := mkL_lt (cvL l X)
  rw [cvL_len] at h1
  have h2 : 2 ^ (prodM l).toNat ≤ 2 ^ 27 := Nat.pow_le_pow_right (by omega) (by omega)
  have h3 : (2 : Nat) ^ 27 = 134217728 := by decide
  show mkL (cvL l X) < 134217728
  omega
theorem wsN_bit (l X : List Int) (i : Nat) : (wsN l X).testBit i = decide (i < (prodM l).toNat ∧ (i : Int) ∈ X) := by
  rw [mkL_bit]
  by_cases h : i < (prodM l).toNat
  · rw [cvL_get l X h]; simp [h]
  · rw [List.getD_eq_getElem?_getD, List.getElem?_eq_none (by rw [cvL_len]; omega)]; simp [h]
theorem wsN_or (l X Y : List Int) : wsN l X ||| wsN l Y = wsN l (X ++ Y) := by
  apply Nat.eq_of_testBit_eq
  intro i
  rw [Nat.testBit_or, wsN_bit, wsN_bit, wsN_bit, Bool.eq_iff_iff]
  simp only [Bool.or_eq_true, decide_eq_true_eq, List.mem_append]
  exact ⟨fun h => h.elim (fun h => ⟨h.1, .inl h.2⟩) fun h => ⟨h.1, .inr h.2⟩, fun h => h.2.elim (fun q => .inl ⟨h.1, q⟩) fun q => .inr ⟨h.1, q⟩⟩
theorem wsN_one {l : List Int} {u : Int} (hu : 0 ≤ u ∧ u < prodM l) : 2 ^ u.toNat = wsN l [u] := by
  apply Nat.eq_of_testBit_eq
  intro i
  rw [wsN_bit, Nat.testBit_two_pow, Bool.eq_iff_iff, decide_eq_true_eq, decide_eq_true_eq, List.mem_singleton]
  omega
theorem wsN_nil (l : List Int) : wsN l [] = 0 := by
  apply Nat.eq_of_testBit_eq
  intro i
  rw [wsN_bit]; simp
theorem mkL_all : ∀ n, mkL (List.replicate n true) + 1 = 2 ^ n
  | 0 => rfl
  | n + 1 => by
    have := mkL_all n
    rw [List.replicate_succ, mkL, Nat.pow_succ, if_pos rfl]; omega
theorem wsN_all (l : List Int) : wsN l (allW l) + 1 = 2 ^ (prodM l).toNat := by
  have e : List.replicate (prodM l).toNat true = cvL l (allW l) := cvL_eq (by rw [List.length_replicate]) fun i hi => by
    rw [List.getD_eq_getElem?_getD, List.getElem?_replicate, if_pos hi, Option.getD_some]
    symm; rw [decide_eq_true_eq, allW_mem]; omega
  rw [← mkL_all, e]
theorem binA_or_u {a b : Int} (h : 0 ≤ a) (h1 : a < 18446744073709551616) (h2 : 0 ≤ b) (h3 : b < 18446744073709551616) :
    binA .or (.d (.v (.int .u64 a))) (.d (.v (.int .u64 b))) = some (.d (.v (.int .u64 ((a.toNat ||| b.toNat : Nat) : Int)))) := by
  have e : (BitVec.ofInt 64 a ||| BitVec.ofInt 64 b).toNat = a.toNat ||| b.toNat := by rw [BitVec.toNat_or, ofInt_nat_u h h1, ofInt_nat_u h2 h3]
  have hl : a.toNat ||| b.toNat < 18446744073709551616 := by
    have := @Nat.or_lt_two_pow a.toNat b.toNat 64 (by omega) (by omega)
    omega
  have e2 : binI .or .u64 a b = some (.int .u64 (IntKind.wrap .u64 ((BitVec.ofInt 64 a ||| BitVec.ofInt 64 b).toNat : Nat))) := rfl
  simp only [binA, e2, BinOp.isShift, or_true, if_true, e, Option.map_some, wrap_u64 (x := ((a.toNat ||| b.toNat : Nat) : Int)) (by omega) (by omega)]
theorem binA_shl_u {k : IntKind} {b : Int} (h : 0 ≤ b) (h' : b ≤ 62) : binA .shl (.d (.v (.int .u64 1))) (.d (.v (.int k b))) = some (.d (.v (.int .u64 ((2 ^ b.toNat : Nat) : Int)))) := by
  have e : min b.toNat 64 = b.toNat := by omega
  have h1 : (2 : Nat) ^ b.toNat ≤ 2 ^ 62 := Nat.pow_le_pow_right (by omega) (by omega)
  have h2 : (2 : Nat) ^ 62 = 4611686018427387904 := by decide
  have h3 : (2 : Int) ^ b.toNat = ((2 ^ b.toNat : Nat) : Int) := by rw [Int.natCast_pow]; rfl
  have e2 : binI .shl .u64 1 b = some (.int .u64 (IntKind.wrap .u64 (1 * 2 ^ min b.toNat 64))) := by
    simp only [binI, if_neg (show ¬ b < 0 by omega)]; rfl
  simp only [binA, e2, BinOp.isShift, true_or, if_true, e, Option.map_some, Int.one_mul]
  rw [h3]
  rw [h2] at h1
  clear h3 e2 e
  generalize (2 : Nat) ^ b.toNat = n at *
  rw [wrap_u64 (x := (n : Int)) (by omega) (by omega)]
theorem or_b (l X Y : List Int) (h27 : prodM l ≤ 27) : binA .or (.d (.v (.int .u64 (wsN l X : Int)))) (.d (.v (.int .u64 (wsN l Y : Int)))) = some (.d (.v (.int .u64 (wsN l (X ++ Y) : Int)))) := by
  have h1 := wsN_lt h27 X
  have h2 := wsN_lt h27 Y
  rw [binA_or_u (by omega) (by omega) (by omega) (by omega), Int.toNat_natCast, Int.toNat_natCast, wsN_or]
def duN (n : Nat) : D := .v (.int .u64 n)
@[go_sem] theorem flat_du (l : List Nat) : flat (l.map duN) = l.map duN := flat_one _ l
@[go_sem] theorem getU {l : List Nat} {j : Nat} (h : j < l.length) : (l.map duN)[j]? = some (duN (l.getD j 0)) := by simp [h]
@[go_sem] theorem app_du1 (l : List Nat) (v : Nat) : l.map duN ++ [D.v (.int .u64 (v : Int))] = (l ++ [v]).map duN := by rw [List.map_append]; rfl
@[go_sem] theorem take_du (l : List Nat) (n : Nat) : (l.map duN).take n = (l.take n).map duN := by rw [List.map_take]
@[go_sem] theorem duN_v (n : Nat) : duN n = .v (.int .u64 n) := rfl
@[go_sem] theorem lf_own_du (z : Nat) (l : List Nat) : lfR (.own z (l.map duN)) = true := by simp [lfR, lfD, duN]
@[go_sem] theorem all_lf_du (l : List Nat) : (l.map duN).all lfD = true := by simp [lfD, duN]
def nearB (l : List Int) (r : Int) : List Nat := (allW l).map fun w => wsN l (ballM l w r)
@[go_sem] theorem nearB_len (l : List Int) (r : Int) : (nearB l r).length = (prodM l).toNat := by simp [nearB, allW_len]
theorem nearB_get {l : List Int} (r : Int) {w : Int} (h : 0 ≤ w ∧ w < prodM l) : (nearB l r).getD w.toNat 0 = wsN l (ballM l w r) := by
  have h2 : w.toNat < (allW l).length := by rw [allW_len]; omega
  have e := allW_get l (i := w.toNat) (by omega)
  rw [List.getD_eq_getElem?_getD, List.getElem?_eq_getElem h2, Option.getD_some] at e
  simp [nearB, h2, e, Int.toNat_of_nonneg h.1]
theorem nearB_take (l : List Int) (r : Int) {j : Nat} (h : j < (prodM l).toNat) : (nearB l r).take (j + 1) = (nearB l r).take j ++ [wsN l (ballM l j r)] := by
  have e := nearB_get (l := l) r (w := (j : Int)) (by omega)
  rw [Int.toNat_natCast] at e
  have h2 : j < (nearB l r).length := by rw [nearB_len]; exact h
  rw [List.take_add_one, List.getElem?_eq_getElem h2]
  rw [List.getD_eq_getElem?_getD, List.getElem?_eq_getElem h2, Option.getD_some] at e
  rw [e]; rfl
theorem d_impl_nearSets (l : List Int) (hs : isSpaceM l = true) (h27 : prodM l ≤ 27) (r : Int) : Den PA f_impl_nearSets [.d (.agg [ints l]), .d (di r)] [.any, .any] (.own 1 ((nearB l r).map duN)) := by
  have hp1 := prodM_pos (isSpaceM_szs hs)
  refine den_go [] l_impl_nearSets ?_
  repeat' (first | simp -implicitDefEqProofs (maxSteps := 1000000) (disch := (first | omega | (simp only [go_sem] <;> omega) | fail)) only [go_sem, ints, bools, mat, c_impl_nearSets] | ((first | refine goIf_b (fun h => ?_) (fun h => ?_) | refine goG_b (fun h => ?_) (fun h => ?_) | refine goTG_b (fun h => ?_) (fun h => ?_) | refine goOG_b (fun h => ?_) (fun h => ?_)) <;> ((try simp only [Bool.not_eq_true', Bool.not_eq_false'] at h); (try simp only [h]); (try simp only [decide_eq_true_eq, decide_eq_false_iff_not, bne_iff_ne, bne_eq_false_iff_eq, beq_iff_eq, beq_eq_false_iff_ne, ne_eq, Int.not_lt, Int.not_le, Bool.and_eq_true, Bool.and_eq_false_iff, Bool.or_eq_true, Bool.or_eq_false_iff] at h)) <;> (try (exfalso; omega))))
  first | refine goC_call [.r] (d_impl_count l hs) ?_ | refine goOC_call [.r] (d_impl_count l hs) ?_
  repeat' (first | simp -implicitDefEqProofs (maxSteps := 1000000) (disch := (first | omega | (simp only [go_sem] <;> omega) | fail)) only [go_sem, ints, bools, mat] | ((first | refine goIf_b (fun h => ?_) (fun h => ?_) | refine goG_b (fun h => ?_) (fun h => ?_) | refine goTG_b (fun h => ?_) (fun h => ?_) | refine goOG_b (fun h => ?_) (fun h => ?_)) <;> ((try simp only [Bool.not_eq_true', Bool.not_eq_false'] at h); (try simp only [h]); (try simp only [decide_eq_true_eq, decide_eq_false_iff_not, bne_iff_ne, bne_eq_false_iff_eq, beq_iff_eq, beq_eq_false_iff_ne, ne_eq, Int.not_lt, Int.not_le, Bool.and_eq_true, Bool.and_eq_false_iff, Bool.or_eq_true, Bool.or_eq_false_iff] at h)) <;> (try (exfalso; omega))))
  refine go_loop (fun (j : Nat) => ⟨[(1, .d (di r)), (2, .ref 0 0), (5, .sl 1 0 j 1), (12, .d (di (prodM l))), (13, .d (di j))], [some (.var [ints l]), some (.dat 1 (((nearB l r).take j).map duN))]⟩) (fun j => j ≤ (prodM l).toNat) (fun j => (prodM l).toNat - j) 0 ?_ ?_ ?_
  · simp -implicitDefEqProofs (maxSteps := 1000000) (disch := (first | omega | (simp only [go_sem] <;> omega) | fail)) only [go_sem, ints, bools, mat]
  · exact Nat.zero_le _
  · intro j hj J hJ
    by_cases hjl : j < (prodM l).toNat
    · have hB := ball_in l j r
      have hBl : (ballM l j r).length ≤ (prodM l).toNat := by unfold ballM; exact filter_len_le _ _ _ (by rw [allW_len]; exact Nat.le_refl _)
      have e := nearB_take l r hjl
      repeat' (first | simp -implicitDefEqProofs (maxSteps := 1000000) (disch := (first | omega | (simp only [go_sem] <;> omega) | fail)) only [go_sem, ints, bools, mat] | ((first | refine goIf_b (fun h => ?_) (fun h => ?_) | refine goG_b (fun h => ?_) (fun h => ?_) | refine goTG_b (fun h => ?_) (fun h => ?_) | refine goOG_b (fun h => ?_) (fun h => ?_)) <;> ((try simp only [Bool.not_eq_true', Bool.not_eq_false'] at h); (try simp only [h]); (try simp only [decide_eq_true_eq, decide_eq_false_iff_not, bne_iff_ne, bne_eq_false_iff_eq, beq_iff_eq, beq_eq_false_iff_ne, ne_eq, Int.not_lt, Int.not_le, Bool.and_eq_true, Bool.and_eq_false_iff, Bool.or_eq_true, Bool.or_eq_false_iff] at h)) <;> (try (exfalso; omega))))
      first | refine goC_call [.r, .r, .r] (d_impl_ball l hs j r (by omega) (by omega)) ?_ | refine goOC_call [.r, .r, .r] (d_impl_ball l hs j r (by omega) (by omega)) ?_
      generalize ballM l j r = B at *
      repeat' (first | simp -implicitDefEqProofs (maxSteps := 1000000) (disch := (first | omega | (simp only [go_sem] <;> omega) | fail)) only [go_sem, ints, bools, mat] | ((first | refine goIf_b (fun h => ?_) (fun h => ?_) | refine goG_b (fun h => ?_) (fun h => ?_) | refine goTG_b (fun h => ?_) (fun h => ?_) | refine goOG_b (fun h => ?_) (fun h => ?_)) <;> ((try simp only [Bool.not_eq_true', Bool.not_eq_false'] at h); (try simp only [h]); (try simp only [decide_eq_true_eq, decide_eq_false_iff_not, bne_iff_ne, bne_eq_false_iff_eq, beq_iff_eq, beq_eq_false_iff_ne, ne_eq, Int.not_lt, Int.not_le, Bool.and_eq_true, Bool.and_eq_false_iff, Bool.or_eq_true, Bool.or_eq_false_iff] at h)) <;> (try (exfalso; omega))))
      refine go_loop (fun (k : Nat) => ⟨[(1, .d (di r)), (2, .ref 0 0), (5, .sl 1 0 j 1), (7, .d (.v (.int .u64 (wsN l (B.take k) : Int)))), (12, .d (di (prodM l))), (13, .d (di j)), (19, .sl 2 0 B.length 1), (20, .d (di B.length)), (21, .d (di k))], [some (.var [ints l]), some (.dat 1 (((nearB l r).take j).map duN)), some (.dat 1 (B.map di))]⟩) (fun k => k ≤ B.length) (fun k => B.length - k) 0 ?_ ?_ ?_
      · simp -implicitDefEqProofs (maxSteps := 1000000) (disch := (first | omega | (simp only [go_sem] <;> omega) | fail)) only [go_sem, ints, bools, mat, List.take_zero, wsN_nil]
      · exact Nat.zero_le _
      · intro k hk J2 hJ2
        by_cases hkl : k < B.length
        · have hub := inC_get hB k hkl
          have e1 := wsN_one (l := l) hub
          have e2 := take_one B hkl
          have e3 := or_b l (B.take k) [B.getD k 0] h27
          rw [← e2] at e3
          repeat' (first | simp -implicitDefEqProofs (maxSteps := 1000000) (disch := (first | omega | (simp only [go_sem] <;> omega) | fail)) only [go_sem, ints, bools, mat, binA_shl_u, e1, e3] | ((first | refine goIf_b (fun h => ?_) (fun h => ?_) | refine goG_b (fun h => ?_) (fun h => ?_) | refine goTG_b (fun h => ?_) (fun h => ?_) | refine goOG_b (fun h => ?_) (fun h => ?_)) <;> ((try simp only [Bool.not_eq_true', Bool.not_eq_false'] at h); (try simp only [h]); (try simp only [decide_eq_true_eq, decide_eq_false_iff_not, bne_iff_ne, bne_eq_false_iff_eq, beq_iff_eq, beq_eq_false_iff_ne, ne_eq, Int.not_lt, Int.not_le, Bool.and_eq_true, Bool.and_eq_false_iff, Bool.or_eq_true, Bool.or_eq_false_iff] at h)) <;> (try (exfalso; omega))))
          refine hJ2 (k + 1) (by omega) (by omega) _ ?_
          simp -implicitDefEqProofs (maxSteps := 1000000) (disch := (first | omega | (simp only [go_sem] <;> omega) | fail)) only [go_sem, ints, bools, mat]
          rfl
        · have hke : k = B.length := by omega
          subst hke
          repeat' (first | simp -implicitDefEqProofs (maxSteps := 1000000) (disch := (first | omega | (simp only [go_sem] <;> omega) | fail)) only [go_sem, ints, bools, mat, List.take_length] | ((first | refine goIf_b (fun h => ?_) (fun h => ?_) | refine goG_b (fun h => ?_) (fun h => ?_) | refine goTG_b (fun h => ?_) (fun h => ?_) | refine goOG_b (fun h => ?_) (fun h => ?_)) <;> ((try simp only [Bool.not_eq_true', Bool.not_eq_false'] at h); (try simp only [h]); (try simp only [decide_eq_true_eq, decide_eq_false_iff_not, bne_iff_ne, bne_eq_false_iff_eq, beq_iff_eq, beq_eq_false_iff_ne, ne_eq, Int.not_lt, Int.not_le, Bool.and_eq_true, Bool.and_eq_false_iff, Bool.or_eq_true, Bool.or_eq_false_iff] at h)) <;> (try (exfalso; omega))))
          refine hJ (j + 1) (by omega) (by omega) _ ?_
          simp -implicitDefEqProofs (maxSteps := 1000000) (disch := (first | omega | (simp only [go_sem] <;> omega) | fail)) only [go_sem, ints, bools, mat, e]
          rfl
    · have hje : j = (prodM l).toNat := by omega
      subst hje
      have el : (nearB l r).take (prodM l).toNat = nearB l r := by rw [← nearB_len l r, List.take_length]
      repeat' (first | simp -implicitDefEqProofs (maxSteps := 1000000) (disch := (first | omega | (simp only [go_sem] <;> omega) | fail)) only [go_sem, ints, bools, mat, el] | ((first | refine goIf_b (fun h => ?_) (fun h => ?_) | refine goG_b (fun h => ?_) (fun h => ?_) | refine goTG_b (fun h => ?_) (fun h => ?_) | refine goOG_b (fun h => ?_) (fun h => ?_)) <;> ((try simp only [Bool.not_eq_true', Bool.not_eq_false'] at h); (try simp only [h]); (try simp only [decide_eq_true_eq, decide_eq_false_iff_not, bne_iff_ne, bne_eq_false_iff_eq, beq_iff_eq, beq_eq_false_iff_ne, ne_eq, Int.not_lt, Int.not_le, Bool.and_eq_true, Bool.and_eq_false_iff, Bool.or_eq_true, Bool.or_eq_false_iff] at h)) <;> (try (exfalso; omega))))
def srB : Option (List Int) → Bool
  | none => false
  | some _ => true
def srL (c : List Int) : Option (List Int) → List Int
  | none => c
  | some L => c ++ L
/-- The error of a space with few words and a number. -/
def scE (l : List Int) (n lo hi : Int) : Int := if isSpaceM l = true then (if lo ≤ n ∧ n ≤ hi then (if prodM l ≤ 27 then 0 else 3) else 2) else 1
theorem scE_ok {l : List Int} {n lo hi : Int} (h : scE l n lo hi = 0) : isSpaceM l = true ∧ (lo ≤ n ∧ n ≤ hi) ∧ prodM l ≤ 27 := by
  unfold scE at h
  split at h
  · rename_i h1
    split at h
    · rename_i h2
      split at h
      · rename_i h3; exact ⟨h1, h2, h3⟩
      · omega
    · omega
  · omega
theorem d_impl_soughtCode (l : List Int) (hl : l.length < 1048577) (n lo hi : Int) : Den PA f_impl_soughtCode [.d (.agg [ints l]), .d (di n), .d (di lo), .d (di hi)] [.any, .any, .any, .any] (.d (di (scE l n lo hi))) := by
  refine den_go [] l_impl_soughtCode ?_
  repeat' (first | simp -implicitDefEqProofs (maxSteps := 1000000) (disch := (first | omega | (simp only [go_sem] <;> omega) | fail)) only [go_sem, ints, bools, mat, c_impl_soughtCode] | ((first | refine goIf_b (fun h => ?_) (fun h => ?_) | refine goG_b (fun h => ?_) (fun h => ?_) | refine goTG_b (fun h => ?_) (fun h => ?_) | refine goOG_b (fun h => ?_) (fun h => ?_)) <;> ((try simp only [Bool.not_eq_true', Bool.not_eq_false'] at h); (try simp only [h]); (try simp only [decide_eq_true_eq, decide_eq_false_iff_not, bne_iff_ne, bne_eq_false_iff_eq, beq_iff_eq, beq_eq_false_iff_ne, ne_eq, Int.not_lt, Int.not_le, Bool.and_eq_true, Bool.and_eq_false_iff, Bool.or_eq_true, Bool.or_eq_false_iff] at h)) <;> (try (exfalso; omega))))
  first | refine goC_call [.r] (d_impl_IsSpace l hl) ?_ | refine goOC_call [.r] (d_impl_IsSpace l hl) ?_
  by_cases h1 : isSpaceM l = true
  · rw [h1]
    by_cases h2 : lo ≤ n ∧ n ≤ hi
    · obtain ⟨h2, h3⟩ := h2
      repeat' (first | simp -implicitDefEqProofs (maxSteps := 1000000) (disch := (first | omega | (simp only [go_sem] <;> omega) | fail)) only [go_sem, ints, bools, mat] | ((first | refine goIf_b (fun h => ?_) (fun h => ?_) | refine goG_b (fun h => ?_) (fun h => ?_) | refine goTG_b (fun h => ?_) (fun h => ?_) | refine goOG_b (fun h => ?_) (fun h => ?_)) <;> ((try simp only [Bool.not_eq_true', Bool.not_eq_false'] at h); (try simp only [h]); (try simp only [decide_eq_true_eq, decide_eq_false_iff_not, bne_iff_ne, bne_eq_false_iff_eq, beq_iff_eq, beq_eq_false_iff_ne, ne_eq, Int.not_lt, Int.not_le, Bool.and_eq_true, Bool.and_eq_false_iff, Bool.or_eq_true, Bool.or_eq_false_iff] at h)) <;> (try (exfalso; omega))))
      first | refine goC_call [.r] (d_impl_count l h1) ?_ | refine goOC_call [.r] (d_impl_count l h1) ?_
      by_cases h4 : prodM l ≤ 27
      · rw [scE, if_pos h1, if_pos ⟨h2, h3⟩, if_pos h4]
        repeat' (first | simp -implicitDefEqProofs (maxSteps := 1000000) (disch := (first | omega | (simp only [go_sem] <;> omega) | fail)) only [go_sem, ints, bools, mat] | ((first | refine goIf_b (fun h => ?_) (fun h => ?_) | refine goG_b (fun h => ?_) (fun h => ?_) | refine goTG_b (fun h => ?_) (fun h => ?_) | refine goOG_b (fun h => ?_) (fun h => ?_)) <;> ((try simp only [Bool.not_eq_true', Bool.not_eq_false'] at h); (try simp only [h]); (try simp only [decide_eq_true_eq, decide_eq_false_iff_not, bne_iff_ne, bne_eq_false_iff_eq, beq_iff_eq, beq_eq_false_iff_ne, ne_eq, Int.not_lt, Int.not_le, Bool.and_eq_true, Bool.and_eq_false_iff, Bool.or_eq_true, Bool.or_eq_false_iff] at h)) <;> (try (exfalso; omega))))
      · rw [scE, if_pos h1, if_pos ⟨h2, h3⟩, if_neg h4]
        repeat' (first | simp -implicitDefEqProofs (maxSteps := 1000000) (disch := (first | omega | (simp only [go_sem] <;> omega) | fail)) only [go_sem, ints, bools, mat] | ((first | refine goIf_b (fun h => ?_) (fun h => ?_) | refine goG_b (fun h => ?_) (fun h => ?_) | refine goTG_b (fun h => ?_) (fun h => ?_) | refine goOG_b (fun h => ?_) (fun h => ?_)) <;> ((try simp only [Bool.not_eq_true', Bool.not_eq_false'] at h); (try simp only [h]); (try simp only [decide_eq_true_eq, decide_eq_false_iff_not, bne_iff_ne, bne_eq_false_iff_eq, beq_iff_eq, beq_eq_false_iff_ne, ne_eq, Int.not_lt, Int.not_le, Bool.and_eq_true, Bool.and_eq_false_iff, Bool.or_eq_true, Bool.or_eq_false_iff] at h)) <;> (try (exfalso; omega))))
    · rw [scE, if_pos h1, if_neg h2]
      repeat' (first | simp -implicitDefEqProofs (maxSteps := 1000000) (disch := (first | omega | (simp only [go_sem] <;> omega) | fail)) only [go_sem, ints, bools, mat] | ((first | refine goIf_b (fun h => ?_) (fun h => ?_) | refine goG_b (fun h => ?_) (fun h => ?_) | refine goTG_b (fun h => ?_) (fun h => ?_) | refine goOG_b (fun h => ?_) (fun h => ?_)) <;> ((try simp only [Bool.not_eq_true', Bool.not_eq_false'] at h); (try simp only [h]); (try simp only [decide_eq_true_eq, decide_eq_false_iff_not, bne_iff_ne, bne_eq_false_iff_eq, beq_iff_eq, beq_eq_false_iff_ne, ne_eq, Int.not_lt, Int.not_le, Bool.and_eq_true, Bool.and_eq_false_iff, Bool.or_eq_true, Bool.or_eq_false_iff] at h)) <;> (try (exfalso; omega))))
  · have h2 : isSpaceM l = false := by simpa using h1
    rw [scE, if_neg h1, h2]
    repeat' (first | simp -implicitDefEqProofs (maxSteps := 1000000) (disch := (first | omega | (simp only [go_sem] <;> omega) | fail)) only [go_sem, ints, bools, mat] | ((first | refine goIf_b (fun h => ?_) (fun h => ?_) | refine goG_b (fun h => ?_) (fun h => ?_) | refine goTG_b (fun h => ?_) (fun h => ?_) | refine goOG_b (fun h => ?_) (fun h => ?_)) <;> ((try simp only [Bool.not_eq_true', Bool.not_eq_false'] at h); (try simp only [h]); (try simp only [decide_eq_true_eq, decide_eq_false_iff_not, bne_iff_ne, bne_eq_false_iff_eq, beq_iff_eq, beq_eq_false_iff_ne, ne_eq, Int.not_lt, Int.not_le, Bool.and_eq_true, Bool.and_eq_false_iff, Bool.or_eq_true, Bool.or_eq_false_iff] at h)) <;> (try (exfalso; omega))))
theorem d_spec_l04Sought (l : List Int) (hl : l.length < 1048577) (n lo hi : Int) : Den PA f_spec_l04Sought [.d (.agg [ints l]), .d (di n), .d (di lo), .d (di hi)] [.any, .any, .any, .any] (.d (di (scE l n lo hi))) := by
  refine den_go [] l_spec_l04Sought ?_
  repeat' (first | simp -implicitDefEqProofs (maxSteps := 1000000) (disch := (first | omega | (simp only [go_sem] <;> omega) | fail)) only [go_sem, ints, bools, mat, c_spec_l04Sought] | ((first | refine goIf_b (fun h => ?_) (fun h => ?_) | refine goG_b (fun h => ?_) (fun h => ?_) | refine goTG_b (fun h => ?_) (fun h => ?_) | refine goOG_b (fun h => ?_) (fun h => ?_)) <;> ((try simp only [Bool.not_eq_true', Bool.not_eq_false'] at h); (try simp only [h]); (try simp only [decide_eq_true_eq, decide_eq_false_iff_not, bne_iff_ne, bne_eq_false_iff_eq, beq_iff_eq, beq_eq_false_iff_ne, ne_eq, Int.not_lt, Int.not_le, Bool.and_eq_true, Bool.and_eq_false_iff, Bool.or_eq_true, Bool.or_eq_false_iff] at h)) <;> (try (exfalso; omega))))
  have hc := d_spec_l04Code l hl n lo hi
  by_cases h1 : isSpaceM l = true
  · by_cases h2 : lo ≤ n ∧ n ≤ hi
    · rw [if_pos h1, if_pos h2] at hc
      first | refine goC_call [.r, .r, .r, .r] (hc) ?_ | refine goOC_call [.r, .r, .r, .r] (hc) ?_
      have hn := isSpaceM_n h1
      repeat' (first | simp -implicitDefEqProofs (maxSteps := 1000000) (disch := (first | omega | (simp only [go_sem] <;> omega) | fail)) only [go_sem, ints, bools, mat] | ((first | refine goIf_b (fun h => ?_) (fun h => ?_) | refine goG_b (fun h => ?_) (fun h => ?_) | refine goTG_b (fun h => ?_) (fun h => ?_) | refine goOG_b (fun h => ?_) (fun h => ?_)) <;> ((try simp only [Bool.not_eq_true', Bool.not_eq_false'] at h); (try simp only [h]); (try simp only [decide_eq_true_eq, decide_eq_false_iff_not, bne_iff_ne, bne_eq_false_iff_eq, beq_iff_eq, beq_eq_false_iff_ne, ne_eq, Int.not_lt, Int.not_le, Bool.and_eq_true, Bool.and_eq_false_iff, Bool.or_eq_true, Bool.or_eq_false_iff] at h)) <;> (try (exfalso; omega))))
      first | refine goC_call [.r] (d_spec_l01N l (by omega) (isSpaceM_q h1)) ?_ | refine goOC_call [.r] (d_spec_l01N l (by omega) (isSpaceM_q h1)) ?_
      by_cases h4 : prodM l ≤ 27
      · rw [scE, if_pos h1, if_pos h2, if_pos h4]
        repeat' (first | simp -implicitDefEqProofs (maxSteps := 1000000) (disch := (first | omega | (simp only [go_sem] <;> omega) | fail)) only [go_sem, ints, bools, mat] | ((first | refine goIf_b (fun h => ?_) (fun h => ?_) | refine goG_b (fun h => ?_) (fun h => ?_) | refine goTG_b (fun h => ?_) (fun h => ?_) | refine goOG_b (fun h => ?_) (fun h => ?_)) <;> ((try simp only [Bool.not_eq_true', Bool.not_eq_false'] at h); (try simp only [h]); (try simp only [decide_eq_true_eq, decide_eq_false_iff_not, bne_iff_ne, bne_eq_false_iff_eq, beq_iff_eq, beq_eq_false_iff_ne, ne_eq, Int.not_lt, Int.not_le, Bool.and_eq_true, Bool.and_eq_false_iff, Bool.or_eq_true, Bool.or_eq_false_iff] at h)) <;> (try (exfalso; omega))))
      · rw [scE, if_pos h1, if_pos h2, if_neg h4]
        repeat' (first | simp -implicitDefEqProofs (maxSteps := 1000000) (disch := (first | omega | (simp only [go_sem] <;> omega) | fail)) only [go_sem, ints, bools, mat] | ((first | refine goIf_b (fun h => ?_) (fun h => ?_) | refine goG_b (fun h => ?_) (fun h => ?_) | refine goTG_b (fun h => ?_) (fun h => ?_) | refine goOG_b (fun h => ?_) (fun h => ?_)) <;> ((try simp only [Bool.not_eq_true', Bool.not_eq_false'] at h); (try simp only [h]); (try simp only [decide_eq_true_eq, decide_eq_false_iff_not, bne_iff_ne, bne_eq_false_iff_eq, beq_iff_eq, beq_eq_false_iff_ne, ne_eq, Int.not_lt, Int.not_le, Bool.and_eq_true, Bool.and_eq_false_iff, Bool.or_eq_true, Bool.or_eq_false_iff] at h)) <;> (try (exfalso; omega))))
    · rw [if_pos h1, if_neg h2] at hc
      first | refine goC_call [.r, .r, .r, .r] (hc) ?_ | refine goOC_call [.r, .r, .r, .r] (hc) ?_
      rw [scE, if_pos h1, if_neg h2]
      repeat' (first | simp -implicitDefEqProofs (maxSteps := 1000000) (disch := (first | omega | (simp only [go_sem] <;> omega) | fail)) only [go_sem, ints, bools, mat] | ((first | refine goIf_b (fun h => ?_) (fun h => ?_) | refine goG_b (fun h => ?_) (fun h => ?_) | refine goTG_b (fun h => ?_) (fun h => ?_) | refine goOG_b (fun h => ?_) (fun h => ?_)) <;> ((try simp only [Bool.not_eq_true', Bool.not_eq_false'] at h); (try simp only [h]); (try simp only [decide_eq_true_eq, decide_eq_false_iff_not, bne_iff_ne, bne_eq_false_iff_eq, beq_iff_eq, beq_eq_false_iff_ne, ne_eq, Int.not_lt, Int.not_le, Bool.and_eq_true, Bool.and_eq_false_iff, Bool.or_eq_true, Bool.or_eq_false_iff] at h)) <;> (try (exfalso; omega))))
  · rw [if_neg h1] at hc
    first | refine goC_call [.r, .r, .r, .r] (hc) ?_ | refine goOC_call [.r, .r, .r, .r] (hc) ?_
    rw [scE, if_neg h1]
    repeat' (first | simp -implicitDefEqProofs (maxSteps := 1000000) (disch := (first | omega | (simp only [go_sem] <;> omega) | fail)) only [go_sem, ints, bools, mat] | ((first | refine goIf_b (fun h => ?_) (fun h => ?_) | refine goG_b (fun h => ?_) (fun h => ?_) | refine goTG_b (fun h => ?_) (fun h => ?_) | refine goOG_b (fun h => ?_) (fun h => ?_)) <;> ((try simp only [Bool.not_eq_true', Bool.not_eq_false'] at h); (try simp only [h]); (try simp only [decide_eq_true_eq, decide_eq_false_iff_not, bne_iff_ne, bne_eq_false_iff_eq, beq_iff_eq, beq_eq_false_iff_ne, ne_eq, Int.not_lt, Int.not_le, Bool.and_eq_true, Bool.and_eq_false_iff, Bool.or_eq_true, Bool.or_eq_false_iff] at h)) <;> (try (exfalso; omega))))
/-- How often each word is covered. -/
def tmX (l X : List Int) : List Int := (allW l).map fun u => (X.count u : Int)
@[go_sem] theorem tmX_len (l X : List Int) : (tmX l X).length = (prodM l).toNat := by simp [tmX, allW_len]
def tzN : Nat → Nat → Nat
  | 0, _ => 0
  | n + 1, x => if x % 2 = 1 then 0 else 1 + tzN n (x / 2)
theorem low_bit : ∀ (w x : Nat), 0 < x → x < 2 ^ w → x &&& (2 ^ w - x) = 2 ^ tzN w x ∧ tzN w x < w
  | 0, x, h0, h1 => by simp at h1; omega
  | w + 1, x, h0, h1 => by
    have a := and_cut 1 x (2 ^ (w + 1) - x)
    rw [Nat.pow_succ] at h1 a ⊢
    rw [Nat.pow_one] at a
    rw [tzN]
    by_cases ho : x % 2 = 1
    · rw [if_pos ho]
      have e1 : (2 ^ w * 2 - x) % 2 = 1 := by omega
      have e2 : (2 ^ w * 2 - x) / 2 = 2 ^ w - (x / 2 + 1) := by omega
      have e3 : x / 2 &&& (2 ^ w - (x / 2 + 1)) = 0 := by
        apply Nat.eq_of_testBit_eq
        intro i
        rw [Nat.testBit_and, Nat.testBit_two_pow_sub_succ (by omega)]
        cases (x / 2).testBit i <;> simp
      rw [ho, e1, e2, e3] at a
      refine ⟨?_, by omega⟩
      rw [a]; decide
    · rw [if_neg ho]
      have e0 : x % 2 = 0 := by omega
      have e2 : (2 ^ w * 2 - x) / 2 = 2 ^ w - x / 2 := by omega
      obtain ⟨i1, i2⟩ := low_bit w (x / 2) (by omega) (by omega)
      rw [e0, e2, i1, Nat.zero_and] at a
      refine ⟨?_, by omega⟩
      rw [a, Nat.zero_add, Nat.add_comm 1, Nat.pow_succ, Nat.mul_comm]
def tzT : List Int := [0,1,56,2,57,49,28,3,61,58,42,50,38,29,17,4,62,47,59,36,45,43,51,22,53,39,33,30,24,18,12,5,63,55,48,27,60,41,37,16,46,35,44,21,52,32,23,11,54,26,40,15,34,20,31,10,25,14,19,9,13,8,7,6]
theorem tzT_all : ∀ k : Nat, k < 64 → 2 ^ k * 285870213051353865 % 18446744073709551616 / 288230376151711744 < 64 ∧ tzT.getD (2 ^ k * 285870213051353865 % 18446744073709551616 / 288230376151711744) 0 = (k : Int) := by decide
theorem nd58 (x : Nat) : (x : Int) / 288230376151711744 = ((x / 288230376151711744 : Nat) : Int) := by omega
abbrev tabR : R := .is (.box (tzT.map dy)) (.pointer (some ⟨g_math_bits_deBruijn64tab, 0, none⟩))
theorem d_TrailingZeros64 (x : Nat) (h0 : 0 < x) (hx : x < 18446744073709551616) : DenG PA f_math_bits_TrailingZeros64 1 [.d (.v (.int .u64 x)), tabR] [.any, .any] (.d (di (tzN 64 x))) := by
  obtain ⟨h1, h2⟩ := low_bit 64 x h0 hx
  generalize tzN 64 x = k at *
  obtain ⟨h3, h4⟩ := tzT_all k h2
  have hand : x &&& (18446744073709551616 - x) = 2 ^ k := h1
  have hneg : IntKind.wrap .u64 (0 - (x : Int)) = ((18446744073709551616 - x : Nat) : Int) := by
    rw [show (0 - (x : Int)) = ((18446744073709551616 - x : Nat) : Int) + (-1) * 18446744073709551616 by omega]
    simp only [IntKind.wrap, IntKind.signed, IntKind.bits, Bool.false_and, Bool.false_eq_true, if_false]
    omega
  have hmul : IntKind.wrap .u64 (((2 ^ k : Nat) : Int) * 285870213051353865) = ((2 ^ k * 285870213051353865 % 18446744073709551616 : Nat) : Int) := by
    generalize 2 ^ k = p
    simp only [IntKind.wrap, IntKind.signed, IntKind.bits, Bool.false_and, Bool.false_eq_true, if_false]
    omega
  have hpw : 2 ^ k < 18446744073709551616 := Nat.pow_lt_pow_right (by omega) h2
  have hget : (tzT.map dy)[2 ^ k * 285870213051353865 % 18446744073709551616 / 288230376151711744]? = some (dy k) := by
    have hl : tzT.length = 64 := by decide
    rw [List.getElem?_map, List.getElem?_eq_getElem (by omega)]
    rw [List.getD_eq_getElem?_getD, List.getElem?_eq_getElem (by omega), Option.getD_some] at h4
    rw [h4]; rfl
  have hm : 2 ^ k * 285870213051353865 % 18446744073709551616 < 18446744073709551616 := Nat.mod_lt _ (by omega)
  clear h1 h4
  generalize 2 ^ k * 285870213051353865 % 18446744073709551616 = m at *
  generalize 2 ^ k = p at *
  refine den_goL [] [(g_math_bits_deBruijn64tab, 1)] l_math_bits_TrailingZeros64 (by simp) (fun q hq => by simp at hq; subst hq; exact ⟨_, rfl⟩) ?_
  repeat' (first | simp -implicitDefEqProofs (maxSteps := 1000000) (disch := (first | omega | (simp only [go_sem] <;> omega) | fail)) only [go_sem, ints, bools, mat, c_math_bits_TrailingZeros64, tabR, g_math_bits_deBruijn64tab, hneg, binA_and_u, hand, hmul, binA_shr_u, nd58, Int.reducePow, Int.reduceToNat, Int.toNat_natCast, hget] | ((first | refine goIf_b (fun h => ?_) (fun h => ?_) | refine goG_b (fun h => ?_) (fun h => ?_) | refine goTG_b (fun h => ?_) (fun h => ?_) | refine goOG_b (fun h => ?_) (fun h => ?_)) <;> ((try simp only [Bool.not_eq_true', Bool.not_eq_false'] at h); (try simp only [h]); (try simp only [decide_eq_true_eq, decide_eq_false_iff_not, bne_iff_ne, bne_eq_false_iff_eq, beq_iff_eq, beq_eq_false_iff_ne, ne_eq, Int.not_lt, Int.not_le, Bool.and_eq_true, Bool.and_eq_false_iff, Bool.or_eq_true, Bool.or_eq_false_iff] at h)) <;> (try (exfalso; omega))))
/-- The words of a list that are at least d away. -/
abbrev awy (l : List Int) (d w : Int) (X : List Int) : List Int := X.filter fun u => decide (d ≤ distM l w u)
theorem awy_len (l : List Int) (d w : Int) (X : List Int) : (awy l d w X).length ≤ X.length := List.length_filter_le _ _
def naC (w : Int) (a b : Option (List Int)) : Option (List Int) :=
  match a with
  | some L => some (w :: L)
  | none => b
def naF (l : List Int) (d : Int) : Nat → Nat → List Int → Option (List Int)
  | _, 0, _ => some []
  | 0, _ + 1, _ => none
  | _ + 1, _ + 1, [] => none
  | n + 1, k + 1, w :: X => naC w (naF l d n k (awy l d w X)) (naF l d n (k + 1) X)
theorem naF_fuel (l : List Int) (d : Int) : ∀ (n m k : Nat) (X : List Int), X.length ≤ n → X.length ≤ m → naF l d n k X = naF l d m k X
  | n, m, 0, X, _, _ => by cases n <;> cases m <;> simp only [naF]
  | 0, 0, k + 1, X, _, _ => rfl
  | 0, m + 1, k + 1, X, h1, _ => by
    have : X = [] := List.eq_nil_of_length_eq_zero (by omega)
    subst this; simp only [naF]
  | n + 1, 0, k + 1, X, _, h2 => by
    have : X = [] := List.eq_nil_of_length_eq_zero (by omega)
    subst this; simp only [naF]
  | n + 1, m + 1, k + 1, [], _, _ => by simp only [naF]
  | n + 1, m + 1, k + 1, w :: X, h1, h2 => by
    have ha := awy_len l d w X
    simp only [List.length_cons] at h1 h2
    rw [naF, naF, naF_fuel l d n m k (awy l d w X) (by omega) (by omega), naF_fuel l d n m (k + 1) X (by omega) (by omega)]
/-- The first so many words of a list that are apart. -/
def naX (l : List Int) (d : Int) (k : Nat) (X : List Int) : Option (List Int) := naF l d X.length k X
theorem naX_zero (l : List Int) (d : Int) (X : List Int) : naX l d 0 X = some [] := by unfold naX; cases X.length <;> simp only [naF]
theorem naX_nil (l : List Int) (d : Int) (k : Nat) : naX l d (k + 1) [] = none := rfl
theorem naX_cons (l : List Int) (d : Int) (k : Nat) (w : Int) (X : List Int) : naX l d (k + 1) (w :: X) = naC w (naX l d k (awy l d w X)) (naX l d (k + 1) X) := by
  unfold naX
  rw [List.length_cons, naF, naF_fuel l d X.length (awy l d w X).length k _ (awy_len l d w X) (Nat.le_refl _)]
/-- How many words can be apart. -/
def mxF (l : List Int) (d : Int) : Nat → List Int → Nat
  | 0, _ => 0
  | _ + 1, [] => 0
  | n + 1, w :: X => max (1 + mxF l d n (awy l d w X)) (mxF l d n X)
theorem mxF_fuel (l : List Int) (d : Int) : ∀ (n m : Nat) (X : List Int), X.length ≤ n → X.length ≤ m → mxF l d n X = mxF l d m X
  | 0, 0, X, _, _ => rfl
  | 0, m + 1, X, h1, _ => by
    have : X = [] := List.eq_nil_of_length_eq_zero (by omega)
    subst this; simp only [mxF]
  | n + 1, 0, X, _, h2 => by
    have : X = [] := List.eq_nil_of_length_eq_zero (by omega)
    subst this; simp only [mxF]
  | n + 1, m + 1, [], _, _ => by simp only [mxF]
  | n + 1, m + 1, w :: X, h1, h2 => by
    have ha := awy_len l d w X
    simp only [List.length_cons] at h1 h2
    rw [mxF, mxF, mxF_fuel l d n m (awy l d w X) (by omega) (by omega), mxF_fuel l d n m X (by omega) (by omega)]
def mxX (l : List Int) (d : Int) (X : List Int) : Nat := mxF l d X.length X
theorem mxX_nil (l : List Int) (d : Int) : mxX l d [] = 0 := rfl
theorem mxX_cons (l : List Int) (d : Int) (w : Int) (X : List Int) : mxX l d (w :: X) = max (1 + mxX l d (awy l d w X)) (mxX l d X) := by
  unfold mxX
  rw [List.length_cons, mxF, mxF_fuel l d X.length (awy l d w X).length _ (awy_len l d w X) (Nat.le_refl _)]
theorem mxX_le (l : List Int) (d : Int) : ∀ (n : Nat) (X : List Int), X.length ≤ n → mxX l d X ≤ X.length
  | 0, X, h => by
    have : X = [] := List.eq_nil_of_length_eq_zero (by omega)
    subst this; exact Nat.le_refl _
  | n + 1, [], _ => Nat.le_refl _
  | n + 1, w :: X, h => by
    have ha := awy_len l d w X
    simp only [List.length_cons] at h ⊢
    have h1 := mxX_le l d n (awy l d w X) (by omega)
    have h2 := mxX_le l d n X (by omega)
    rw [mxX_cons]; omega
theorem naX_ne (l : List Int) (d : Int) : ∀ (n k : Nat) (X : List Int), X.length ≤ n → (naX l d k X ≠ none ↔ k ≤ mxX l d X)
  | n, 0, X, _ => by rw [naX_zero]; simp
  | 0, k + 1, X, h => by
    have : X = [] := List.eq_nil_of_length_eq_zero (by omega)
    subst this; rw [naX_nil, mxX_nil]; simp
  | n + 1, k + 1, [], h => by rw [naX_nil, mxX_nil]; simp
  | n + 1, k + 1, w :: X, h => by
    have ha := awy_len l d w X
    simp only [List.length_cons] at h
    have h1 := naX_ne l d n k (awy l d w X) (by omega)
    have h2 := naX_ne l d n (k + 1) X (by omega)
    rw [naX_cons, mxX_cons]
    cases hx : naX l d k (awy l d w X) with
    | some L =>
      rw [hx] at h1
      have := h1.1 (by intro h; cases h)
      exact ⟨fun _ => by omega, fun _ h => by cases h⟩
    | none =>
      rw [hx] at h1
      have h3 : ¬ k ≤ mxX l d (awy l d w X) := fun h => (h1.2 h) rfl
      show naX l d (k + 1) X ≠ none ↔ _
      rw [h2]; omega
/-- One step of the reference's search: the words behind the first one, or it. -/
theorem naX_step (l : List Int) (d : Int) (w : Int) (X : List Int) : naX l d (mxX l d (w :: X)) (w :: X) =
    if mxX l d X ≤ 1 + mxX l d (awy l d w X) then (naX l d (mxX l d (awy l d w X)) (awy l d w X)).map (w :: ·) else naX l d (mxX l d X) X := by
  have h1 := naX_ne l d _ (mxX l d (awy l d w X)) (awy l d w X) (Nat.le_refl _)
  rw [mxX_cons]
  split
  · rename_i h
    rw [show max (1 + mxX l d (awy l d w X)) (mxX l d X) = mxX l d (awy l d w X) + 1 by omega, naX_cons]
    cases hx : naX l d (mxX l d (awy l d w X)) (awy l d w X) with
    | some L => rfl
    | none => exact absurd hx (h1.2 (Nat.le_refl _))
  · rename_i h
    obtain ⟨m, hm⟩ : ∃ m, mxX l d X = m + 1 := ⟨mxX l d X - 1, by omega⟩
    rw [show max (1 + mxX l d (awy l d w X)) (mxX l d X) = m + 1 by omega, naX_cons]
    have h2 : naX l d m (awy l d w X) = none := by
      cases hx : naX l d m (awy l d w X) with
      | none => rfl
      | some L =>
        have := (naX_ne l d _ m (awy l d w X) (Nat.le_refl _)).1 (by rw [hx]; intro h; cases h)
        omega
    rw [h2, hm]; rfl
/-- The first list of the greatest number of words. -/
def bsX (l : List Int) (d : Int) (X : List Int) : List Int := (naX l d (mxX l d X) X).getD []
theorem naX_bs (l : List Int) (d : Int) (X : List Int) : naX l d (mxX l d X) X = some (bsX l d X) := by
  have h1 := naX_ne l d _ (mxX l d X) X (Nat.le_refl _)
  unfold bsX
  cases hx : naX l d (mxX l d X) X with
  | some L => rfl
  | none => exact absurd hx (h1.2 (Nat.le_refl _))
theorem bsX_step (l : List Int) (d : Int) (w : Int) (X : List Int) : bsX l d (w :: X) = if mxX l d X ≤ 1 + mxX l d (awy l d w X) then w :: bsX l d (awy l d w X) else bsX l d X := by
  rw [bsX, naX_step]
  split
  · rw [naX_bs]; rfl
  · rfl
theorem naX_sound (l : List Int) (d : Int) : ∀ (n k : Nat) (X L : List Int), X.length ≤ n → naX l d k X = some L → L.length = k ∧ L.Sublist X ∧ L.Pairwise fun a b => d ≤ distM l a b
  | n, 0, X, L, _, h => by
    rw [naX_zero] at h
    injection h with h
    subst h
    exact ⟨rfl, List.nil_sublist _, List.Pairwise.nil⟩
  | 0, k + 1, X, L, hn, h => by
    have : X = [] := List.eq_nil_of_length_eq_zero (by omega)
    subst this; rw [naX_nil] at h; cases h
  | n + 1, k + 1, [], L, hn, h => by rw [naX_nil] at h; cases h
  | n + 1, k + 1, w :: X, L, hn, h => by
    have ha := awy_len l d w X
    simp only [List.length_cons] at hn
    rw [naX_cons] at h
    cases hx : naX l d k (awy l d w X) with
    | some L' =>
      rw [hx] at h
      have h : some (w :: L') = some L := h
      injection h with h
      subst h
      obtain ⟨h1, h2, h3⟩ := naX_sound l d n k (awy l d w X) L' (by omega) hx
      refine ⟨by rw [List.length_cons, h1], (h2.trans List.filter_sublist).cons_cons w, List.pairwise_cons.2 ⟨fun u hu => ?_, h3⟩⟩
      have := h2.subset hu
      rw [List.mem_filter] at this
      simpa using this.2
    | none =>
      rw [hx] at h
      have h : naX l d (k + 1) X = some L := h
      obtain ⟨h1, h2, h3⟩ := naX_sound l d n (k + 1) X L (by omega) h
      exact ⟨h1, h2.cons w, h3⟩
theorem bsX_len (l : List Int) (d : Int) (X : List Int) : (bsX l d X).length = mxX l d X := (naX_sound l d _ _ X _ (Nat.le_refl _) (naX_bs l d X)).1
def mskF {α : Type} : List Bool → List α → List α
  | true :: m, x :: l => x :: mskF m l
  | false :: m, _ :: l => mskF m l
  | _, _ => []
theorem msk_of {α : Type} {a l : List α} (h : a.Sublist l) : ∃ m : List Bool, m.length = l.length ∧ mskF m l = a := by
  induction h with
  | slnil => exact ⟨[], rfl, rfl⟩
  | cons x _ ih => obtain ⟨m, h1, h2⟩ := ih; exact ⟨false :: m, by simp [h1], h2⟩
  | cons_cons x _ ih => obtain ⟨m, h1, h2⟩ := ih; exact ⟨true :: m, by simp [h1], by rw [mskF, h2]⟩
theorem msk_far : ∀ (m : List Bool) (a b : List Int), a.length = m.length → b.length = m.length → mskF m a = mskF m b → farM a b + (mskF m a).length ≤ m.length
  | [], [], [], _, _, _ => by simp [farM, mskF]
  | true :: m, x :: a, y :: b, h1, h2, h => by
    rw [mskF, mskF] at h
    injection h with h3 h4
    have := msk_far m a b (by simpa using h1) (by simpa using h2) h4
    rw [farM, if_pos h3, mskF, List.length_cons, List.length_cons]; omega
  | false :: m, x :: a, y :: b, h1, h2, h => by
    rw [mskF, mskF] at h
    have := msk_far m a b (by simpa using h1) (by simpa using h2) h
    rw [farM, mskF, List.length_cons]
    split <;> omega
theorem msk_vec : ∀ (m : List Bool) (l a : List Int), m.length = l.length → a.length = l.length → (∀ i, i < l.length → 0 ≤ a.getD i 0 ∧ a.getD i 0 < l.getD i 0) → mskF m a ∈ vecs (mskF m l)
  | [], [], [], _, _, _ => by simp [mskF, vecs]
  | true :: m, q :: l, x :: a, h1, h2, h => by
    have h0 := h 0 (by simp)
    simp at h0
    rw [mskF, mskF, vecs, List.mem_flatMap]
    refine ⟨x.toNat, List.mem_range.2 (by omega), List.mem_map.2 ⟨mskF m a, msk_vec m l a (by simpa using h1) (by simpa using h2) (fun i hi => by simpa using h (i + 1) (by simpa using hi)), ?_⟩⟩
    rw [Int.toNat_of_nonneg h0.1]
  | false :: m, q :: l, x :: a, h1, h2, h => by
    rw [mskF, mskF]
    exact msk_vec m l a (by simpa using h1) (by simpa using h2) fun i hi => by simpa using h (i + 1) (by simpa using hi)
theorem vecs_len : ∀ {l : List Int}, szs l → ((vecs l).length : Int) = prodM l
  | l, h => by rw [← vecs_ok h, List.length_map, allW_len]; have := prodM_pos h; omega
theorem sub_lenG {α : Type} [DecidableEq α] : ∀ {Q c : List α}, Q.Nodup → (∀ y, y ∈ Q → y ∈ c) → Q.length ≤ c.length
  | [], c, _, _ => Nat.zero_le _
  | x :: Q, c, hn, h => by
    obtain ⟨h1, h2⟩ := List.nodup_cons.1 hn
    have hx := h x List.mem_cons_self
    have := sub_lenG (c := c.erase x) h2 fun y hy => (List.mem_erase_of_ne (fun e => h1 (by rw [← e]; exact hy))).2 (h y (List.mem_cons_of_mem _ hy))
    rw [List.length_erase_of_mem hx] at this
    have := List.length_pos_of_mem hx
    rw [List.length_cons]; omega
theorem msk_len {α : Type} : ∀ (m : List Bool) (a b : List α), a.length = m.length → b.length = m.length → (mskF m a).length = (mskF m b).length
  | [], [], [], _, _ => rfl
  | true :: m, x :: a, y :: b, h1, h2 => by
    rw [mskF, mskF, List.length_cons, List.length_cons, msk_len m a b (by simpa using h1) (by simpa using h2)]
  | false :: m, x :: a, y :: b, h1, h2 => by
    rw [mskF, mskF]; exact msk_len m a b (by simpa using h1) (by simpa using h2)
theorem perm_sub {α : Type} {a b : List α} (h : a.Perm b) : ∀ c : List α, c.Sublist a → ∃ c' : List α, c'.Perm c ∧ c'.Sublist b := by
  induction h with
  | nil => exact fun c hc => ⟨c, .refl _, hc⟩
  | cons x _ ih =>
    intro c hc
    cases hc with
    | cons _ h => obtain ⟨c', h1, h2⟩ := ih c h; exact ⟨c', h1, h2.cons x⟩
    | cons_cons _ h => obtain ⟨c', h1, h2⟩ := ih _ h; exact ⟨x :: c', h1.cons x, h2.cons_cons x⟩
  | swap x y l =>
    intro c hc
    cases hc with
    | cons _ h =>
      cases h with
      | cons _ h => exact ⟨c, .refl _, (h.cons y).cons x⟩
      | cons_cons _ h => exact ⟨_, .refl _, (h.cons y).cons_cons x⟩
    | cons_cons _ h =>
      cases h with
      | cons _ h => exact ⟨_, .refl _, (h.cons_cons y).cons x⟩
      | cons_cons _ h => exact ⟨_, List.Perm.swap _ _ _, (h.cons_cons y).cons_cons x⟩
  | trans _ _ h1 h2 =>
    intro c hc
    obtain ⟨c1, p1, p2⟩ := h1 c hc
    obtain ⟨c2, p3, p4⟩ := h2 c1 p2
    exact ⟨c2, p3.trans p1, p4⟩
theorem apart_le {l L : List Int} {k : Nat} (hs : isSpaceM l = true) (h : L.Pairwise fun a b => (k : Int) < distM l a b) : (L.length : Int) ≤ divM l k := by
  have hz := isSpaceM_szs hs
  obtain ⟨l', p1, p2⟩ := perm_sub (List.mergeSort_perm l (fun x y => decide (x ≤ y))) _ (List.take_sublist (l.length - k) (sortI l))
  obtain ⟨m, m1, m2⟩ := msk_of p2
  have hl' : l'.length = l.length - k := by rw [p1.length_eq, List.length_take, sortI_len]; omega
  have hz' : szs l' := szs_mem.2 fun x hx => szs_mem.1 hz x (p2.subset hx)
  have hlen : ∀ w, (mskF m (digM l w)).length = l'.length := fun w => by
    rw [← m2]; exact msk_len m _ _ (by rw [digM_len, m1]) (by rw [m1])
  have hnd : (L.map fun w => mskF m (digM l w)).Nodup := by
    rw [List.Nodup, List.pairwise_map]
    refine h.imp fun {a b} hab he => ?_
    have h1 := msk_far m (digM l a) (digM l b) (by rw [digM_len, m1]) (by rw [digM_len, m1]) he
    rw [hlen, hl', m1] at h1
    have h2 := (distM_bnd l a b).2
    have h3 : (k : Int) < farM (digM l a) (digM l b) := hab
    have h4 : farM (digM l a) (digM l b) ≤ l.length := h2
    omega
  have hsub := sub_lenG (c := vecs l') hnd fun y hy => by
    obtain ⟨w, _, rfl⟩ := List.mem_map.1 hy
    rw [← m2]
    exact msk_vec m l _ m1 (digM_len l w) fun i hi => ⟨(digM_bnd w hz i).1, by rw [digM_get l w i hi]; have := hz i hi; exact Int.emod_lt_of_pos _ (by omega)⟩
  rw [List.length_map] at hsub
  have hv := vecs_len hz'
  rw [divM, ← prodM_perm p1, ← hv]
  exact_mod_cast hsub
theorem tzN_bit : ∀ (n k x : Nat), k < n → x.testBit k = true → (∀ j, j < k → x.testBit j = false) → tzN n x = k
  | 0, k, x, h, _, _ => by omega
  | n + 1, 0, x, h, h1, _ => by
    rw [Nat.testBit_zero, decide_eq_true_eq] at h1
    rw [tzN, if_pos h1]
  | n + 1, k + 1, x, h, h1, h2 => by
    have h0 := h2 0 (by omega)
    rw [Nat.testBit_zero, decide_eq_false_iff_not] at h0
    rw [Nat.testBit_succ] at h1
    rw [tzN, if_neg h0, tzN_bit n k (x / 2) (by omega) h1 fun j hj => by rw [← Nat.testBit_succ]; exact h2 (j + 1) (by omega), Nat.add_comm]
theorem wsN_lenX {l X : List Int} (h27 : prodM l ≤ 27) (h : X.Sublist (allW l)) : popN 64 (wsN l X) = X.length := by
  rw [mkL_pop 64 _ (by rw [cvL_len]; omega), cvL, List.filter_map, List.length_map]
  apply List.Perm.length_eq
  apply (List.perm_ext_iff_of_nodup ((allW_nodup l).filter _) (h.nodup (allW_nodup l))).2
  intro u
  rw [List.mem_filter]
  simp only [Function.comp, id_eq, decide_eq_true_eq]
  exact ⟨fun h => h.2, fun hu => ⟨h.subset hu, hu⟩⟩
theorem sub_rng {l X : List Int} {w : Int} (h : X.Sublist (allW l)) (hw : w ∈ X) : 0 ≤ w ∧ w < prodM l := by
  have := (allW_mem l w).1 (h.subset hw)
  omega
theorem wsN_posX {l X : List Int} {w : Int} (hw : 0 ≤ w ∧ w < prodM l) (h : w ∈ X) : 0 < wsN l X := by
  refine Nat.pos_of_ne_zero fun e => ?_
  have h1 := wsN_bit l X w.toNat
  rw [e, Nat.zero_testBit, Int.toNat_of_nonneg hw.1] at h1
  have h2 := of_decide_eq_false h1.symm
  exact h2 ⟨by omega, h⟩
theorem wsN_tz {l X : List Int} {w : Int} (h27 : prodM l ≤ 27) (h : (w :: X).Sublist (allW l)) : (tzN 64 (wsN l (w :: X)) : Int) = w := by
  have hw := sub_rng h List.mem_cons_self
  have hp := List.pairwise_cons.1 ((allW_asc l).sublist h)
  have e : tzN 64 (wsN l (w :: X)) = w.toNat := by
    refine tzN_bit 64 w.toNat _ (by omega) ?_ fun j hj => ?_
    · rw [wsN_bit, decide_eq_true_eq, Int.toNat_of_nonneg hw.1]
      exact ⟨by omega, List.mem_cons_self⟩
    · rw [wsN_bit, decide_eq_false_iff_not]
      rintro ⟨_, hm⟩
      rcases List.mem_cons.1 hm with e | hm
      · omega
      · have := hp.1 _ hm; omega
  rw [e]; omega
theorem wsN_andNot {l X Y Z : List Int} (h27 : prodM l ≤ 27) (hZ : ∀ u, u ∈ Z ↔ u ∈ X ∧ u ∉ Y) : (BitVec.ofInt 64 (wsN l X : Int) &&& ~~~BitVec.ofInt 64 (wsN l Y : Int)).toNat = wsN l Z := by
  apply Nat.eq_of_testBit_eq
  intro i
  have e1 : (BitVec.ofInt 64 (wsN l X : Int)).toNat = wsN l X := by
    have := wsN_lt h27 X
    rw [ofInt_nat_u (by omega) (by omega)]; simp
  have e2 : (BitVec.ofInt 64 (wsN l Y : Int)).toNat = wsN l Y := by
    have := wsN_lt h27 Y
    rw [ofInt_nat_u (by omega) (by omega)]; simp
  rw [BitVec.testBit_toNat, BitVec.getLsbD_and, BitVec.getLsbD_not, ← BitVec.testBit_toNat, ← BitVec.testBit_toNat, e1, e2, wsN_bit, wsN_bit, wsN_bit, Bool.eq_iff_iff]
  simp only [Bool.and_eq_true, decide_eq_true_eq, Bool.not_eq_true', decide_eq_false_iff_not, hZ]
  constructor
  · rintro ⟨⟨h1, h2⟩, h3, h4⟩
    exact ⟨h1, h2, fun h => h4 ⟨h1, h⟩⟩
  · rintro ⟨h1, h2, h3⟩
    exact ⟨⟨h1, h2⟩, by omega, fun h => h3 h.2⟩
theorem andNot_b {l X Y Z : List Int} (h27 : prodM l ≤ 27) (hZ : ∀ u, u ∈ Z ↔ u ∈ X ∧ u ∉ Y) : binA .andNot (.d (.v (.int .u64 (wsN l X : Int)))) (.d (.v (.int .u64 (wsN l Y : Int)))) = some (.d (.v (.int .u64 (wsN l Z : Int)))) := by
  have hl := wsN_lt h27 Z
  have e2 : binI .andNot .u64 (wsN l X : Int) (wsN l Y : Int) = some (.int .u64 (IntKind.wrap .u64 ((BitVec.ofInt 64 (wsN l X : Int) &&& ~~~BitVec.ofInt 64 (wsN l Y : Int)).toNat : Nat))) := rfl
  simp only [binA, e2, BinOp.isShift, or_true, if_true, wsN_andNot h27 hZ, Option.map_some]
  rw [wrap_u64 (by omega) (by omega)]
theorem naX_few {l X : List Int} {d : Int} {k : Nat} (h : X.length < k) : naX l d k X = none := by
  cases hx : naX l d k X with
  | none => rfl
  | some L =>
    have h1 := (naX_ne l d _ k X (Nat.le_refl _)).1 (by rw [hx]; intro h; cases h)
    have := mxX_le l d _ X (Nat.le_refl _)
    omega
theorem awy_ball {l X : List Int} {d w : Int} (hd : 1 ≤ d) (h : (w :: X).Sublist (allW l)) : ∀ u, u ∈ awy l d w X ↔ u ∈ w :: X ∧ u ∉ ballM l w (d - 1) := by
  intro u
  rw [List.mem_filter, List.mem_cons, ballM, List.mem_filter]
  simp only [decide_eq_true_eq, not_and]
  constructor
  · rintro ⟨h1, h2⟩
    exact ⟨.inr h1, fun _ => by rw [distM_comm]; omega⟩
  · rintro ⟨h1, h2⟩
    have h3 : u ∈ allW l := h.subset (List.mem_cons.2 h1)
    have h4 := h2 h3
    rcases h1 with e | h1
    · subst e
      have h5 := ball_self (sub_rng h List.mem_cons_self) (show 0 ≤ d - 1 by omega)
      rw [ballM, List.mem_filter] at h5
      simp only [decide_eq_true_eq] at h5
      exact absurd h5.2 h4
    · rw [distM_comm] at h4
      exact ⟨h1, by omega⟩
theorem tail_one {l X : List Int} {w : Int} (h : (w :: X).Sublist (allW l)) : ∀ u, u ∈ X ↔ u ∈ w :: X ∧ u ∉ [w] := by
  intro u
  have hp := List.pairwise_cons.1 ((allW_asc l).sublist h)
  rw [List.mem_cons, List.mem_singleton]
  constructor
  · intro hu; have := hp.1 u hu; exact ⟨.inr hu, by omega⟩
  · rintro ⟨h1, h2⟩
    rcases h1 with h1 | h1
    · exact absurd h1 h2
    · exact h1
theorem d_fapt (l : List Int) (hs : isSpaceM l = true) (h27 : prodM l ≤ 27) (d : Int) (hd1 : 1 ≤ d) (many : Nat) (hm : many ≤ 100000) : ∀ (k : Nat) (X c : List Int) (g1 g2 g3 g4 : Value), c.length + k = many → X.Sublist (allW l) →
    DenG PA f_impl_firstApart_1 5 [.d (.v (.int .u64 (wsN l X : Int))), .is (.box [di many]) g1, .is (.boxm [.own 1 (c.map di)]) g2, .is (.box [.v (.func (.func f_impl_firstApart_1) #[] [g1, g2, g3, g4].toArray)]) g3, .is (.box [.lst 1 ((nearB l (d - 1)).map duN)]) g4, tabR]
      [.any, .any, .boxm [.own 1 ((srL c (naX l d k X)).map di)], .any, .any, .any] (.d (db (srB (naX l d k X)))) := by
  have hp1 := prodM_pos (isSpaceM_szs hs)
  intro k
  induction k with
  | zero =>
    intro X c g1 g2 g3 g4 hk hX
    have hk2 : (many : Int) - c.length = 0 := by omega
    refine den_goG [1, 2, 3, 4, 5] l_impl_firstApart_1 (by simp) ?_
    rw [naX_zero, srL, srB, List.append_nil]
    repeat' (first | simp -implicitDefEqProofs (maxSteps := 1000000) (disch := (first | omega | (simp only [go_sem] <;> omega) | fail)) only [go_sem, ints, bools, mat, c_impl_firstApart_1, hk2] | ((first | refine goIf_b (fun h => ?_) (fun h => ?_) | refine goG_b (fun h => ?_) (fun h => ?_) | refine goTG_b (fun h => ?_) (fun h => ?_) | refine goOG_b (fun h => ?_) (fun h => ?_)) <;> ((try simp only [Bool.not_eq_true', Bool.not_eq_false'] at h); (try simp only [h]); (try simp only [decide_eq_true_eq, decide_eq_false_iff_not, bne_iff_ne, bne_eq_false_iff_eq, beq_iff_eq, beq_eq_false_iff_ne, ne_eq, Int.not_lt, Int.not_le, Bool.and_eq_true, Bool.and_eq_false_iff, Bool.or_eq_true, Bool.or_eq_false_iff] at h)) <;> (try (exfalso; omega))))
  | succ k ih =>
    intro X c g1 g2 g3 g4 hk hX
    have hk2 : (many : Int) - c.length = ((k + 1 : Nat) : Int) := by omega
    refine den_goG [1, 2, 3, 4, 5] l_impl_firstApart_1 (by simp) ?_
    repeat' (first | simp -implicitDefEqProofs (maxSteps := 1000000) (disch := (first | omega | (simp only [go_sem] <;> omega) | fail)) only [go_sem, ints, bools, mat, c_impl_firstApart_1, hk2] | ((first | refine goIf_b (fun h => ?_) (fun h => ?_) | refine goG_b (fun h => ?_) (fun h => ?_) | refine goTG_b (fun h => ?_) (fun h => ?_) | refine goOG_b (fun h => ?_) (fun h => ?_)) <;> ((try simp only [Bool.not_eq_true', Bool.not_eq_false'] at h); (try simp only [h]); (try simp only [decide_eq_true_eq, decide_eq_false_iff_not, bne_iff_ne, bne_eq_false_iff_eq, beq_iff_eq, beq_eq_false_iff_ne, ne_eq, Int.not_lt, Int.not_le, Bool.and_eq_true, Bool.and_eq_false_iff, Bool.or_eq_true, Bool.or_eq_false_iff] at h)) <;> (try (exfalso; omega))))
    generalize hres : naX l d (k + 1) X = res
    refine go_loop (fun (p : List Int × List Int) => ⟨[(0, .d (.v (.int .u64 (wsN l p.1 : Int)))), (2, .ref 0 0), (3, .iref [.v (.func (.func f_impl_firstApart_1) #[] [g1, g2, g3, g4].toArray)] 0), (4, .iref [.lst 1 ((nearB l (d - 1)).map duN)] 0), (7, .d (di (k + 1 : Nat))), (43, .is (.iref [di many] 0) g1), (44, .is (.ref 0 0) g2), (45, .is (.iref [.v (.func (.func f_impl_firstApart_1) #[] [g1, g2, g3, g4].toArray)] 0) g3), (46, .is (.iref [.lst 1 ((nearB l (d - 1)).map duN)] 0) g4), (47, .is (.iref (tzT.map dy) 0) (.pointer (some ⟨g_math_bits_deBruijn64tab, 0, none⟩)))], [some (.mix [.sl 1 0 c.length 1]), some (.dat 1 ((c ++ p.2).map di))]⟩)
      (fun p => p.1.Sublist (allW l) ∧ naX l d (k + 1) p.1 = res) (fun p => p.1.length) (X, []) ?_ ?_ ?_
    · simp -implicitDefEqProofs (maxSteps := 1000000) (disch := (first | omega | (simp only [go_sem] <;> omega) | fail)) only [go_sem, ints, bools, mat, List.append_nil]
    · exact ⟨hX, hres⟩
    · rintro ⟨Y, t⟩ ⟨h1, h2⟩ J hJ
      dsimp only at h1 h2 ⊢
      have hYl := wsN_lt h27 Y
      have hpop := d_OnesCount64_64 (wsN l Y) (by omega)
      rw [wsN_lenX h27 h1] at hpop
      have hYn := h1.length_le
      rw [allW_len] at hYn
      by_cases hlen : k + 1 ≤ Y.length
      · obtain ⟨w, Y', rfl⟩ : ∃ w Y', Y = w :: Y' := by
          cases Y with
          | nil => simp at hlen
          | cons w Y' => exact ⟨w, Y', rfl⟩
        have hlen2 : k + 1 ≤ Y'.length + 1 := hlen
        have hw := sub_rng h1 List.mem_cons_self
        have hpos := wsN_posX (l := l) hw (List.mem_cons_self (a := w) (l := Y'))
        have htz := d_TrailingZeros64 (wsN l (w :: Y')) hpos (by omega)
        rw [wsN_tz h27 h1] at htz
        have eN := nearB_get (l := l) (d - 1) hw
        have eo := andNot_b h27 (awy_ball hd1 h1)
        have eo2 := andNot_b h27 (tail_one h1)
        have hone : ((2 ^ w.toNat : Nat) : Int) = (wsN l [w] : Int) := by rw [wsN_one hw]
        have hs1 : Y'.Sublist (allW l) := (List.sublist_cons_self w Y').trans h1
        have hs2 : (awy l d w Y').Sublist (allW l) := List.filter_sublist.trans hs1
        have hden := ih (awy l d w Y') (c ++ [w]) g1 g2 g3 g4 (by simp; omega) hs2
        rw [naX_cons] at h2
        repeat' (first | simp -implicitDefEqProofs (maxSteps := 1000000) (disch := (first | omega | (simp only [go_sem] <;> omega) | fail)) only [go_sem, ints, bools, mat] | ((first | refine goIf_b (fun h => ?_) (fun h => ?_) | refine goG_b (fun h => ?_) (fun h => ?_) | refine goTG_b (fun h => ?_) (fun h => ?_) | refine goOG_b (fun h => ?_) (fun h => ?_)) <;> ((try simp only [Bool.not_eq_true', Bool.not_eq_false'] at h); (try simp only [h]); (try simp only [decide_eq_true_eq, decide_eq_false_iff_not, bne_iff_ne, bne_eq_false_iff_eq, beq_iff_eq, beq_eq_false_iff_ne, ne_eq, Int.not_lt, Int.not_le, Bool.and_eq_true, Bool.and_eq_false_iff, Bool.or_eq_true, Bool.or_eq_false_iff] at h)) <;> (try (exfalso; omega))))
        first | refine goC_call [.r] (hpop) ?_ | refine goOC_call [.r] (hpop) ?_
        repeat' (first | simp -implicitDefEqProofs (maxSteps := 1000000) (disch := (first | omega | (simp only [go_sem] <;> omega) | fail)) only [go_sem, ints, bools, mat] | ((first | refine goIf_b (fun h => ?_) (fun h => ?_) | refine goG_b (fun h => ?_) (fun h => ?_) | refine goTG_b (fun h => ?_) (fun h => ?_) | refine goOG_b (fun h => ?_) (fun h => ?_)) <;> ((try simp only [Bool.not_eq_true', Bool.not_eq_false'] at h); (try simp only [h]); (try simp only [decide_eq_true_eq, decide_eq_false_iff_not, bne_iff_ne, bne_eq_false_iff_eq, beq_iff_eq, beq_eq_false_iff_ne, ne_eq, Int.not_lt, Int.not_le, Bool.and_eq_true, Bool.and_eq_false_iff, Bool.or_eq_true, Bool.or_eq_false_iff] at h)) <;> (try (exfalso; omega))))
        refine goC_realZ [] [] [47] (by simp -implicitDefEqProofs (maxSteps := 1000000) (disch := (first | omega | (simp only [go_sem] <;> omega) | fail)) only [go_sem, ints, bools, mat]) fun ρ hρ => ?_
        refine goCG_call [.r, .i .b] htz ?_
        repeat' (first | simp -implicitDefEqProofs (maxSteps := 1000000) (disch := (first | omega | (simp only [go_sem] <;> omega) | fail)) only [go_sem, ints, bools, mat, eN, eo, List.take_left] | ((first | refine goIf_b (fun h => ?_) (fun h => ?_) | refine goG_b (fun h => ?_) (fun h => ?_) | refine goTG_b (fun h => ?_) (fun h => ?_) | refine goOG_b (fun h => ?_) (fun h => ?_)) <;> ((try simp only [Bool.not_eq_true', Bool.not_eq_false'] at h); (try simp only [h]); (try simp only [decide_eq_true_eq, decide_eq_false_iff_not, bne_iff_ne, bne_eq_false_iff_eq, beq_iff_eq, beq_eq_false_iff_ne, ne_eq, Int.not_lt, Int.not_le, Bool.and_eq_true, Bool.and_eq_false_iff, Bool.or_eq_true, Bool.or_eq_false_iff] at h)) <;> (try (exfalso; omega))))
        refine goOV_val f_impl_firstApart_1 [g1, g2, g3, g4] [43, 44, 45, 46] [47] rfl (by simp -implicitDefEqProofs (maxSteps := 1000000) (disch := (first | omega | (simp only [go_sem] <;> omega) | fail)) only [go_sem, ints, bools, mat]) ?_
        repeat' (first | simp -implicitDefEqProofs (maxSteps := 1000000) (disch := (first | omega | (simp only [go_sem] <;> omega) | fail)) only [go_sem, ints, bools, mat] | ((first | refine goIf_b (fun h => ?_) (fun h => ?_) | refine goG_b (fun h => ?_) (fun h => ?_) | refine goTG_b (fun h => ?_) (fun h => ?_) | refine goOG_b (fun h => ?_) (fun h => ?_)) <;> ((try simp only [Bool.not_eq_true', Bool.not_eq_false'] at h); (try simp only [h]); (try simp only [decide_eq_true_eq, decide_eq_false_iff_not, bne_iff_ne, bne_eq_false_iff_eq, beq_iff_eq, beq_eq_false_iff_ne, ne_eq, Int.not_lt, Int.not_le, Bool.and_eq_true, Bool.and_eq_false_iff, Bool.or_eq_true, Bool.or_eq_false_iff] at h)) <;> (try (exfalso; omega))))
        cases hsr : naX l d k (awy l d w Y') with
        | some L =>
          rw [hsr] at hden h2
          rw [srL, srB] at hden
          rw [← h2, naC, srL, srB, show c ++ w :: L = c ++ [w] ++ L by simp]
          refine goOCG_call [.r, .i .b, .i .bm, .i .b, .i .b, .i .b] hden ?_
          repeat' (first | simp -implicitDefEqProofs (maxSteps := 1000000) (disch := (first | omega | (simp only [go_sem] <;> omega) | fail)) only [go_sem, ints, bools, mat] | ((first | refine goIf_b (fun h => ?_) (fun h => ?_) | refine goG_b (fun h => ?_) (fun h => ?_) | refine goTG_b (fun h => ?_) (fun h => ?_) | refine goOG_b (fun h => ?_) (fun h => ?_)) <;> ((try simp only [Bool.not_eq_true', Bool.not_eq_false'] at h); (try simp only [h]); (try simp only [decide_eq_true_eq, decide_eq_false_iff_not, bne_iff_ne, bne_eq_false_iff_eq, beq_iff_eq, beq_eq_false_iff_ne, ne_eq, Int.not_lt, Int.not_le, Bool.and_eq_true, Bool.and_eq_false_iff, Bool.or_eq_true, Bool.or_eq_false_iff] at h)) <;> (try (exfalso; omega))))
        | none =>
          rw [hsr] at hden h2
          rw [srL, srB] at hden
          refine goOCG_call [.r, .i .b, .i .bm, .i .b, .i .b, .i .b] hden ?_
          repeat' (first | simp -implicitDefEqProofs (maxSteps := 1000000) (disch := (first | omega | (simp only [go_sem] <;> omega) | fail)) only [go_sem, ints, bools, mat, binA_shl_u, hone, eo2] | ((first | refine goIf_b (fun h => ?_) (fun h => ?_) | refine goG_b (fun h => ?_) (fun h => ?_) | refine goTG_b (fun h => ?_) (fun h => ?_) | refine goOG_b (fun h => ?_) (fun h => ?_)) <;> ((try simp only [Bool.not_eq_true', Bool.not_eq_false'] at h); (try simp only [h]); (try simp only [decide_eq_true_eq, decide_eq_false_iff_not, bne_iff_ne, bne_eq_false_iff_eq, beq_iff_eq, beq_eq_false_iff_ne, ne_eq, Int.not_lt, Int.not_le, Bool.and_eq_true, Bool.and_eq_false_iff, Bool.or_eq_true, Bool.or_eq_false_iff] at h)) <;> (try (exfalso; omega))))
          refine hJ (Y', [w]) ⟨hs1, h2⟩ (by simp) _ ?_
          simp -implicitDefEqProofs (maxSteps := 1000000) (disch := (first | omega | (simp only [go_sem] <;> omega) | fail)) only [go_sem, ints, bools, mat]
      · rw [naX_few (by omega)] at h2
        rw [← h2, srL, srB]
        repeat' (first | simp -implicitDefEqProofs (maxSteps := 1000000) (disch := (first | omega | (simp only [go_sem] <;> omega) | fail)) only [go_sem, ints, bools, mat] | ((first | refine goIf_b (fun h => ?_) (fun h => ?_) | refine goG_b (fun h => ?_) (fun h => ?_) | refine goTG_b (fun h => ?_) (fun h => ?_) | refine goOG_b (fun h => ?_) (fun h => ?_)) <;> ((try simp only [Bool.not_eq_true', Bool.not_eq_false'] at h); (try simp only [h]); (try simp only [decide_eq_true_eq, decide_eq_false_iff_not, bne_iff_ne, bne_eq_false_iff_eq, beq_iff_eq, beq_eq_false_iff_ne, ne_eq, Int.not_lt, Int.not_le, Bool.and_eq_true, Bool.and_eq_false_iff, Bool.or_eq_true, Bool.or_eq_false_iff] at h)) <;> (try (exfalso; omega))))
        first | refine goC_call [.r] (hpop) ?_ | refine goOC_call [.r] (hpop) ?_
        repeat' (first | simp -implicitDefEqProofs (maxSteps := 1000000) (disch := (first | omega | (simp only [go_sem] <;> omega) | fail)) only [go_sem, ints, bools, mat, leaS_pre, List.take_left] | ((first | refine goIf_b (fun h => ?_) (fun h => ?_) | refine goG_b (fun h => ?_) (fun h => ?_) | refine goTG_b (fun h => ?_) (fun h => ?_) | refine goOG_b (fun h => ?_) (fun h => ?_)) <;> ((try simp only [Bool.not_eq_true', Bool.not_eq_false'] at h); (try simp only [h]); (try simp only [decide_eq_true_eq, decide_eq_false_iff_not, bne_iff_ne, bne_eq_false_iff_eq, beq_iff_eq, beq_eq_false_iff_ne, ne_eq, Int.not_lt, Int.not_le, Bool.and_eq_true, Bool.and_eq_false_iff, Bool.or_eq_true, Bool.or_eq_false_iff] at h)) <;> (try (exfalso; omega))))
theorem mx_div {l : List Int} {d : Int} (hs : isSpaceM l = true) (hd : 1 ≤ d) : (mxX l d (allW l) : Int) ≤ divM l (d - 1).toNat := by
  rw [← bsX_len]
  obtain ⟨_, _, h3⟩ := naX_sound l d _ _ (allW l) _ (Nat.le_refl _) (naX_bs l d (allW l))
  exact apart_le hs (h3.imp fun {a b} h => by omega)
theorem naX_over {l X : List Int} {d : Int} {k : Nat} (h : mxX l d X < k) : naX l d k X = none := by
  cases hx : naX l d k X with
  | none => rfl
  | some L =>
    have h1 := (naX_ne l d _ k X (Nat.le_refl _)).1 (by rw [hx]; intro h; cases h)
    omega
theorem divM_bnd {l : List Int} (hs : isSpaceM l = true) (k : Nat) : 0 ≤ divM l k ∧ divM l k ≤ 65536 := by
  have hn := isSpaceM_n hs
  have hz := szs_perm (List.mergeSort_perm l (fun x y => decide (x ≤ y))) (isSpaceM_szs hs)
  have h1 := prodM_small (sortI l) (j := l.length - k) (by omega) (by rw [sortI_len]; omega) (fun i hi => hz i (by rw [sortI_len]; omega))
  unfold divM
  omega
theorem d_impl_firstApart (l : List Int) (hs : isSpaceM l = true) (h27 : prodM l ≤ 27) (d : Int) (hd1 : 1 ≤ d) (hd9 : d ≤ 9) : DenG PA f_impl_firstApart 2 [.d (.agg [ints l]), .d (di d), tabR] [.any, .any, .any] (.own 1 ((bsX l d (allW l)).map di)) := by
  have hp1 := prodM_pos (isSpaceM_szs hs)
  have hmn : (if 8 < d - 1 then 8 else d - 1) = d - 1 := if_neg (by omega)
  have hmx := mx_div hs hd1
  have hdb := divM_bnd hs (d - 1).toNat
  have hdv := d_impl_dividedBy l (d - 1).toNat hs (by omega)
  rw [Int.toNat_of_nonneg (show 0 ≤ d - 1 by omega)] at hdv
  have hall := wsN_all l
  have h2N : 2 ^ (prodM l).toNat = wsN l (allW l) + 1 := hall.symm
  have eall : ((wsN l (allW l) + 1 : Nat) : Int) - 1 = wsN l (allW l) := by omega
  have hwl := wsN_lt h27 (allW l)
  generalize divM l (d - 1).toNat = P at *
  obtain ⟨Q, rfl⟩ := Int.eq_ofNat_of_zero_le hdb.1
  refine den_goL [2] [(g_math_bits_deBruijn64tab, 2)] l_impl_firstApart (by simp) (fun q hq => by simp at hq; subst hq; exact ⟨_, rfl⟩) ?_
  repeat' (first | simp -implicitDefEqProofs (maxSteps := 1000000) (disch := (first | omega | (simp only [go_sem] <;> omega) | fail)) only [go_sem, ints, bools, mat, c_impl_firstApart, hmn, tabR, g_math_bits_deBruijn64tab] | ((first | refine goIf_b (fun h => ?_) (fun h => ?_) | refine goG_b (fun h => ?_) (fun h => ?_) | refine goTG_b (fun h => ?_) (fun h => ?_) | refine goOG_b (fun h => ?_) (fun h => ?_)) <;> ((try simp only [Bool.not_eq_true', Bool.not_eq_false'] at h); (try simp only [h]); (try simp only [decide_eq_true_eq, decide_eq_false_iff_not, bne_iff_ne, bne_eq_false_iff_eq, beq_iff_eq, beq_eq_false_iff_ne, ne_eq, Int.not_lt, Int.not_le, Bool.and_eq_true, Bool.and_eq_false_iff, Bool.or_eq_true, Bool.or_eq_false_iff] at h)) <;> (try (exfalso; omega))))
  first | refine goC_call [.r, .r] (d_impl_nearSets l hs h27 (d - 1)) ?_ | refine goOC_call [.r, .r] (d_impl_nearSets l hs h27 (d - 1)) ?_
  repeat' (first | simp -implicitDefEqProofs (maxSteps := 1000000) (disch := (first | omega | (simp only [go_sem] <;> omega) | fail)) only [go_sem, ints, bools, mat] | ((first | refine goIf_b (fun h => ?_) (fun h => ?_) | refine goG_b (fun h => ?_) (fun h => ?_) | refine goTG_b (fun h => ?_) (fun h => ?_) | refine goOG_b (fun h => ?_) (fun h => ?_)) <;> ((try simp only [Bool.not_eq_true', Bool.not_eq_false'] at h); (try simp only [h]); (try simp only [decide_eq_true_eq, decide_eq_false_iff_not, bne_iff_ne, bne_eq_false_iff_eq, beq_iff_eq, beq_eq_false_iff_ne, ne_eq, Int.not_lt, Int.not_le, Bool.and_eq_true, Bool.and_eq_false_iff, Bool.or_eq_true, Bool.or_eq_false_iff] at h)) <;> (try (exfalso; omega))))
  first | refine goC_call [.r, .r] (hdv) ?_ | refine goOC_call [.r, .r] (hdv) ?_
  repeat' (first | simp -implicitDefEqProofs (maxSteps := 1000000) (disch := (first | omega | (simp only [go_sem] <;> omega) | fail)) only [go_sem, ints, bools, mat] | ((first | refine goIf_b (fun h => ?_) (fun h => ?_) | refine goG_b (fun h => ?_) (fun h => ?_) | refine goTG_b (fun h => ?_) (fun h => ?_) | refine goOG_b (fun h => ?_) (fun h => ?_)) <;> ((try simp only [Bool.not_eq_true', Bool.not_eq_false'] at h); (try simp only [h]); (try simp only [decide_eq_true_eq, decide_eq_false_iff_not, bne_iff_ne, bne_eq_false_iff_eq, beq_iff_eq, beq_eq_false_iff_ne, ne_eq, Int.not_lt, Int.not_le, Bool.and_eq_true, Bool.and_eq_false_iff, Bool.or_eq_true, Bool.or_eq_false_iff] at h)) <;> (try (exfalso; omega))))
  refine go_loop (fun (p : Nat) => ⟨[(5, .ref 0 0), (6, .ref 1 0), (32, .is (.iref (tzT.map dy) 0) (.pointer (some ⟨g_math_bits_deBruijn64tab, 0, none⟩)))], [some (.mix [.sl 2 0 (prodM l).toNat 1]), some (.var [di p]), some (.dat 1 ((nearB l (d - 1)).map duN))]⟩) (fun p => mxX l d (allW l) ≤ p ∧ p ≤ Q) (fun p => p) Q ?_ ?_ ?_
  · simp -implicitDefEqProofs (maxSteps := 1000000) (disch := (first | omega | (simp only [go_sem] <;> omega) | fail)) only [go_sem, ints, bools, mat]
  · exact ⟨by omega, by omega⟩
  · rintro p ⟨h1, h2⟩ J hJ
    repeat' (first | simp -implicitDefEqProofs (maxSteps := 1000000) (disch := (first | omega | (simp only [go_sem] <;> omega) | fail)) only [go_sem, ints, bools, mat, binA_shl_u, Int.toNat_natCast, h2N, eall] | ((first | refine goIf_b (fun h => ?_) (fun h => ?_) | refine goG_b (fun h => ?_) (fun h => ?_) | refine goTG_b (fun h => ?_) (fun h => ?_) | refine goOG_b (fun h => ?_) (fun h => ?_)) <;> ((try simp only [Bool.not_eq_true', Bool.not_eq_false'] at h); (try simp only [h]); (try simp only [decide_eq_true_eq, decide_eq_false_iff_not, bne_iff_ne, bne_eq_false_iff_eq, beq_iff_eq, beq_eq_false_iff_ne, ne_eq, Int.not_lt, Int.not_le, Bool.and_eq_true, Bool.and_eq_false_iff, Bool.or_eq_true, Bool.or_eq_false_iff] at h)) <;> (try (exfalso; omega))))
    refine goOC_realZ [5] [] [32] (by simp -implicitDefEqProofs (maxSteps := 1000000) (disch := (first | omega | (simp only [go_sem] <;> omega) | fail)) only [go_sem, ints, bools, mat]) fun ρ hρ => ?_
    have hden := d_fapt l hs h27 d hd1 p (by omega) p (allW l) [] (ρ 1) (ρ 4) (ρ 5) (ρ 0) (by simp) (List.Sublist.refl _)
    repeat' (first | simp -implicitDefEqProofs (maxSteps := 1000000) (disch := (first | omega | (simp only [go_sem] <;> omega) | fail)) only [go_sem, ints, bools, mat] | ((first | refine goIf_b (fun h => ?_) (fun h => ?_) | refine goG_b (fun h => ?_) (fun h => ?_) | refine goTG_b (fun h => ?_) (fun h => ?_) | refine goOG_b (fun h => ?_) (fun h => ?_)) <;> ((try simp only [Bool.not_eq_true', Bool.not_eq_false'] at h); (try simp only [h]); (try simp only [decide_eq_true_eq, decide_eq_false_iff_not, bne_iff_ne, bne_eq_false_iff_eq, beq_iff_eq, beq_eq_false_iff_ne, ne_eq, Int.not_lt, Int.not_le, Bool.and_eq_true, Bool.and_eq_false_iff, Bool.or_eq_true, Bool.or_eq_false_iff] at h)) <;> (try (exfalso; omega))))
    by_cases he : mxX l d (allW l) = p
    · rw [← he, naX_bs, srL, srB, List.nil_append, he] at hden
      refine goOCG_call [.r, .i .b, .i .bm, .i .b, .i .b, .i .b] hden ?_
      repeat' (first | simp -implicitDefEqProofs (maxSteps := 1000000) (disch := (first | omega | (simp only [go_sem] <;> omega) | fail)) only [go_sem, ints, bools, mat] | ((first | refine goIf_b (fun h => ?_) (fun h => ?_) | refine goG_b (fun h => ?_) (fun h => ?_) | refine goTG_b (fun h => ?_) (fun h => ?_) | refine goOG_b (fun h => ?_) (fun h => ?_)) <;> ((try simp only [Bool.not_eq_true', Bool.not_eq_false'] at h); (try simp only [h]); (try simp only [decide_eq_true_eq, decide_eq_false_iff_not, bne_iff_ne, bne_eq_false_iff_eq, beq_iff_eq, beq_eq_false_iff_ne, ne_eq, Int.not_lt, Int.not_le, Bool.and_eq_true, Bool.and_eq_false_iff, Bool.or_eq_true, Bool.or_eq_false_iff] at h)) <;> (try (exfalso; omega))))
    · rw [naX_over (by omega), srL, srB] at hden
      refine goOCG_call [.r, .i .b, .i .bm, .i .b, .i .b, .i .b] hden ?_
      repeat' (first | simp -implicitDefEqProofs (maxSteps := 1000000) (disch := (first | omega | (simp only [go_sem] <;> omega) | fail)) only [go_sem, ints, bools, mat] | ((first | refine goIf_b (fun h => ?_) (fun h => ?_) | refine goG_b (fun h => ?_) (fun h => ?_) | refine goTG_b (fun h => ?_) (fun h => ?_) | refine goOG_b (fun h => ?_) (fun h => ?_)) <;> ((try simp only [Bool.not_eq_true', Bool.not_eq_false'] at h); (try simp only [h]); (try simp only [decide_eq_true_eq, decide_eq_false_iff_not, bne_iff_ne, bne_eq_false_iff_eq, beq_iff_eq, beq_eq_false_iff_ne, ne_eq, Int.not_lt, Int.not_le, Bool.and_eq_true, Bool.and_eq_false_iff, Bool.or_eq_true, Bool.or_eq_false_iff] at h)) <;> (try (exfalso; omega))))
      refine hJ (p - 1) ⟨by omega, by omega⟩ (by omega) _ ?_
      rw [show ((p - 1 : Nat) : Int) = (p : Int) - 1 by omega]
      simp -implicitDefEqProofs (maxSteps := 1000000) (disch := (first | omega | (simp only [go_sem] <;> omega) | fail)) only [go_sem, ints, bools, mat]
theorem mx_len {l : List Int} {d : Int} (hs : isSpaceM l = true) : (bsX l d (allW l)).length ≤ 1024 := by
  have hpr := isSpaceM_prod hs
  have := mxX_le l d _ (allW l) (Nat.le_refl _)
  rw [bsX_len]
  rw [allW_len] at this
  omega
theorem d_impl_FirstApart (l : List Int) (d : Int) (hl : l.length < 1048577) : DenG PA f_impl_FirstApart 2 [.d (.agg [ints l]), .d (di d), tabR] [.any, .any, .any] (lstR (scE l d 2 9) (bsX l d (allW l))) := by
  refine den_goL [2] [(g_math_bits_deBruijn64tab, 2)] l_impl_FirstApart (by simp) (fun q hq => by simp at hq; subst hq; exact ⟨_, rfl⟩) ?_
  repeat' (first | simp -implicitDefEqProofs (maxSteps := 1000000) (disch := (first | omega | (simp only [go_sem] <;> omega) | fail)) only [go_sem, ints, bools, mat, c_impl_FirstApart, tabR, g_math_bits_deBruijn64tab] | ((first | refine goIf_b (fun h => ?_) (fun h => ?_) | refine goG_b (fun h => ?_) (fun h => ?_) | refine goTG_b (fun h => ?_) (fun h => ?_) | refine goOG_b (fun h => ?_) (fun h => ?_)) <;> ((try simp only [Bool.not_eq_true', Bool.not_eq_false'] at h); (try simp only [h]); (try simp only [decide_eq_true_eq, decide_eq_false_iff_not, bne_iff_ne, bne_eq_false_iff_eq, beq_iff_eq, beq_eq_false_iff_ne, ne_eq, Int.not_lt, Int.not_le, Bool.and_eq_true, Bool.and_eq_false_iff, Bool.or_eq_true, Bool.or_eq_false_iff] at h)) <;> (try (exfalso; omega))))
  first | refine goC_call [.r, .r, .r, .r] (d_impl_soughtCode l hl d 2 9) ?_ | refine goOC_call [.r, .r, .r, .r] (d_impl_soughtCode l hl d 2 9) ?_
  by_cases h : scE l d 2 9 = 0
  · obtain ⟨hs, hr, h27⟩ := scE_ok h
    have hfa := d_impl_firstApart l hs h27 d (by omega) (by omega)
    rw [lstR_ok h, h]
    repeat' (first | simp -implicitDefEqProofs (maxSteps := 1000000) (disch := (first | omega | (simp only [go_sem] <;> omega) | fail)) only [go_sem, ints, bools, mat] | ((first | refine goIf_b (fun h => ?_) (fun h => ?_) | refine goG_b (fun h => ?_) (fun h => ?_) | refine goTG_b (fun h => ?_) (fun h => ?_) | refine goOG_b (fun h => ?_) (fun h => ?_)) <;> ((try simp only [Bool.not_eq_true', Bool.not_eq_false'] at h); (try simp only [h]); (try simp only [decide_eq_true_eq, decide_eq_false_iff_not, bne_iff_ne, bne_eq_false_iff_eq, beq_iff_eq, beq_eq_false_iff_ne, ne_eq, Int.not_lt, Int.not_le, Bool.and_eq_true, Bool.and_eq_false_iff, Bool.or_eq_true, Bool.or_eq_false_iff] at h)) <;> (try (exfalso; omega))))
    refine goC_realZ [] [] [18] (by simp -implicitDefEqProofs (maxSteps := 1000000) (disch := (first | omega | (simp only [go_sem] <;> omega) | fail)) only [go_sem, ints, bools, mat]) fun ρ hρ => ?_
    refine goCG_call [.r, .r, .i .b] hfa ?_
    repeat' (first | simp -implicitDefEqProofs (maxSteps := 1000000) (disch := (first | omega | (simp only [go_sem] <;> omega) | fail)) only [go_sem, ints, bools, mat] | ((first | refine goIf_b (fun h => ?_) (fun h => ?_) | refine goG_b (fun h => ?_) (fun h => ?_) | refine goTG_b (fun h => ?_) (fun h => ?_) | refine goOG_b (fun h => ?_) (fun h => ?_)) <;> ((try simp only [Bool.not_eq_true', Bool.not_eq_false'] at h); (try simp only [h]); (try simp only [decide_eq_true_eq, decide_eq_false_iff_not, bne_iff_ne, bne_eq_false_iff_eq, beq_iff_eq, beq_eq_false_iff_ne, ne_eq, Int.not_lt, Int.not_le, Bool.and_eq_true, Bool.and_eq_false_iff, Bool.or_eq_true, Bool.or_eq_false_iff] at h)) <;> (try (exfalso; omega))))
  · rw [lstR_no h]
    repeat' (first | simp -implicitDefEqProofs (maxSteps := 1000000) (disch := (first | omega | (simp only [go_sem] <;> omega) | fail)) only [go_sem, ints, bools, mat] | ((first | refine goIf_b (fun h => ?_) (fun h => ?_) | refine goG_b (fun h => ?_) (fun h => ?_) | refine goTG_b (fun h => ?_) (fun h => ?_) | refine goOG_b (fun h => ?_) (fun h => ?_)) <;> ((try simp only [Bool.not_eq_true', Bool.not_eq_false'] at h); (try simp only [h]); (try simp only [decide_eq_true_eq, decide_eq_false_iff_not, bne_iff_ne, bne_eq_false_iff_eq, beq_iff_eq, beq_eq_false_iff_ne, ne_eq, Int.not_lt, Int.not_le, Bool.and_eq_true, Bool.and_eq_false_iff, Bool.or_eq_true, Bool.or_eq_false_iff] at h)) <;> (try (exfalso; omega))))
/-- What the reference's search finds. -/
def fnO (l : List Int) (d : Int) (c Y : List Int) (m : Nat) (b : Option (List Int)) : Option (List Int) := if m < c.length + mxX l d Y then some (c ++ bsX l d Y) else b
theorem fnO_hit {l : List Int} {d w : Int} {c Y : List Int} {m : Nat} {b : Option (List Int)} (h : m < c.length + 1 + mxX l d (awy l d w Y)) :
    fnO l d c (w :: Y) m b = fnO l d c Y (c.length + 1 + mxX l d (awy l d w Y)) (some (c ++ [w] ++ bsX l d (awy l d w Y))) := by
  unfold fnO
  rw [mxX_cons, if_pos (by omega), bsX_step]
  by_cases h1 : mxX l d Y ≤ 1 + mxX l d (awy l d w Y)
  · rw [if_pos h1, if_neg (by omega)]; simp
  · rw [if_neg h1, if_pos (by omega)]
theorem fnO_miss {l : List Int} {d w : Int} {c Y : List Int} {m : Nat} {b : Option (List Int)} (h : ¬ m < c.length + 1 + mxX l d (awy l d w Y)) : fnO l d c (w :: Y) m b = fnO l d c Y m b := by
  unfold fnO
  rw [mxX_cons]
  by_cases h1 : m < c.length + mxX l d Y
  · rw [if_pos h1, if_pos (by omega), bsX_step, if_neg (by omega)]
  · rw [if_neg h1, if_neg (by omega)]
theorem fnO_end {l : List Int} {d : Int} {c Y : List Int} {m : Nat} {b : Option (List Int)} (h : c.length + Y.length ≤ m) : fnO l d c Y m b = b := by
  have := mxX_le l d _ Y (Nat.le_refl _)
  unfold fnO
  rw [if_neg (by omega)]
theorem fnO_start {l : List Int} {d : Int} {c Y : List Int} {m : Nat} (h : m < c.length) : fnO l d c Y c.length (some c) = fnO l d c Y m none := by
  unfold fnO
  rw [if_pos (show m < c.length + mxX l d Y by omega)]
  by_cases h1 : c.length < c.length + mxX l d Y
  · rw [if_pos h1]
  · rw [if_neg h1, List.eq_nil_of_length_eq_zero (show (bsX l d Y).length = 0 by rw [bsX_len]; omega), List.append_nil]
theorem dropX {X : List Int} {i : Nat} (h : i < X.length) : X.drop i = X.getD i 0 :: X.drop (i + 1) := by
  rw [List.drop_eq_getElem_cons h, List.getD_eq_getElem?_getD, List.getElem?_eq_getElem h, Option.getD_some]
def grR : Option (List Int) → R
  | none => .tup [.d (ints []), .d (db false)]
  | some L => .tup [.d (ints L), .d (db true)]
def fstL : AC → Option AC
  | .seq a b => match fstL a with
    | some x => some x
    | none => fstL b
  | .block _ b => fstL b
  | .loop _ b => some b
  | _ => none
/-- What lies behind all but the last two. -/
def lastSeq : AC → AC
  | .seq a .ret => .seq a .ret
  | .seq _ b => lastSeq b
  | x => x
/-- The body of the first loop. -/
def firstLoop (a : AC) : AC := (fstL a).getD .skip
def grI (l X c : List Int) (d : Int) : Nat × Nat × Option (List Int) → ASt
  | (i, m, none) => ⟨[(1, .d (ints c)), (2, .d (ints X)), (3, .d (di d)), (4, .d (di m)), (5, .ref 0 0), (12, .sl 1 0 0 1), (13, .d (db false)), (14, .d (di i))], [some (.var [ints l]), some (.dat 1 [])]⟩
  | (i, m, some b) => ⟨[(1, .d (ints c)), (2, .d (ints X)), (3, .d (di d)), (4, .d (di m)), (5, .ref 0 0), (12, .d (ints b)), (13, .d (db true)), (14, .d (di i))], [some (.var [ints l])]⟩
theorem awy_step {l Y : List Int} {d w x : Int} {N : List Int} {A : List Int} (h : N ++ awy l d w (x :: Y) = A) : (if d ≤ distM l w x then N ++ [x] else N) ++ awy l d w Y = A := by
  rw [← h, awy, awy, List.filter_cons]
  by_cases h1 : d ≤ distM l w x
  · rw [if_pos h1, if_pos (by simpa using h1)]; simp
  · rw [if_neg h1, if_neg (by simpa using h1)]
end Go.Proofs.YtaigdomjaglifaaDoor.Va
