/- Contracts of the functions that FnPerfect reaches (part 0). Condition: none. -/
import Derived.Test.YtfgjfjgkoabfjaaCFnPerfect
set_option linter.all false
set_option linter.unusedSimpArgs false
set_option linter.unusedVariables false
namespace Go.Proofs.Ytfgjfjgkoabfjaa.Va
open Go
set_option maxHeartbeats 4000000
set_option maxRecDepth 100000
attribute [go_sem_proc] reduceIte Nat.reduceEqDiff Nat.reduceAdd Nat.reduceBEq Nat.reduceMul Nat.reduceLeDiff Nat.reduceLT Nat.reduceMod Nat.reduceDiv Nat.reduceSub reduceCtorEq
theorem d_spec_l01In (a lo hi : Int) : Den PA f_spec_l01In [.d (di a), .d (di lo), .d (di hi)] [.any, .any, .any] (.d (db (decide (lo ≤ a) && decide (a ≤ hi)))) := by
  refine den_go [] l_spec_l01In ?_
  repeat' (first | simp -implicitDefEqProofs (maxSteps := 1000000) (disch := (first | omega | (simp only [go_sem] <;> omega) | fail)) only [go_sem, ints, bools, mat, c_spec_l01In] | ((first | refine goIf_b (fun h => ?_) (fun h => ?_) | refine goG_b (fun h => ?_) (fun h => ?_) | refine goTG_b (fun h => ?_) (fun h => ?_) | refine goOG_b (fun h => ?_) (fun h => ?_)) <;> ((try simp only [Bool.not_eq_true', Bool.not_eq_false'] at h); (try simp only [h]); (try simp only [decide_eq_true_eq, decide_eq_false_iff_not, bne_iff_ne, bne_eq_false_iff_eq, beq_iff_eq, beq_eq_false_iff_ne, ne_eq, Int.not_lt, Int.not_le, Bool.and_eq_true, Bool.and_eq_false_iff, Bool.or_eq_true, Bool.or_eq_false_iff] at h))))
def prodM (l : List Int) : Int := l.foldl (· * ·) 1
theorem take_one (l : List Int) {j : Nat} (h : j < l.length) : l.take (j + 1) = l.take j ++ [l.getD j 0] := by
  rw [List.take_add_one]; simp [h]
theorem prodM_step (l : List Int) {j : Nat} (h : j < l.length) : prodM (l.take (j + 1)) = prodM (l.take j) * l.getD j 0 := by
  rw [take_one l h]; simp [prodM]
theorem prodM_bnd (l : List Int) : ∀ j, j ≤ l.length → (∀ i, i < j → 2 ≤ l.getD i 0 ∧ l.getD i 0 ≤ 4) → 1 ≤ prodM (l.take j) ∧ prodM (l.take j) ≤ 4 ^ j
  | 0, _, _ => by simp [prodM]
  | j + 1, hj, h => by
    obtain ⟨h1, h2⟩ := prodM_bnd l j (by omega) (fun i hi => h i (by omega))
    obtain ⟨h3, h4⟩ := h j (by omega)
    rw [prodM_step l (by omega)]
    constructor
    · have := Int.mul_le_mul h1 (show (1 : Int) ≤ l.getD j 0 by omega) (by omega) (by omega)
      simpa using this
    · rw [Int.pow_succ]
      exact Int.mul_le_mul h2 h4 (by omega) (by omega)
theorem pow4 {j : Nat} (h : j ≤ 8) : (4 : Int) ^ j ≤ 65536 := by
  exact (by decide : ∀ j : Fin 9, (4 : Int) ^ (j : Nat) ≤ 65536) ⟨j, by omega⟩
theorem prodM_small (l : List Int) {j : Nat} (h8 : j ≤ 8) (hj : j ≤ l.length) (h : ∀ i, i < j → 2 ≤ l.getD i 0 ∧ l.getD i 0 ≤ 4) : 1 ≤ prodM (l.take j) ∧ prodM (l.take j) ≤ 65536 := by
  obtain ⟨h1, h2⟩ := prodM_bnd l j hj h
  exact ⟨h1, Int.le_trans h2 (pow4 h8)⟩
/-- A space: one to eight places, two to four digits each, at most 1024 words. -/
def isSpaceM (l : List Int) : Bool := decide (1 ≤ l.length) && decide (l.length ≤ 8) && l.all (fun n => decide (2 ≤ n) && decide (n ≤ 4)) && decide (prodM l ≤ 1024)
theorem isSpaceM_ok (l : List Int) : isSpaceM l = true ↔ (1 ≤ l.length ∧ l.length ≤ 8) ∧ (∀ j, j < l.length → 2 ≤ l.getD j 0 ∧ l.getD j 0 ≤ 4) ∧ prodM l ≤ 1024 := by
  simp only [isSpaceM, Bool.and_eq_true, decide_eq_true_eq, all_getD, and_assoc]
theorem d_spec_l01N (l : List Int) (h8 : l.length ≤ 8) (h : ∀ i, i < l.length → 2 ≤ l.getD i 0 ∧ l.getD i 0 ≤ 4) :
    Den PA f_spec_l01N [.d (.agg [ints l])] [.any] (.d (di (prodM l))) := by
  refine den_go [] l_spec_l01N ?_
  simp -implicitDefEqProofs (maxSteps := 1000000) (disch := (first | omega | (simp only [go_sem] <;> omega) | fail)) only [go_sem, ints, bools, mat, c_spec_l01N]
  refine go_loop (fun (j : Nat) => ⟨[(1, .ref 0 0), (3, .d (di (prodM (l.take j)))), (4, .d (di j))], [some (.var [ints l])]⟩) (fun j => j ≤ l.length) (fun j => l.length - j) 0 ?_ ?_ ?_
  · simp -implicitDefEqProofs (maxSteps := 1000000) (disch := (first | omega | (simp only [go_sem] <;> omega) | fail)) only [go_sem, ints, bools, mat]; rfl
  · simp
  · rintro j hj J hJ
    have hb := prodM_small l (j := j) (by omega) hj (fun i hi => h i (by omega))
    have hb' := fun hj' => prodM_small l (j := j + 1) (by omega) hj' (fun i hi => h i (by omega))
    have hs := fun hj' => prodM_step l (j := j) hj'
    repeat' (first | simp -implicitDefEqProofs (maxSteps := 1000000) (disch := (first | omega | (simp only [go_sem] <;> omega) | fail)) only [go_sem, ints, bools, mat] | ((first | refine goIf_b (fun h => ?_) (fun h => ?_) | refine goG_b (fun h => ?_) (fun h => ?_) | refine goTG_b (fun h => ?_) (fun h => ?_) | refine goOG_b (fun h => ?_) (fun h => ?_)) <;> ((try simp only [Bool.not_eq_true', Bool.not_eq_false'] at h); (try simp only [h]); (try simp only [decide_eq_true_eq, decide_eq_false_iff_not, bne_iff_ne, bne_eq_false_iff_eq, beq_iff_eq, beq_eq_false_iff_ne, ne_eq, Int.not_lt, Int.not_le, Bool.and_eq_true, Bool.and_eq_false_iff, Bool.or_eq_true, Bool.or_eq_false_iff] at h))))
    · rename_i hlt
      have hlt : j < l.length := by omega
      have h1 := hb' (by omega)
      rw [hs hlt] at h1
      refine hJ (j + 1) (by omega) (by omega) _ ?_
      simp -implicitDefEqProofs (maxSteps := 1000000) (disch := (first | omega | (simp only [go_sem] <;> omega) | fail)) only [go_sem, ints, bools, mat]
      rw [hs hlt]; rfl
theorem d_spec_l01Is (l : List Int) (hl : l.length < 1048577) :
    Den PA f_spec_l01Is [.d (.agg [ints l])] [.any] (.d (db (isSpaceM l))) := by
  have e := isSpaceM_ok l
  refine den_go [] l_spec_l01Is ?_
  simp -implicitDefEqProofs (maxSteps := 1000000) (disch := (first | omega | (simp only [go_sem] <;> omega) | fail)) only [go_sem, ints, bools, mat, c_spec_l01Is]
  first | refine goC_call [.r, .r, .r] (d_spec_l01In l.length 1 8) ?_ | refine goOC_call [.r, .r, .r] (d_spec_l01In l.length 1 8) ?_
  repeat' (first | simp -implicitDefEqProofs (maxSteps := 1000000) (disch := (first | omega | (simp only [go_sem] <;> omega) | fail)) only [go_sem, ints, bools, mat] | ((first | refine goIf_b (fun h => ?_) (fun h => ?_) | refine goG_b (fun h => ?_) (fun h => ?_) | refine goTG_b (fun h => ?_) (fun h => ?_) | refine goOG_b (fun h => ?_) (fun h => ?_)) <;> ((try simp only [Bool.not_eq_true', Bool.not_eq_false'] at h); (try simp only [h]); (try simp only [decide_eq_true_eq, decide_eq_false_iff_not, bne_iff_ne, bne_eq_false_iff_eq, beq_iff_eq, beq_eq_false_iff_ne, ne_eq, Int.not_lt, Int.not_le, Bool.and_eq_true, Bool.and_eq_false_iff, Bool.or_eq_true, Bool.or_eq_false_iff] at h))))
  rotate_left
  · exact dbF fun h' => by have := (e.1 h').1; omega
  refine go_loop (fun (j : Nat) => ⟨[(1, .ref 0 0), (3, .d (di j))], [some (.var [ints l])]⟩) (fun j => j ≤ l.length ∧ ∀ i, i < j → 2 ≤ l.getD i 0 ∧ l.getD i 0 ≤ 4) (fun j => l.length - j) 0 ?_ ?_ ?_
  · simp -implicitDefEqProofs (maxSteps := 1000000) (disch := (first | omega | (simp only [go_sem] <;> omega) | fail)) only [go_sem, ints, bools, mat]; rfl
  · simp
  · rintro j ⟨hj, hi⟩ J hJ
    repeat' (first | simp -implicitDefEqProofs (maxSteps := 1000000) (disch := (first | omega | (simp only [go_sem] <;> omega) | fail)) only [go_sem, ints, bools, mat] | ((first | refine goIf_b (fun h => ?_) (fun h => ?_) | refine goG_b (fun h => ?_) (fun h => ?_) | refine goTG_b (fun h => ?_) (fun h => ?_) | refine goOG_b (fun h => ?_) (fun h => ?_)) <;> ((try simp only [Bool.not_eq_true', Bool.not_eq_false'] at h); (try simp only [h]); (try simp only [decide_eq_true_eq, decide_eq_false_iff_not, bne_iff_ne, bne_eq_false_iff_eq, beq_iff_eq, beq_eq_false_iff_ne, ne_eq, Int.not_lt, Int.not_le, Bool.and_eq_true, Bool.and_eq_false_iff, Bool.or_eq_true, Bool.or_eq_false_iff] at h))))
    · first | refine goC_call [.r, .r, .r] (d_spec_l01In (l.getD j 0) 2 4) ?_ | refine goOC_call [.r, .r, .r] (d_spec_l01In (l.getD j 0) 2 4) ?_
      repeat' (first | simp -implicitDefEqProofs (maxSteps := 1000000) (disch := (first | omega | (simp only [go_sem] <;> omega) | fail)) only [go_sem, ints, bools, mat] | ((first | refine goIf_b (fun h => ?_) (fun h => ?_) | refine goG_b (fun h => ?_) (fun h => ?_) | refine goTG_b (fun h => ?_) (fun h => ?_) | refine goOG_b (fun h => ?_) (fun h => ?_)) <;> ((try simp only [Bool.not_eq_true', Bool.not_eq_false'] at h); (try simp only [h]); (try simp only [decide_eq_true_eq, decide_eq_false_iff_not, bne_iff_ne, bne_eq_false_iff_eq, beq_iff_eq, beq_eq_false_iff_ne, ne_eq, Int.not_lt, Int.not_le, Bool.and_eq_true, Bool.and_eq_false_iff, Bool.or_eq_true, Bool.or_eq_false_iff] at h))))
      · refine hJ (j + 1) ⟨by omega, fun i hi' => ?_⟩ (by omega) _ (by simp -implicitDefEqProofs (maxSteps := 1000000) (disch := (first | omega | (simp only [go_sem] <;> omega) | fail)) only [go_sem, ints, bools, mat]; rfl)
        rcases Nat.lt_or_ge i j with h' | h'
        · exact hi i h'
        · have : i = j := by omega
          subst this; assumption
      · exact dbF fun h' => by have := (e.1 h').2.1 j (by omega); omega
    · have hj' : j = l.length := by omega
      subst hj'
      first | refine goC_call [.r] (d_spec_l01N l (by omega) hi) ?_ | refine goOC_call [.r] (d_spec_l01N l (by omega) hi) ?_
      repeat' (first | simp -implicitDefEqProofs (maxSteps := 1000000) (disch := (first | omega | (simp only [go_sem] <;> omega) | fail)) only [go_sem, ints, bools, mat] | ((first | refine goIf_b (fun h => ?_) (fun h => ?_) | refine goG_b (fun h => ?_) (fun h => ?_) | refine goTG_b (fun h => ?_) (fun h => ?_) | refine goOG_b (fun h => ?_) (fun h => ?_)) <;> ((try simp only [Bool.not_eq_true', Bool.not_eq_false'] at h); (try simp only [h]); (try simp only [decide_eq_true_eq, decide_eq_false_iff_not, bne_iff_ne, bne_eq_false_iff_eq, beq_iff_eq, beq_eq_false_iff_ne, ne_eq, Int.not_lt, Int.not_le, Bool.and_eq_true, Bool.and_eq_false_iff, Bool.or_eq_true, Bool.or_eq_false_iff] at h))))
      refine dbv ?_
      cases hm : isSpaceM l with
      | true => exact decide_eq_true (e.1 hm).2.2
      | false =>
        refine decide_eq_false fun hp => ?_
        have := e.2 ⟨by omega, hi, hp⟩
        rw [hm] at this; cases this
theorem d_impl_IsSpace (l : List Int) (hl : l.length < 1048577) :
    Den PA f_impl_IsSpace [.d (.agg [ints l])] [.any] (.d (db (isSpaceM l))) := by
  have e := isSpaceM_ok l
  refine den_go [] l_impl_IsSpace ?_
  repeat' (first | simp -implicitDefEqProofs (maxSteps := 1000000) (disch := (first | omega | (simp only [go_sem] <;> omega) | fail)) only [go_sem, ints, bools, mat, c_impl_IsSpace] | ((first | refine goIf_b (fun h => ?_) (fun h => ?_) | refine goG_b (fun h => ?_) (fun h => ?_) | refine goTG_b (fun h => ?_) (fun h => ?_) | refine goOG_b (fun h => ?_) (fun h => ?_)) <;> ((try simp only [Bool.not_eq_true', Bool.not_eq_false'] at h); (try simp only [h]); (try simp only [decide_eq_true_eq, decide_eq_false_iff_not, bne_iff_ne, bne_eq_false_iff_eq, beq_iff_eq, beq_eq_false_iff_ne, ne_eq, Int.not_lt, Int.not_le, Bool.and_eq_true, Bool.and_eq_false_iff, Bool.or_eq_true, Bool.or_eq_false_iff] at h))))
  · exact dbF fun h' => by have := (e.1 h').1; omega
  · refine go_loop (fun (j : Nat) => ⟨[(3, .d (di (prodM (l.take j)))), (17, .d (ints l)), (18, .d (di l.length)), (19, .d (di j))], []⟩) (fun j => j ≤ l.length ∧ ∀ i, i < j → 2 ≤ l.getD i 0 ∧ l.getD i 0 ≤ 4) (fun j => l.length - j) 0 ?_ ?_ ?_
    · simp -implicitDefEqProofs (maxSteps := 1000000) (disch := (first | omega | (simp only [go_sem] <;> omega) | fail)) only [go_sem, ints, bools, mat]; rfl
    · simp
    · rintro j ⟨hj, hi⟩ J hJ
      have hb := prodM_small l (j := j) (by omega) hj hi
      repeat' (first | simp -implicitDefEqProofs (maxSteps := 1000000) (disch := (first | omega | (simp only [go_sem] <;> omega) | fail)) only [go_sem, ints, bools, mat] | ((first | refine goIf_b (fun h => ?_) (fun h => ?_) | refine goG_b (fun h => ?_) (fun h => ?_) | refine goTG_b (fun h => ?_) (fun h => ?_) | refine goOG_b (fun h => ?_) (fun h => ?_)) <;> ((try simp only [Bool.not_eq_true', Bool.not_eq_false'] at h); (try simp only [h]); (try simp only [decide_eq_true_eq, decide_eq_false_iff_not, bne_iff_ne, bne_eq_false_iff_eq, beq_iff_eq, beq_eq_false_iff_ne, ne_eq, Int.not_lt, Int.not_le, Bool.and_eq_true, Bool.and_eq_false_iff, Bool.or_eq_true, Bool.or_eq_false_iff] at h))))
      · exact dbF fun h' => by have := (e.1 h').2.1 j (by omega); omega
      · have hi' : ∀ i, i < j + 1 → 2 ≤ l.getD i 0 ∧ l.getD i 0 ≤ 4 := fun i hi' => by
          rcases Nat.lt_or_ge i j with h' | h'
          · exact hi i h'
          · have : i = j := by omega
            subst this; exact ⟨by assumption, by assumption⟩
        have hb' := prodM_small l (j := j + 1) (by omega) (by omega) hi'
        have hs := prodM_step l (j := j) (by omega)
        rw [hs] at hb'
        refine hJ (j + 1) ⟨by omega, hi'⟩ (by omega) _ ?_
        simp -implicitDefEqProofs (maxSteps := 1000000) (disch := (first | omega | (simp only [go_sem] <;> omega) | fail)) only [go_sem, ints, bools, mat]
        rw [hs]; rfl
      · exact dbF fun h' => by have := (e.1 h').2.1 j (by omega); omega
      · have hj' : j = l.length := by omega
        subst hj'
        refine dbv ?_
        cases hm : isSpaceM l with
        | true => exact decide_eq_true (e.1 hm).2.2
        | false =>
          refine decide_eq_false fun hp => ?_
          have := e.2 ⟨by omega, hi, hp⟩
          rw [hm] at this; cases this
  · exact dbF fun h' => by have := (e.1 h').1; omega
theorem d_slices_IndexFunc (l : List Int) (p : Int → Bool) (g : List D → Value → Prop) (hg : ∀ n, g [di n] (.bool (p n))) (hl : l.length < 1048577) :
    Den PA f_slices_IndexFunc___int64_int64_ [.d (ints l), .pfn g] [.any, .any] (.d (di (match l.findIdx? p with | some j => j | none => -1))) := by
  refine den_go [] l_slices_IndexFunc___int64_int64_ ?_
  repeat' (first | simp -implicitDefEqProofs (maxSteps := 1000000) (disch := (first | omega | (simp only [go_sem] <;> omega) | fail)) only [go_sem, ints, bools, mat, c_slices_IndexFunc___int64_int64_] | ((first | refine goIf_b (fun h => ?_) (fun h => ?_) | refine goG_b (fun h => ?_) (fun h => ?_) | refine goTG_b (fun h => ?_) (fun h => ?_) | refine goOG_b (fun h => ?_) (fun h => ?_)) <;> ((try simp only [Bool.not_eq_true', Bool.not_eq_false'] at h); (try simp only [h]); (try simp only [decide_eq_true_eq, decide_eq_false_iff_not, bne_iff_ne, bne_eq_false_iff_eq, beq_iff_eq, beq_eq_false_iff_ne, ne_eq, Int.not_lt, Int.not_le, Bool.and_eq_true, Bool.and_eq_false_iff, Bool.or_eq_true, Bool.or_eq_false_iff] at h))))
  refine go_loop (fun (j : Nat) => ⟨[(0, .d (ints l)), (1, .pfn g), (7, .d (di l.length)), (8, .d (di j))], []⟩) (fun j => j ≤ l.length ∧ ∀ i, i < j → p (l.getD i 0) = false) (fun j => l.length - j) 0 ?_ ?_ ?_
  · simp -implicitDefEqProofs (maxSteps := 1000000) (disch := (first | omega | (simp only [go_sem] <;> omega) | fail)) only [go_sem, ints, bools, mat]; rfl
  · simp
  · rintro j ⟨hj, hi⟩ J hJ
    repeat' (first | simp -implicitDefEqProofs (maxSteps := 1000000) (disch := (first | omega | (simp only [go_sem] <;> omega) | fail)) only [go_sem, ints, bools, mat] | ((first | refine goIf_b (fun h => ?_) (fun h => ?_) | refine goG_b (fun h => ?_) (fun h => ?_) | refine goTG_b (fun h => ?_) (fun h => ?_) | refine goOG_b (fun h => ?_) (fun h => ?_)) <;> ((try simp only [Bool.not_eq_true', Bool.not_eq_false'] at h); (try simp only [h]); (try simp only [decide_eq_true_eq, decide_eq_false_iff_not, bne_iff_ne, bne_eq_false_iff_eq, beq_iff_eq, beq_eq_false_iff_ne, ne_eq, Int.not_lt, Int.not_le, Bool.and_eq_true, Bool.and_eq_false_iff, Bool.or_eq_true, Bool.or_eq_false_iff] at h))))
    · refine goV_pfn [di (l.getD j 0)] (.bool (p (l.getD j 0))) (by simp -implicitDefEqProofs (maxSteps := 1000000) (disch := (first | omega | (simp only [go_sem] <;> omega) | fail)) only [go_sem, ints, bools, mat]) rfl (hg _) ?_
      repeat' (first | simp -implicitDefEqProofs (maxSteps := 1000000) (disch := (first | omega | (simp only [go_sem] <;> omega) | fail)) only [go_sem, ints, bools, mat] | ((first | refine goIf_b (fun h => ?_) (fun h => ?_) | refine goG_b (fun h => ?_) (fun h => ?_) | refine goTG_b (fun h => ?_) (fun h => ?_) | refine goOG_b (fun h => ?_) (fun h => ?_)) <;> ((try simp only [Bool.not_eq_true', Bool.not_eq_false'] at h); (try simp only [h]); (try simp only [decide_eq_true_eq, decide_eq_false_iff_not, bne_iff_ne, bne_eq_false_iff_eq, beq_iff_eq, beq_eq_false_iff_ne, ne_eq, Int.not_lt, Int.not_le, Bool.and_eq_true, Bool.and_eq_false_iff, Bool.or_eq_true, Bool.or_eq_false_iff] at h))))
      · rw [findIdx_at (by omega) h hi]
      · refine hJ (j + 1) ⟨by omega, fun i hi' => ?_⟩ (by omega) _ (by simp -implicitDefEqProofs (maxSteps := 1000000) (disch := (first | omega | (simp only [go_sem] <;> omega) | fail)) only [go_sem, ints, bools, mat]; rfl)
        rcases Nat.lt_or_ge i j with h' | h'
        · exact hi i h'
        · have : i = j := by omega
          subst this; assumption
    · rw [findIdx_no fun i hi' => hi i (by omega)]
theorem d_slices_ContainsFunc (l : List Int) (p : Int → Bool) (g : List D → Value → Prop) (hg : ∀ n, g [di n] (.bool (p n))) (hl : l.length < 1048577) :
    Den PA f_slices_ContainsFunc___int64_int64_ [.d (ints l), .pfn g] [.any, .any] (.d (db (l.any p))) := by
  refine den_go [] l_slices_ContainsFunc___int64_int64_ ?_
  repeat' (first | simp -implicitDefEqProofs (maxSteps := 1000000) (disch := (first | omega | (simp only [go_sem] <;> omega) | fail)) only [go_sem, ints, bools, mat, c_slices_ContainsFunc___int64_int64_] | ((first | refine goIf_b (fun h => ?_) (fun h => ?_) | refine goG_b (fun h => ?_) (fun h => ?_) | refine goTG_b (fun h => ?_) (fun h => ?_) | refine goOG_b (fun h => ?_) (fun h => ?_)) <;> ((try simp only [Bool.not_eq_true', Bool.not_eq_false'] at h); (try simp only [h]); (try simp only [decide_eq_true_eq, decide_eq_false_iff_not, bne_iff_ne, bne_eq_false_iff_eq, beq_iff_eq, beq_eq_false_iff_ne, ne_eq, Int.not_lt, Int.not_le, Bool.and_eq_true, Bool.and_eq_false_iff, Bool.or_eq_true, Bool.or_eq_false_iff] at h))))
  first | refine goC_of [.r, .g g] (d_slices_IndexFunc l p g hg hl) (by first | (simp -implicitDefEqProofs (maxSteps := 1000000) (disch := (first | omega | (simp only [go_sem] <;> omega) | fail)) only [go_sem, ints, bools, mat] <;> rfl) | rfl) (by first | (simp -implicitDefEqProofs (maxSteps := 1000000) (disch := (first | omega | (simp only [go_sem] <;> omega) | fail)) only [go_sem, ints, bools, mat] <;> rfl) | rfl) (⟨trivial, fun _ _ h => h, trivial⟩) (by first | (simp -implicitDefEqProofs (maxSteps := 1000000) (disch := (first | omega | (simp only [go_sem] <;> omega) | fail)) only [go_sem, ints, bools, mat] <;> rfl) | rfl) ?_ | refine goOC_of [.r, .g g] (d_slices_IndexFunc l p g hg hl) (by first | (simp -implicitDefEqProofs (maxSteps := 1000000) (disch := (first | omega | (simp only [go_sem] <;> omega) | fail)) only [go_sem, ints, bools, mat] <;> rfl) | rfl) (by first | (simp -implicitDefEqProofs (maxSteps := 1000000) (disch := (first | omega | (simp only [go_sem] <;> omega) | fail)) only [go_sem, ints, bools, mat] <;> rfl) | rfl) (by first | (simp -implicitDefEqProofs (maxSteps := 1000000) (disch := (first | omega | (simp only [go_sem] <;> omega) | fail)) only [go_sem, ints, bools, mat] <;> rfl) | rfl) (⟨trivial, fun _ _ h => h, trivial⟩) (by first | (simp -implicitDefEqProofs (maxSteps := 1000000) (disch := (first | omega | (simp only [go_sem] <;> omega) | fail)) only [go_sem, ints, bools, mat] <;> rfl) | rfl) ?_
  repeat' (first | simp -implicitDefEqProofs (maxSteps := 1000000) (disch := (first | omega | (simp only [go_sem] <;> omega) | fail)) only [go_sem, ints, bools, mat] | ((first | refine goIf_b (fun h => ?_) (fun h => ?_) | refine goG_b (fun h => ?_) (fun h => ?_) | refine goTG_b (fun h => ?_) (fun h => ?_) | refine goOG_b (fun h => ?_) (fun h => ?_)) <;> ((try simp only [Bool.not_eq_true', Bool.not_eq_false'] at h); (try simp only [h]); (try simp only [decide_eq_true_eq, decide_eq_false_iff_not, bne_iff_ne, bne_eq_false_iff_eq, beq_iff_eq, beq_eq_false_iff_ne, ne_eq, Int.not_lt, Int.not_le, Bool.and_eq_true, Bool.and_eq_false_iff, Bool.or_eq_true, Bool.or_eq_false_iff] at h))))
  refine dbv ?_
  cases h : l.findIdx? p with
  | none =>
    rw [List.findIdx?_eq_none_iff] at h
    symm
    simpa using h
  | some j =>
    obtain ⟨hj, h1, _⟩ := List.findIdx?_eq_some_iff_getElem.1 h
    symm
    simpa using ⟨l[j], List.getElem_mem hj, h1⟩
theorem isSpaceM_q {l : List Int} (h : isSpaceM l = true) : ∀ j, j < l.length → 2 ≤ l.getD j 0 ∧ l.getD j 0 ≤ 4 := ((isSpaceM_ok l).1 h).2.1
theorem isSpaceM_n {l : List Int} (h : isSpaceM l = true) : 1 ≤ l.length ∧ l.length ≤ 8 := ((isSpaceM_ok l).1 h).1
abbrev nil : D := .v (.slice none 0 0)
def markL (n : Nat) (k : Int) : List Int := (List.range n).map fun (i : Nat) => k + (i : Int)
@[go_sem] theorem markL_len (n : Nat) (k : Int) : (markL n k).length = n := by simp [markL]
@[go_sem] theorem take_markL (n : Nat) (k : Int) : (markL n k).take n = markL n k := List.take_of_length_le (by rw [markL_len]; exact Nat.le_refl _)
@[go_sem] theorem cast_succ_sub (i : Nat) : ((i + 1 : Nat) : Int) - 1 = (i : Int) := by omega
@[go_sem] theorem cast_zero0 : ((0 : Nat) : Int) = 0 := rfl
theorem foldl_mul (l : List Int) : ∀ a : Int, l.foldl (· * ·) a = a * l.foldl (· * ·) 1 := by
  induction l with
  | nil => intro a; simp
  | cons q r ih => intro a; simp only [List.foldl_cons]; rw [ih (a * q), ih (1 * q), Int.one_mul, Int.mul_assoc]
theorem prodM_cons (q : Int) (r : List Int) : prodM (q :: r) = q * prodM r := by
  simp only [prodM, List.foldl_cons]; rw [foldl_mul, Int.one_mul]
theorem prodM_nil : prodM [] = 1 := rfl
/-- The digits of a word, the first one first. -/
def digM : List Int → Int → List Int
  | [], _ => []
  | q :: r, w => (w / prodM r) % q :: digM r w
theorem digM_len : ∀ (l : List Int) (w : Int), (digM l w).length = l.length
  | [], _ => rfl
  | _ :: r, w => by simp [digM, digM_len r w]
theorem drop_cons1 {l : List Int} {i : Nat} (h : i < l.length) : l.drop i = l.getD i 0 :: l.drop (i + 1) := by
  rw [List.drop_eq_getElem_cons h]; simp [h]
theorem digM_drop {l : List Int} (w : Int) {i : Nat} (h : i < l.length) : digM (l.drop i) w = (w / prodM (l.drop (i + 1))) % l.getD i 0 :: digM (l.drop (i + 1)) w := by
  rw [drop_cons1 h]; rfl
theorem prodM_drop {l : List Int} {i : Nat} (h : i < l.length) : prodM (l.drop i) = l.getD i 0 * prodM (l.drop (i + 1)) := by
  rw [drop_cons1 h, prodM_cons]
/-- All sizes are at least 2. -/
def szs (l : List Int) : Prop := ∀ j, j < l.length → 2 ≤ l.getD j 0 ∧ l.getD j 0 ≤ 4
theorem szs_tail {q : Int} {r : List Int} (h : szs (q :: r)) : szs r := fun j hj => by simpa using h (j + 1) (by simpa using hj)
theorem prodM_pos : ∀ {l : List Int}, szs l → 1 ≤ prodM l
  | [], _ => by simp [prodM]
  | q :: r, h => by
    have h1 := prodM_pos (szs_tail h)
    have h2 := h 0 (by simp)
    simp at h2
    rw [prodM_cons]
    have := Int.mul_le_mul (show (1 : Int) ≤ q by omega) h1 (by omega) (by omega)
    simpa using this
theorem szs_drop {l : List Int} (h : szs l) (k : Nat) : szs (l.drop k) := fun j hj => by
  have := h (k + j) (by simp at hj; omega)
  simpa [List.getD_eq_getElem?_getD, List.getElem?_drop] using this
theorem div_le_self {w p : Int} (h : 0 ≤ w) (hp : 1 ≤ p) : 0 ≤ w / p ∧ w / p ≤ w := by
  refine ⟨Int.ediv_nonneg h (by omega), Int.ediv_le_self _ h⟩
theorem div_step {l : List Int} {w : Int} {i : Nat} (hs : szs l) (h : i < l.length) : w / prodM (l.drop (i + 1)) / l.getD i 0 = w / prodM (l.drop i) := by
  rw [prodM_drop h, Int.mul_comm, Int.ediv_ediv_of_nonneg (by have := prodM_pos (szs_drop hs (i + 1)); omega)]
theorem mod_bnd {x q : Int} (h : 2 ≤ q ∧ q ≤ 4) : 0 ≤ x % q ∧ x % q < q ∧ x % q < 4 := by
  have h1 := Int.emod_nonneg x (show q ≠ 0 by omega)
  have h2 := Int.emod_lt_of_pos x (show 0 < q by omega)
  omega
def pad8 (ds : List Int) : List Int := (ds ++ List.replicate 8 0).take 8
@[go_sem] theorem pad8_len (ds : List Int) : (pad8 ds).length = 8 := by simp [pad8]
theorem pad8_eq {ds : List Int} (h : ds.length ≤ 8) : pad8 ds = ds ++ List.replicate (8 - ds.length) 0 := by
  rw [pad8, List.take_append, List.take_of_length_le h, List.take_replicate]
  congr 2; omega
abbrev dig (ds : List Int) : D := .agg ((pad8 ds).map dy)
theorem set_rep {i : Nat} (v : Int) (r : List Int) : (List.replicate (i + 1) 0 ++ r).set i v = List.replicate i 0 ++ v :: r := by
  rw [List.replicate_succ', List.append_assoc, List.set_append_right _ _ (by simp)]
  simp
theorem isSpaceM_szs {l : List Int} (h : isSpaceM l = true) : szs l := isSpaceM_q h
theorem isSpaceM_prod {l : List Int} (h : isSpaceM l = true) : prodM l ≤ 1024 := ((isSpaceM_ok l).1 h).2.2
theorem d_impl_count (l : List Int) (hs : isSpaceM l = true) : Den PA f_impl_count [.d (.agg [ints l])] [.any] (.d (di (prodM l))) := by
  have hn := isSpaceM_n hs
  refine den_go [] l_impl_count ?_
  repeat' (first | simp -implicitDefEqProofs (maxSteps := 1000000) (disch := (first | omega | (simp only [go_sem] <;> omega) | fail)) only [go_sem, ints, bools, mat, c_impl_count] | ((first | refine goIf_b (fun h => ?_) (fun h => ?_) | refine goG_b (fun h => ?_) (fun h => ?_) | refine goTG_b (fun h => ?_) (fun h => ?_) | refine goOG_b (fun h => ?_) (fun h => ?_)) <;> ((try simp only [Bool.not_eq_true', Bool.not_eq_false'] at h); (try simp only [h]); (try simp only [decide_eq_true_eq, decide_eq_false_iff_not, bne_iff_ne, bne_eq_false_iff_eq, beq_iff_eq, beq_eq_false_iff_ne, ne_eq, Int.not_lt, Int.not_le, Bool.and_eq_true, Bool.and_eq_false_iff, Bool.or_eq_true, Bool.or_eq_false_iff] at h))))
  refine go_loop (fun (j : Nat) => ⟨[(3, .d (di (prodM (l.take j)))), (7, .d (ints l)), (8, .d (di l.length)), (9, .d (di j))], []⟩) (fun j => j ≤ l.length) (fun j => l.length - j) 0 ?_ ?_ ?_
  · (simp -implicitDefEqProofs (maxSteps := 1000000) (disch := (first | omega | (simp only [go_sem] <;> omega) | fail)) only [go_sem, ints, bools, mat] <;> rfl)
  · simp
  · rintro j hj J hJ
    have hb := prodM_small l (j := j) (by omega) hj (fun i hi => isSpaceM_q hs i (by omega))
    have hb' := fun hj' => prodM_small l (j := j + 1) (by omega) hj' (fun i hi => isSpaceM_q hs i (by omega))
    have hst := fun hj' => prodM_step l (j := j) hj'
    repeat' (first | simp -implicitDefEqProofs (maxSteps := 1000000) (disch := (first | omega | (simp only [go_sem] <;> omega) | fail)) only [go_sem, ints, bools, mat] | ((first | refine goIf_b (fun h => ?_) (fun h => ?_) | refine goG_b (fun h => ?_) (fun h => ?_) | refine goTG_b (fun h => ?_) (fun h => ?_) | refine goOG_b (fun h => ?_) (fun h => ?_)) <;> ((try simp only [Bool.not_eq_true', Bool.not_eq_false'] at h); (try simp only [h]); (try simp only [decide_eq_true_eq, decide_eq_false_iff_not, bne_iff_ne, bne_eq_false_iff_eq, beq_iff_eq, beq_eq_false_iff_ne, ne_eq, Int.not_lt, Int.not_le, Bool.and_eq_true, Bool.and_eq_false_iff, Bool.or_eq_true, Bool.or_eq_false_iff] at h))))
    · have h1 := hb' (by omega)
      rw [hst (by omega)] at h1
      refine hJ (j + 1) (by omega) (by omega) _ ?_
      simp -implicitDefEqProofs (maxSteps := 1000000) (disch := (first | omega | (simp only [go_sem] <;> omega) | fail)) only [go_sem, ints, bools, mat]
      rw [hst (by omega)]; rfl
def inW (l : List Int) (w : Int) : Bool := decide (0 ≤ w) && decide (w < prodM l)
def areW (l ws : List Int) : Bool := ws.all (inW l)
theorem areW_ok (l ws : List Int) : areW l ws = true ↔ ∀ j, j < ws.length → 0 ≤ ws.getD j 0 ∧ ws.getD j 0 < prodM l := by
  simp only [areW, all_getD, inW, Bool.and_eq_true, decide_eq_true_eq]
theorem d_impl_areWords (l : List Int) (hs : isSpaceM l = true) (x : D) (ws : List Int) (hx : IsInts x ws) (hw : ws.length < 1048577) : Den PA f_impl_areWords [.d (.agg [ints l]), .d x] [.any, .any] (.d (db (areW l ws))) := by
  have e := areW_ok l ws
  refine den_go [] l_impl_areWords ?_
  simp -implicitDefEqProofs (maxSteps := 1000000) (disch := (first | omega | (simp only [go_sem] <;> omega) | fail)) only [go_sem, ints, bools, mat, c_impl_areWords]
  first | refine goC_call [.r] (d_impl_count l hs) ?_ | refine goOC_call [.r] (d_impl_count l hs) ?_
  rcases hx with rfl | ⟨rfl, rfl⟩
  · repeat' (first | simp -implicitDefEqProofs (maxSteps := 1000000) (disch := (first | omega | (simp only [go_sem] <;> omega) | fail)) only [go_sem, ints, bools, mat] | ((first | refine goIf_b (fun h => ?_) (fun h => ?_) | refine goG_b (fun h => ?_) (fun h => ?_) | refine goTG_b (fun h => ?_) (fun h => ?_) | refine goOG_b (fun h => ?_) (fun h => ?_)) <;> ((try simp only [Bool.not_eq_true', Bool.not_eq_false'] at h); (try simp only [h]); (try simp only [decide_eq_true_eq, decide_eq_false_iff_not, bne_iff_ne, bne_eq_false_iff_eq, beq_iff_eq, beq_eq_false_iff_ne, ne_eq, Int.not_lt, Int.not_le, Bool.and_eq_true, Bool.and_eq_false_iff, Bool.or_eq_true, Bool.or_eq_false_iff] at h))))
    refine go_loop (fun (j : Nat) => ⟨[(5, .d (di (prodM l))), (10, .d (ints ws)), (11, .d (di ws.length)), (12, .d (di j))], []⟩) (fun j => j ≤ ws.length ∧ ∀ i, i < j → 0 ≤ ws.getD i 0 ∧ ws.getD i 0 < prodM l) (fun j => ws.length - j) 0 ?_ ?_ ?_
    · (simp -implicitDefEqProofs (maxSteps := 1000000) (disch := (first | omega | (simp only [go_sem] <;> omega) | fail)) only [go_sem, ints, bools, mat] <;> rfl)
    · simp
    · rintro j ⟨hj, hi⟩ J hJ
      repeat' (first | simp -implicitDefEqProofs (maxSteps := 1000000) (disch := (first | omega | (simp only [go_sem] <;> omega) | fail)) only [go_sem, ints, bools, mat] | ((first | refine goIf_b (fun h => ?_) (fun h => ?_) | refine goG_b (fun h => ?_) (fun h => ?_) | refine goTG_b (fun h => ?_) (fun h => ?_) | refine goOG_b (fun h => ?_) (fun h => ?_)) <;> ((try simp only [Bool.not_eq_true', Bool.not_eq_false'] at h); (try simp only [h]); (try simp only [decide_eq_true_eq, decide_eq_false_iff_not, bne_iff_ne, bne_eq_false_iff_eq, beq_iff_eq, beq_eq_false_iff_ne, ne_eq, Int.not_lt, Int.not_le, Bool.and_eq_true, Bool.and_eq_false_iff, Bool.or_eq_true, Bool.or_eq_false_iff] at h))))
      · exact dbF fun h' => by have := e.1 h' j (by omega); omega
      · refine hJ (j + 1) ⟨by omega, all_ext hi (by omega)⟩ (by omega) _ (by (simp -implicitDefEqProofs (maxSteps := 1000000) (disch := (first | omega | (simp only [go_sem] <;> omega) | fail)) only [go_sem, ints, bools, mat] <;> rfl))
      · exact dbF fun h' => by have := e.1 h' j (by omega); omega
      · exact dbT (e.2 fun i hi' => hi i (by omega))
  · repeat' (first | simp -implicitDefEqProofs (maxSteps := 1000000) (disch := (first | omega | (simp only [go_sem] <;> omega) | fail)) only [go_sem, ints, bools, mat] | ((first | refine goIf_b (fun h => ?_) (fun h => ?_) | refine goG_b (fun h => ?_) (fun h => ?_) | refine goTG_b (fun h => ?_) (fun h => ?_) | refine goOG_b (fun h => ?_) (fun h => ?_)) <;> ((try simp only [Bool.not_eq_true', Bool.not_eq_false'] at h); (try simp only [h]); (try simp only [decide_eq_true_eq, decide_eq_false_iff_not, bne_iff_ne, bne_eq_false_iff_eq, beq_iff_eq, beq_eq_false_iff_ne, ne_eq, Int.not_lt, Int.not_le, Bool.and_eq_true, Bool.and_eq_false_iff, Bool.or_eq_true, Bool.or_eq_false_iff] at h))))
    refine go_loop (fun (_ : Unit) => ⟨[(5, .d (di (prodM l))), (10, .d nil), (11, .d (di 0)), (12, .d (di 0))], []⟩) (fun _ => True) (fun _ => 0) () ?_ trivial ?_
    · (simp -implicitDefEqProofs (maxSteps := 1000000) (disch := (first | omega | (simp only [go_sem] <;> omega) | fail)) only [go_sem, ints, bools, mat] <;> rfl)
    · intro _ _ J _
      repeat' (first | simp -implicitDefEqProofs (maxSteps := 1000000) (disch := (first | omega | (simp only [go_sem] <;> omega) | fail)) only [go_sem, ints, bools, mat] | ((first | refine goIf_b (fun h => ?_) (fun h => ?_) | refine goG_b (fun h => ?_) (fun h => ?_) | refine goTG_b (fun h => ?_) (fun h => ?_) | refine goOG_b (fun h => ?_) (fun h => ?_)) <;> ((try simp only [Bool.not_eq_true', Bool.not_eq_false'] at h); (try simp only [h]); (try simp only [decide_eq_true_eq, decide_eq_false_iff_not, bne_iff_ne, bne_eq_false_iff_eq, beq_iff_eq, beq_eq_false_iff_ne, ne_eq, Int.not_lt, Int.not_le, Bool.and_eq_true, Bool.and_eq_false_iff, Bool.or_eq_true, Bool.or_eq_false_iff] at h))))
      exact dbT rfl
abbrev wcM (l ws : List Int) : Int := if isSpaceM l then (if areW l ws then 0 else 2) else 1
theorem d_impl_wordCode (l : List Int) (hl : l.length < 1048577) (x : D) (ws : List Int) (hx : IsInts x ws) (hw : ws.length < 1048577) : Den PA f_impl_wordCode [.d (.agg [ints l]), .d x] [.any, .any] (.d (di (wcM l ws))) := by
  refine den_go [] l_impl_wordCode ?_
  simp -implicitDefEqProofs (maxSteps := 1000000) (disch := (first | omega | (simp only [go_sem] <;> omega) | fail)) only [go_sem, ints, bools, mat, c_impl_wordCode, wcM]
  first | refine goC_call [.r] (d_impl_IsSpace l hl) ?_ | refine goOC_call [.r] (d_impl_IsSpace l hl) ?_
  repeat' (first | simp -implicitDefEqProofs (maxSteps := 1000000) (disch := (first | omega | (simp only [go_sem] <;> omega) | fail)) only [go_sem, ints, bools, mat] | ((first | refine goIf_b (fun h => ?_) (fun h => ?_) | refine goG_b (fun h => ?_) (fun h => ?_) | refine goTG_b (fun h => ?_) (fun h => ?_) | refine goOG_b (fun h => ?_) (fun h => ?_)) <;> ((try simp only [Bool.not_eq_true', Bool.not_eq_false'] at h); (try simp only [h]); (try simp only [decide_eq_true_eq, decide_eq_false_iff_not, bne_iff_ne, bne_eq_false_iff_eq, beq_iff_eq, beq_eq_false_iff_ne, ne_eq, Int.not_lt, Int.not_le, Bool.and_eq_true, Bool.and_eq_false_iff, Bool.or_eq_true, Bool.or_eq_false_iff] at h))))
  first | refine goC_call [.r, .r] (d_impl_areWords l h x ws hx hw) ?_ | refine goOC_call [.r, .r] (d_impl_areWords l h x ws hx hw) ?_
  repeat' (first | simp -implicitDefEqProofs (maxSteps := 1000000) (disch := (first | omega | (simp only [go_sem] <;> omega) | fail)) only [go_sem, ints, bools, mat] | ((first | refine goIf_b (fun h => ?_) (fun h => ?_) | refine goG_b (fun h => ?_) (fun h => ?_) | refine goTG_b (fun h => ?_) (fun h => ?_) | refine goOG_b (fun h => ?_) (fun h => ?_)) <;> ((try simp only [Bool.not_eq_true', Bool.not_eq_false'] at h); (try simp only [h]); (try simp only [decide_eq_true_eq, decide_eq_false_iff_not, bne_iff_ne, bne_eq_false_iff_eq, beq_iff_eq, beq_eq_false_iff_ne, ne_eq, Int.not_lt, Int.not_le, Bool.and_eq_true, Bool.and_eq_false_iff, Bool.or_eq_true, Bool.or_eq_false_iff] at h))))
theorem d_impl_digitsOf (l : List Int) (hs : isSpaceM l = true) (w : Int) (hw : 0 ≤ w) (hw2 : w < 1000000000000) : Den PA f_impl_digitsOf [.d (.agg [ints l]), .d (di w)] [.any, .any] (.d (dig (digM l w))) := by
  have hn := isSpaceM_n hs
  have hz := isSpaceM_szs hs
  refine den_go [] l_impl_digitsOf ?_
  repeat' (first | simp -implicitDefEqProofs (maxSteps := 1000000) (disch := (first | omega | (simp only [go_sem] <;> omega) | fail)) only [go_sem, ints, bools, mat, c_impl_digitsOf] | ((first | refine goIf_b (fun h => ?_) (fun h => ?_) | refine goG_b (fun h => ?_) (fun h => ?_) | refine goTG_b (fun h => ?_) (fun h => ?_) | refine goOG_b (fun h => ?_) (fun h => ?_)) <;> ((try simp only [Bool.not_eq_true', Bool.not_eq_false'] at h); (try simp only [h]); (try simp only [decide_eq_true_eq, decide_eq_false_iff_not, bne_iff_ne, bne_eq_false_iff_eq, beq_iff_eq, beq_eq_false_iff_ne, ne_eq, Int.not_lt, Int.not_le, Bool.and_eq_true, Bool.and_eq_false_iff, Bool.or_eq_true, Bool.or_eq_false_iff] at h))))
  refine go_loop (fun (k : Nat) => ⟨[(1, .d (di (w / prodM (l.drop k)))), (2, .ref 0 0), (4, .ref 1 0), (5, .ref 2 0), (6, .d (di ((k : Int) - 1)))], [some (.var [ints l]), some (.var [dy 0, dy 0, dy 0, dy 0, dy 0, dy 0, dy 0, dy 0]), some (.var ((List.replicate k 0 ++ (digM (l.drop k) w ++ List.replicate (8 - l.length) 0)).map dy))]⟩) (fun k => k ≤ l.length) (fun k => k) l.length ?_ ?_ ?_
  · simp -implicitDefEqProofs (maxSteps := 1000000) (disch := (first | omega | (simp only [go_sem] <;> omega) | fail)) only [go_sem, ints, bools, mat]
    have e1 : l.drop l.length = [] := by simp
    have e2 : List.replicate l.length (0 : Int) ++ List.replicate (8 - l.length) 0 = List.replicate 8 0 := by
      rw [List.replicate_append_replicate]; congr 1; omega
    rw [e1, digM, List.nil_append, e2, prodM_nil, Int.ediv_one]; rfl
  · simp
  · intro k hk J hJ
    rcases k with _ | i
    · have hdl := digM_len l w
      repeat' (first | simp -implicitDefEqProofs (maxSteps := 1000000) (disch := (first | omega | (simp only [go_sem] <;> omega) | fail)) only [go_sem, ints, bools, mat] | ((first | refine goIf_b (fun h => ?_) (fun h => ?_) | refine goG_b (fun h => ?_) (fun h => ?_) | refine goTG_b (fun h => ?_) (fun h => ?_) | refine goOG_b (fun h => ?_) (fun h => ?_)) <;> ((try simp only [Bool.not_eq_true', Bool.not_eq_false'] at h); (try simp only [h]); (try simp only [decide_eq_true_eq, decide_eq_false_iff_not, bne_iff_ne, bne_eq_false_iff_eq, beq_iff_eq, beq_eq_false_iff_ne, ne_eq, Int.not_lt, Int.not_le, Bool.and_eq_true, Bool.and_eq_false_iff, Bool.or_eq_true, Bool.or_eq_false_iff] at h)) <;> (try (exfalso; omega))))
      simp [dig, pad8_eq (ds := digM l w) (by rw [digM_len]; omega), digM_len]
    · have hq := hz i (by omega)
      have hp := prodM_pos (szs_drop hz (i + 1))
      have hw' := div_le_self hw hp
      have hm := mod_bnd (x := w / prodM (l.drop (i + 1))) hq
      have hd := div_step (w := w) hz (i := i) (by omega)
      have hp' := prodM_pos (szs_drop hz i)
      have hw'' := div_le_self hw hp'
      have hlen : (List.replicate (i + 1) (0 : Int) ++ (digM (l.drop (i + 1)) w ++ List.replicate (8 - l.length) 0)).length = 8 := by simp [digM_len]; omega
      rw [← hd] at hw''
      repeat' (first | simp -implicitDefEqProofs (maxSteps := 1000000) (disch := (first | omega | (simp only [go_sem] <;> omega) | fail)) only [go_sem, ints, bools, mat] | ((first | refine goIf_b (fun h => ?_) (fun h => ?_) | refine goG_b (fun h => ?_) (fun h => ?_) | refine goTG_b (fun h => ?_) (fun h => ?_) | refine goOG_b (fun h => ?_) (fun h => ?_)) <;> ((try simp only [Bool.not_eq_true', Bool.not_eq_false'] at h); (try simp only [h]); (try simp only [decide_eq_true_eq, decide_eq_false_iff_not, bne_iff_ne, bne_eq_false_iff_eq, beq_iff_eq, beq_eq_false_iff_ne, ne_eq, Int.not_lt, Int.not_le, Bool.and_eq_true, Bool.and_eq_false_iff, Bool.or_eq_true, Bool.or_eq_false_iff] at h)) <;> (try (exfalso; omega))))
      refine hJ i (by omega) (by omega) _ ?_
      simp -implicitDefEqProofs (maxSteps := 1000000) (disch := (first | omega | (simp only [go_sem] <;> omega) | fail)) only [go_sem, ints, bools, mat]
      rw [set_rep, hd, digM_drop w (i := i) (by omega)]; rfl
theorem d_spec_l01Digits (l : List Int) (hs : isSpaceM l = true) (w : Int) (hw : 0 ≤ w) (hw2 : w < 1000000000000) : Den PA f_spec_l01Digits [.d (.agg [ints l]), .d (di w)] [.any, .any] (.own 1 ((digM l w).map di)) := by
  have hn := isSpaceM_n hs
  have hz := isSpaceM_szs hs
  refine den_go [] l_spec_l01Digits ?_
  repeat' (first | simp -implicitDefEqProofs (maxSteps := 1000000) (disch := (first | omega | (simp only [go_sem] <;> omega) | fail)) only [go_sem, ints, bools, mat, c_spec_l01Digits] | ((first | refine goIf_b (fun h => ?_) (fun h => ?_) | refine goG_b (fun h => ?_) (fun h => ?_) | refine goTG_b (fun h => ?_) (fun h => ?_) | refine goOG_b (fun h => ?_) (fun h => ?_)) <;> ((try simp only [Bool.not_eq_true', Bool.not_eq_false'] at h); (try simp only [h]); (try simp only [decide_eq_true_eq, decide_eq_false_iff_not, bne_iff_ne, bne_eq_false_iff_eq, beq_iff_eq, beq_eq_false_iff_ne, ne_eq, Int.not_lt, Int.not_le, Bool.and_eq_true, Bool.and_eq_false_iff, Bool.or_eq_true, Bool.or_eq_false_iff] at h))))
  refine go_loop (fun (k : Nat) => ⟨[(1, .d (di (w / prodM (l.drop k)))), (2, .ref 0 0), (5, .sl 1 0 l.length 1), (6, .d (di ((k : Int) - 1)))], [some (.var [ints l]), some (.dat 1 ((List.replicate k 0 ++ digM (l.drop k) w).map di))]⟩) (fun k => k ≤ l.length) (fun k => k) l.length ?_ ?_ ?_
  · simp -implicitDefEqProofs (maxSteps := 1000000) (disch := (first | omega | (simp only [go_sem] <;> omega) | fail)) only [go_sem, ints, bools, mat]
    have e1 : l.drop l.length = [] := by simp
    rw [e1, digM, List.append_nil, prodM_nil, Int.ediv_one]
  · simp
  · intro k hk J hJ
    rcases k with _ | i
    · have := digM_len l w
      repeat' (first | simp -implicitDefEqProofs (maxSteps := 1000000) (disch := (first | omega | (simp only [go_sem] <;> omega) | fail)) only [go_sem, ints, bools, mat] | ((first | refine goIf_b (fun h => ?_) (fun h => ?_) | refine goG_b (fun h => ?_) (fun h => ?_) | refine goTG_b (fun h => ?_) (fun h => ?_) | refine goOG_b (fun h => ?_) (fun h => ?_)) <;> ((try simp only [Bool.not_eq_true', Bool.not_eq_false'] at h); (try simp only [h]); (try simp only [decide_eq_true_eq, decide_eq_false_iff_not, bne_iff_ne, bne_eq_false_iff_eq, beq_iff_eq, beq_eq_false_iff_ne, ne_eq, Int.not_lt, Int.not_le, Bool.and_eq_true, Bool.and_eq_false_iff, Bool.or_eq_true, Bool.or_eq_false_iff] at h)) <;> (try (exfalso; omega))))
      simp
    · have hq := hz i (by omega)
      have hp := prodM_pos (szs_drop hz (i + 1))
      have hw' := div_le_self hw hp
      have hm := mod_bnd (x := w / prodM (l.drop (i + 1))) hq
      have hd := div_step (w := w) hz (i := i) (by omega)
      have hp' := prodM_pos (szs_drop hz i)
      have hw'' := div_le_self hw hp'
      have hlen : (List.replicate (i + 1) (0 : Int) ++ digM (l.drop (i + 1)) w).length = l.length := by simp [digM_len]; omega
      rw [← hd] at hw''
      repeat' (first | simp -implicitDefEqProofs (maxSteps := 1000000) (disch := (first | omega | (simp only [go_sem] <;> omega) | fail)) only [go_sem, ints, bools, mat] | ((first | refine goIf_b (fun h => ?_) (fun h => ?_) | refine goG_b (fun h => ?_) (fun h => ?_) | refine goTG_b (fun h => ?_) (fun h => ?_) | refine goOG_b (fun h => ?_) (fun h => ?_)) <;> ((try simp only [Bool.not_eq_true', Bool.not_eq_false'] at h); (try simp only [h]); (try simp only [decide_eq_true_eq, decide_eq_false_iff_not, bne_iff_ne, bne_eq_false_iff_eq, beq_iff_eq, beq_eq_false_iff_ne, ne_eq, Int.not_lt, Int.not_le, Bool.and_eq_true, Bool.and_eq_false_iff, Bool.or_eq_true, Bool.or_eq_false_iff] at h)) <;> (try (exfalso; omega))))
      refine hJ i (by omega) (by omega) _ ?_
      simp -implicitDefEqProofs (maxSteps := 1000000) (disch := (first | omega | (simp only [go_sem] <;> omega) | fail)) only [go_sem, ints, bools, mat]
      rw [set_rep, hd, digM_drop w (i := i) (by omega)]
/-- At how many places two words differ. -/
def farM : List Int → List Int → Int
  | a :: r, b :: s => (if a = b then 0 else 1) + farM r s
  | _, _ => 0
def farN (a b : List Int) : Nat → Int
  | 0 => 0
  | j + 1 => farN a b j + (if a.getD j 0 = b.getD j 0 then 0 else 1)
abbrev distM (l : List Int) (u w : Int) : Int := farM (digM l u) (digM l w)
theorem farN_cons (x y : Int) (a b : List Int) : ∀ j, farN (x :: a) (y :: b) (j + 1) = (if x = y then 0 else 1) + farN a b j
  | 0 => by simp [farN]
  | j + 1 => by rw [farN, farN_cons x y a b j, farN, Int.add_assoc]; rfl
theorem farN_nn (a b : List Int) : ∀ j : Nat, 0 ≤ farN a b j ∧ farN a b j ≤ j
  | 0 => by simp [farN]
  | j + 1 => by have := farN_nn a b j; simp only [farN]; split <;> omega
theorem farN_farM : ∀ (a b z : List Int) (k : Nat), a.length = b.length → k = a.length + z.length → farN (a ++ z) (b ++ z) k = farM a b
  | [], [], z, k, _, hk => by
    simp only [List.nil_append, farM]
    clear hk
    induction k with
    | zero => rfl
    | succ k ih => simp [farN, ih]
  | x :: a, y :: b, z, k, h, hk => by
    rcases k with _ | k
    · simp only [List.length_cons] at hk; omega
    · rw [List.cons_append, List.cons_append, farN_cons, farN_farM a b z k (by simpa using h) (by simp at hk; omega)]; rfl
  | [], _ :: _, _, _, h, _ => by simp at h
  | _ :: _, [], _, _, h, _ => by simp at h
theorem farM_bnd : ∀ (a b : List Int), 0 ≤ farM a b ∧ farM a b ≤ a.length
  | [], _ => by simp [farM]
  | _ :: _, [] => by simp [farM]; omega
  | x :: a, y :: b => by have := farM_bnd a b; simp only [farM, List.length_cons]; split <;> omega
theorem distM_bnd (l : List Int) (u w : Int) : 0 ≤ distM l u w ∧ distM l u w ≤ l.length := by
  have := farM_bnd (digM l u) (digM l w); rwa [digM_len] at this
theorem d_impl_far (a b : List Int) (ha : a.length = b.length) (h8 : a.length ≤ 8) : Den PA f_impl_far [.d (dig a), .d (dig b)] [.any, .any] (.d (di (farM a b))) := by
  have e := farN_farM a b (List.replicate (8 - a.length) 0) 8 ha (by simp; omega)
  have ea := pad8_len a
  have eb := pad8_len b
  have e' : farN (pad8 a) (pad8 b) 8 = farM a b := by rw [← e, pad8_eq h8, pad8_eq (ds := b) (by omega)]; simp only [ha]
  refine den_go [] l_impl_far ?_
  repeat' (first | simp -implicitDefEqProofs (maxSteps := 1000000) (disch := (first | omega | (simp only [go_sem] <;> omega) | fail)) only [go_sem, ints, bools, mat, c_impl_far] | ((first | refine goIf_b (fun h => ?_) (fun h => ?_) | refine goG_b (fun h => ?_) (fun h => ?_) | refine goTG_b (fun h => ?_) (fun h => ?_) | refine goOG_b (fun h => ?_) (fun h => ?_)) <;> ((try simp only [Bool.not_eq_true', Bool.not_eq_false'] at h); (try simp only [h]); (try simp only [decide_eq_true_eq, decide_eq_false_iff_not, bne_iff_ne, bne_eq_false_iff_eq, beq_iff_eq, beq_eq_false_iff_ne, ne_eq, Int.not_lt, Int.not_le, Bool.and_eq_true, Bool.and_eq_false_iff, Bool.or_eq_true, Bool.or_eq_false_iff] at h))))
  refine go_loop (fun (j : Nat) => ⟨[(3, .ref 0 0), (5, .d (di (farN (pad8 a) (pad8 b) j))), (8, .d (dig a)), (9, .d (di j))], [some (.var ((pad8 b).map dy))]⟩) (fun j => j ≤ 8) (fun j => 8 - j) 0 ?_ ?_ ?_
  · (simp -implicitDefEqProofs (maxSteps := 1000000) (disch := (first | omega | (simp only [go_sem] <;> omega) | fail)) only [go_sem, ints, bools, mat] <;> rfl)
  · simp
  · rintro j hj J hJ
    have hb := farN_nn (pad8 a) (pad8 b) j
    repeat' (first | simp -implicitDefEqProofs (maxSteps := 1000000) (disch := (first | omega | (simp only [go_sem] <;> omega) | fail)) only [go_sem, ints, bools, mat] | ((first | refine goIf_b (fun h => ?_) (fun h => ?_) | refine goG_b (fun h => ?_) (fun h => ?_) | refine goTG_b (fun h => ?_) (fun h => ?_) | refine goOG_b (fun h => ?_) (fun h => ?_)) <;> ((try simp only [Bool.not_eq_true', Bool.not_eq_false'] at h); (try simp only [h]); (try simp only [decide_eq_true_eq, decide_eq_false_iff_not, bne_iff_ne, bne_eq_false_iff_eq, beq_iff_eq, beq_eq_false_iff_ne, ne_eq, Int.not_lt, Int.not_le, Bool.and_eq_true, Bool.and_eq_false_iff, Bool.or_eq_true, Bool.or_eq_false_iff] at h)) <;> (try (exfalso; omega))))
    · refine hJ (j + 1) (by omega) (by omega) _ ?_
      simp -implicitDefEqProofs (maxSteps := 1000000) (disch := (first | omega | (simp only [go_sem] <;> omega) | fail)) only [go_sem, ints, bools, mat]
      rw [farN, if_neg (by assumption)]; rfl
    · refine hJ (j + 1) (by omega) (by omega) _ ?_
      simp -implicitDefEqProofs (maxSteps := 1000000) (disch := (first | omega | (simp only [go_sem] <;> omega) | fail)) only [go_sem, ints, bools, mat]
      rw [farN, if_pos (by assumption), Int.add_zero]; rfl
    · have : j = 8 := by omega
      subst this; rw [e']
theorem d_impl_distance (l : List Int) (hs : isSpaceM l = true) (u w : Int) (hu : 0 ≤ u) (hu2 : u < 1000000000000) (hw : 0 ≤ w) (hw2 : w < 1000000000000) : Den PA f_impl_distance [.d (.agg [ints l]), .d (di u), .d (di w)] [.any, .any, .any] (.d (di (distM l u w))) := by
  have hn := isSpaceM_n hs
  refine den_go [] l_impl_distance ?_
  repeat' (first | simp -implicitDefEqProofs (maxSteps := 1000000) (disch := (first | omega | (simp only [go_sem] <;> omega) | fail)) only [go_sem, ints, bools, mat, c_impl_distance] | ((first | refine goIf_b (fun h => ?_) (fun h => ?_) | refine goG_b (fun h => ?_) (fun h => ?_) | refine goTG_b (fun h => ?_) (fun h => ?_) | refine goOG_b (fun h => ?_) (fun h => ?_)) <;> ((try simp only [Bool.not_eq_true', Bool.not_eq_false'] at h); (try simp only [h]); (try simp only [decide_eq_true_eq, decide_eq_false_iff_not, bne_iff_ne, bne_eq_false_iff_eq, beq_iff_eq, beq_eq_false_iff_ne, ne_eq, Int.not_lt, Int.not_le, Bool.and_eq_true, Bool.and_eq_false_iff, Bool.or_eq_true, Bool.or_eq_false_iff] at h)) <;> (try (exfalso; omega))))
  first | refine goC_call [.r, .r] (d_impl_digitsOf l hs u hu hu2) ?_ | refine goOC_call [.r, .r] (d_impl_digitsOf l hs u hu hu2) ?_
  repeat' (first | simp -implicitDefEqProofs (maxSteps := 1000000) (disch := (first | omega | (simp only [go_sem] <;> omega) | fail)) only [go_sem, ints, bools, mat] | ((first | refine goIf_b (fun h => ?_) (fun h => ?_) | refine goG_b (fun h => ?_) (fun h => ?_) | refine goTG_b (fun h => ?_) (fun h => ?_) | refine goOG_b (fun h => ?_) (fun h => ?_)) <;> ((try simp only [Bool.not_eq_true', Bool.not_eq_false'] at h); (try simp only [h]); (try simp only [decide_eq_true_eq, decide_eq_false_iff_not, bne_iff_ne, bne_eq_false_iff_eq, beq_iff_eq, beq_eq_false_iff_ne, ne_eq, Int.not_lt, Int.not_le, Bool.and_eq_true, Bool.and_eq_false_iff, Bool.or_eq_true, Bool.or_eq_false_iff] at h)) <;> (try (exfalso; omega))))
  first | refine goC_call [.r, .r] (d_impl_digitsOf l hs w hw hw2) ?_ | refine goOC_call [.r, .r] (d_impl_digitsOf l hs w hw hw2) ?_
  repeat' (first | simp -implicitDefEqProofs (maxSteps := 1000000) (disch := (first | omega | (simp only [go_sem] <;> omega) | fail)) only [go_sem, ints, bools, mat] | ((first | refine goIf_b (fun h => ?_) (fun h => ?_) | refine goG_b (fun h => ?_) (fun h => ?_) | refine goTG_b (fun h => ?_) (fun h => ?_) | refine goOG_b (fun h => ?_) (fun h => ?_)) <;> ((try simp only [Bool.not_eq_true', Bool.not_eq_false'] at h); (try simp only [h]); (try simp only [decide_eq_true_eq, decide_eq_false_iff_not, bne_iff_ne, bne_eq_false_iff_eq, beq_iff_eq, beq_eq_false_iff_ne, ne_eq, Int.not_lt, Int.not_le, Bool.and_eq_true, Bool.and_eq_false_iff, Bool.or_eq_true, Bool.or_eq_false_iff] at h)) <;> (try (exfalso; omega))))
  first | refine goC_call [.r, .r] (d_impl_far (digM l u) (digM l w) (by rw [digM_len, digM_len]) (by rw [digM_len]; omega)) ?_ | refine goOC_call [.r, .r] (d_impl_far (digM l u) (digM l w) (by rw [digM_len, digM_len]) (by rw [digM_len]; omega)) ?_
  repeat' (first | simp -implicitDefEqProofs (maxSteps := 1000000) (disch := (first | omega | (simp only [go_sem] <;> omega) | fail)) only [go_sem, ints, bools, mat] | ((first | refine goIf_b (fun h => ?_) (fun h => ?_) | refine goG_b (fun h => ?_) (fun h => ?_) | refine goTG_b (fun h => ?_) (fun h => ?_) | refine goOG_b (fun h => ?_) (fun h => ?_)) <;> ((try simp only [Bool.not_eq_true', Bool.not_eq_false'] at h); (try simp only [h]); (try simp only [decide_eq_true_eq, decide_eq_false_iff_not, bne_iff_ne, bne_eq_false_iff_eq, beq_iff_eq, beq_eq_false_iff_ne, ne_eq, Int.not_lt, Int.not_le, Bool.and_eq_true, Bool.and_eq_false_iff, Bool.or_eq_true, Bool.or_eq_false_iff] at h)) <;> (try (exfalso; omega))))
theorem d_spec_l01Distance (l : List Int) (hs : isSpaceM l = true) (u w : Int) (hu : 0 ≤ u) (hu2 : u < 1000000000000) (hw : 0 ≤ w) (hw2 : w < 1000000000000) : Den PA f_spec_l01Distance [.d (.agg [ints l]), .d (di u), .d (di w)] [.any, .any, .any] (.d (di (distM l u w))) := by
  have hn := isSpaceM_n hs
  have hz := isSpaceM_szs hs
  refine den_go [] l_spec_l01Distance ?_
  repeat' (first | simp -implicitDefEqProofs (maxSteps := 1000000) (disch := (first | omega | (simp only [go_sem] <;> omega) | fail)) only [go_sem, ints, bools, mat, c_spec_l01Distance] | ((first | refine goIf_b (fun h => ?_) (fun h => ?_) | refine goG_b (fun h => ?_) (fun h => ?_) | refine goTG_b (fun h => ?_) (fun h => ?_) | refine goOG_b (fun h => ?_) (fun h => ?_)) <;> ((try simp only [Bool.not_eq_true', Bool.not_eq_false'] at h); (try simp only [h]); (try simp only [decide_eq_true_eq, decide_eq_false_iff_not, bne_iff_ne, bne_eq_false_iff_eq, beq_iff_eq, beq_eq_false_iff_ne, ne_eq, Int.not_lt, Int.not_le, Bool.and_eq_true, Bool.and_eq_false_iff, Bool.or_eq_true, Bool.or_eq_false_iff] at h))))
  refine go_loop (fun (k : Nat) => ⟨[(1, .d (di (u / prodM (l.drop k)))), (2, .d (di (w / prodM (l.drop k)))), (3, .ref 0 0), (7, .d (di (farM (digM (l.drop k) u) (digM (l.drop k) w)))), (8, .d (di ((k : Int) - 1)))], [some (.var [ints l])]⟩) (fun k => k ≤ l.length) (fun k => k) l.length ?_ ?_ ?_
  · simp -implicitDefEqProofs (maxSteps := 1000000) (disch := (first | omega | (simp only [go_sem] <;> omega) | fail)) only [go_sem, ints, bools, mat]
    have e1 : l.drop l.length = [] := by simp
    rw [e1, digM, digM, farM, prodM_nil, Int.ediv_one, Int.ediv_one]
    intros; simp_all
  · simp
  · intro k hk J hJ
    rcases k with _ | i
    · repeat' (first | simp -implicitDefEqProofs (maxSteps := 1000000) (disch := (first | omega | (simp only [go_sem] <;> omega) | fail)) only [go_sem, ints, bools, mat] | ((first | refine goIf_b (fun h => ?_) (fun h => ?_) | refine goG_b (fun h => ?_) (fun h => ?_) | refine goTG_b (fun h => ?_) (fun h => ?_) | refine goOG_b (fun h => ?_) (fun h => ?_)) <;> ((try simp only [Bool.not_eq_true', Bool.not_eq_false'] at h); (try simp only [h]); (try simp only [decide_eq_true_eq, decide_eq_false_iff_not, bne_iff_ne, bne_eq_false_iff_eq, beq_iff_eq, beq_eq_false_iff_ne, ne_eq, Int.not_lt, Int.not_le, Bool.and_eq_true, Bool.and_eq_false_iff, Bool.or_eq_true, Bool.or_eq_false_iff] at h)) <;> (try (exfalso; omega))))
    · have hq := hz i (by omega)
      have hp := prodM_pos (szs_drop hz (i + 1))
      have hw' := div_le_self hw hp
      have hu' := div_le_self hu hp
      have hd := div_step (w := w) hz (i := i) (by omega)
      have hd2 := div_step (w := u) hz (i := i) (by omega)
      have hp' := prodM_pos (szs_drop hz i)
      have hw'' := div_le_self hw hp'
      have hu'' := div_le_self hu hp'
      have hf := farM_bnd (digM (l.drop (i + 1)) u) (digM (l.drop (i + 1)) w)
      rw [digM_len, List.length_drop] at hf
      rw [← hd] at hw''
      rw [← hd2] at hu''
      repeat' (first | simp -implicitDefEqProofs (maxSteps := 1000000) (disch := (first | omega | (simp only [go_sem] <;> omega) | fail)) only [go_sem, ints, bools, mat] | ((first | refine goIf_b (fun h => ?_) (fun h => ?_) | refine goG_b (fun h => ?_) (fun h => ?_) | refine goTG_b (fun h => ?_) (fun h => ?_) | refine goOG_b (fun h => ?_) (fun h => ?_)) <;> ((try simp only [Bool.not_eq_true', Bool.not_eq_false'] at h); (try simp only [h]); (try simp only [decide_eq_true_eq, decide_eq_false_iff_not, bne_iff_ne, bne_eq_false_iff_eq, beq_iff_eq, beq_eq_false_iff_ne, ne_eq, Int.not_lt, Int.not_le, Bool.and_eq_true, Bool.and_eq_false_iff, Bool.or_eq_true, Bool.or_eq_false_iff] at h)) <;> (try (exfalso; omega))))
      · refine hJ i (by omega) (by omega) _ ?_
        simp -implicitDefEqProofs (maxSteps := 1000000) (disch := (first | omega | (simp only [go_sem] <;> omega) | fail)) only [go_sem, ints, bools, mat]
        rw [hd, hd2, digM_drop w (i := i) (by omega), digM_drop u (i := i) (by omega), farM, if_neg h, Int.add_comm]
      · refine hJ i (by omega) (by omega) _ ?_
        simp -implicitDefEqProofs (maxSteps := 1000000) (disch := (first | omega | (simp only [go_sem] <;> omega) | fail)) only [go_sem, ints, bools, mat]
        rw [hd, hd2, digM_drop w (i := i) (by omega), digM_drop u (i := i) (by omega), farM, if_pos h, Int.zero_add]
@[go_sem] theorem and1_norm {x : Int} (h : 0 ≤ x) : ((x.toNat &&& (1 : Int).toNat : Nat) : Int) = x % 2 := by
  rw [show (1 : Int).toNat = 1 from rfl, and_one_toNat]; omega
def isCodeM (l c : List Int) : Bool := areW l c && (List.range (c.length - 1)).all fun j => decide (c.getD j 0 < c.getD (j + 1) 0)
theorem isCodeM_ok (l c : List Int) : isCodeM l c = true ↔ (∀ j, j < c.length → 0 ≤ c.getD j 0 ∧ c.getD j 0 < prodM l) ∧ ∀ j, j + 1 < c.length → c.getD j 0 < c.getD (j + 1) 0 := by
  simp only [isCodeM, Bool.and_eq_true, areW_ok, List.all_eq_true, List.mem_range, decide_eq_true_eq]
  constructor
  · rintro ⟨h1, h2⟩; exact ⟨h1, fun j hj => h2 j (by omega)⟩
  · rintro ⟨h1, h2⟩; exact ⟨h1, fun j hj => h2 j (by omega)⟩
theorem isCodeM_ge {l c : List Int} (h : isCodeM l c = true) : ∀ j : Nat, j < c.length → (j : Int) ≤ c.getD j 0
  | 0, hj => by have := ((isCodeM_ok l c).1 h).1 0 hj; simpa using this.1
  | j + 1, hj => by have := isCodeM_ge h j (by omega); have := ((isCodeM_ok l c).1 h).2 j hj; omega
theorem isCodeM_len {l c : List Int} (h : isCodeM l c = true) : (c.length : Int) ≤ prodM l ∨ c.length = 0 := by
  rcases Nat.eq_zero_or_pos c.length with h0 | h0
  · exact .inr h0
  · have h1 := isCodeM_ge h (c.length - 1) (by omega)
    have h2 := ((isCodeM_ok l c).1 h).1 (c.length - 1) (by omega)
    left; omega
theorem d_impl_isCode (l : List Int) (hs : isSpaceM l = true) (c : List Int) (hc : c.length < 1048577) : Den PA f_impl_isCode [.d (.agg [ints l]), .d (ints c)] [.any, .any] (.d (db (isCodeM l c))) := by
  have e := isCodeM_ok l c
  have hp1 := prodM_pos (isSpaceM_szs hs)
  refine den_go [] l_impl_isCode ?_
  simp -implicitDefEqProofs (maxSteps := 1000000) (disch := (first | omega | (simp only [go_sem] <;> omega) | fail)) only [go_sem, ints, bools, mat, c_impl_isCode]
  first | refine goC_call [.r] (d_impl_count l hs) ?_ | refine goOC_call [.r] (d_impl_count l hs) ?_
  repeat' (first | simp -implicitDefEqProofs (maxSteps := 1000000) (disch := (first | omega | (simp only [go_sem] <;> omega) | fail)) only [go_sem, ints, bools, mat] | ((first | refine goIf_b (fun h => ?_) (fun h => ?_) | refine goG_b (fun h => ?_) (fun h => ?_) | refine goTG_b (fun h => ?_) (fun h => ?_) | refine goOG_b (fun h => ?_) (fun h => ?_)) <;> ((try simp only [Bool.not_eq_true', Bool.not_eq_false'] at h); (try simp only [h]); (try simp only [decide_eq_true_eq, decide_eq_false_iff_not, bne_iff_ne, bne_eq_false_iff_eq, beq_iff_eq, beq_eq_false_iff_ne, ne_eq, Int.not_lt, Int.not_le, Bool.and_eq_true, Bool.and_eq_false_iff, Bool.or_eq_true, Bool.or_eq_false_iff] at h))))
  rotate_left
  · exact dbF fun h' => by have := isCodeM_len (l := l) (c := c) h'; omega
  first | refine goC_call [.r, .r] (d_impl_areWords l hs _ c (.inl rfl) hc) ?_ | refine goOC_call [.r, .r] (d_impl_areWords l hs _ c (.inl rfl) hc) ?_
  repeat' (first | simp -implicitDefEqProofs (maxSteps := 1000000) (disch := (first | omega | (simp only [go_sem] <;> omega) | fail)) only [go_sem, ints, bools, mat] | ((first | refine goIf_b (fun h => ?_) (fun h => ?_) | refine goG_b (fun h => ?_) (fun h => ?_) | refine goTG_b (fun h => ?_) (fun h => ?_) | refine goOG_b (fun h => ?_) (fun h => ?_)) <;> ((try simp only [Bool.not_eq_true', Bool.not_eq_false'] at h); (try simp only [h]); (try simp only [decide_eq_true_eq, decide_eq_false_iff_not, bne_iff_ne, bne_eq_false_iff_eq, beq_iff_eq, beq_eq_false_iff_ne, ne_eq, Int.not_lt, Int.not_le, Bool.and_eq_true, Bool.and_eq_false_iff, Bool.or_eq_true, Bool.or_eq_false_iff] at h))))
  rotate_left
  · refine dbF fun h' => ?_
    have := (areW_ok l c).2 (e.1 h').1
    rw [h] at this; cases this
  have hw := (areW_ok l c).1 h
  refine go_loop (fun (j : Nat) => ⟨[(1, .d (ints c)), (5, .d (di ((j + 1 : Nat) : Int)))], []⟩) (fun j => (j + 1 ≤ c.length ∨ j = 0) ∧ ∀ i, i < j → c.getD i 0 < c.getD (i + 1) 0) (fun j => c.length - j) 0 ?_ ?_ ?_
  · (simp -implicitDefEqProofs (maxSteps := 1000000) (disch := (first | omega | (simp only [go_sem] <;> omega) | fail)) only [go_sem, ints, bools, mat] <;> rfl)
  · simp
  · rintro j ⟨hj, hi⟩ J hJ
    repeat' (first | simp -implicitDefEqProofs (maxSteps := 1000000) (disch := (first | omega | (simp only [go_sem] <;> omega) | fail)) only [go_sem, ints, bools, mat] | ((first | refine goIf_b (fun h => ?_) (fun h => ?_) | refine goG_b (fun h => ?_) (fun h => ?_) | refine goTG_b (fun h => ?_) (fun h => ?_) | refine goOG_b (fun h => ?_) (fun h => ?_)) <;> ((try simp only [Bool.not_eq_true', Bool.not_eq_false'] at h); (try simp only [h]); (try simp only [decide_eq_true_eq, decide_eq_false_iff_not, bne_iff_ne, bne_eq_false_iff_eq, beq_iff_eq, beq_eq_false_iff_ne, ne_eq, Int.not_lt, Int.not_le, Bool.and_eq_true, Bool.and_eq_false_iff, Bool.or_eq_true, Bool.or_eq_false_iff] at h)) <;> (try (exfalso; omega))))
    · exact dbF fun h' => by have := (e.1 h').2 j (by omega); omega
    · refine hJ (j + 1) ⟨.inl (by omega), all_ext hi (by omega)⟩ (by omega) _ (by (simp -implicitDefEqProofs (maxSteps := 1000000) (disch := (first | omega | (simp only [go_sem] <;> omega) | fail)) only [go_sem, ints, bools, mat] <;> rfl))
    · exact dbT (e.2 ⟨hw, fun i hi' => hi i (by omega)⟩)
theorem d_spec_l01Code (l : List Int) (hs : isSpaceM l = true) (c : List Int) (hc : c.length < 1048577) : Den PA f_spec_l01Code [.d (.agg [ints l]), .d (ints c)] [.any, .any] (.d (db (isCodeM l c))) := by
  have e := isCodeM_ok l c
  have hp := isSpaceM_prod hs
  have hp1 := prodM_pos (isSpaceM_szs hs)
  have hn := isSpaceM_n hs
  refine den_go [] l_spec_l01Code ?_
  simp -implicitDefEqProofs (maxSteps := 1000000) (disch := (first | omega | (simp only [go_sem] <;> omega) | fail)) only [go_sem, ints, bools, mat, c_spec_l01Code]
  refine go_loop (fun (j : Nat) => ⟨[(1, .d (ints c)), (2, .ref 0 0), (5, .d (di j))], [some (.var [ints l])]⟩) (fun j => j ≤ c.length ∧ (∀ i, i < j → 0 ≤ c.getD i 0 ∧ c.getD i 0 < prodM l) ∧ ∀ i, i + 1 < j → c.getD i 0 < c.getD (i + 1) 0) (fun j => c.length - j) 0 ?_ ?_ ?_
  · (simp -implicitDefEqProofs (maxSteps := 1000000) (disch := (first | omega | (simp only [go_sem] <;> omega) | fail)) only [go_sem, ints, bools, mat] <;> rfl)
  · simp
  · rintro j ⟨hj, hi, hk⟩ J hJ
    rcases j with _ | j
    · repeat' (first | simp -implicitDefEqProofs (maxSteps := 1000000) (disch := (first | omega | (simp only [go_sem] <;> omega) | fail)) only [go_sem, ints, bools, mat] | ((first | refine goIf_b (fun h => ?_) (fun h => ?_) | refine goG_b (fun h => ?_) (fun h => ?_) | refine goTG_b (fun h => ?_) (fun h => ?_) | refine goOG_b (fun h => ?_) (fun h => ?_)) <;> ((try simp only [Bool.not_eq_true', Bool.not_eq_false'] at h); (try simp only [h]); (try simp only [decide_eq_true_eq, decide_eq_false_iff_not, bne_iff_ne, bne_eq_false_iff_eq, beq_iff_eq, beq_eq_false_iff_ne, ne_eq, Int.not_lt, Int.not_le, Bool.and_eq_true, Bool.and_eq_false_iff, Bool.or_eq_true, Bool.or_eq_false_iff] at h)) <;> (try (exfalso; omega))))
      · first | refine goC_call [.r] (d_spec_l01N l (by omega) (isSpaceM_q hs)) ?_ | refine goOC_call [.r] (d_spec_l01N l (by omega) (isSpaceM_q hs)) ?_
        repeat' (first | simp -implicitDefEqProofs (maxSteps := 1000000) (disch := (first | omega | (simp only [go_sem] <;> omega) | fail)) only [go_sem, ints, bools, mat] | ((first | refine goIf_b (fun h => ?_) (fun h => ?_) | refine goG_b (fun h => ?_) (fun h => ?_) | refine goTG_b (fun h => ?_) (fun h => ?_) | refine goOG_b (fun h => ?_) (fun h => ?_)) <;> ((try simp only [Bool.not_eq_true', Bool.not_eq_false'] at h); (try simp only [h]); (try simp only [decide_eq_true_eq, decide_eq_false_iff_not, bne_iff_ne, bne_eq_false_iff_eq, beq_iff_eq, beq_eq_false_iff_ne, ne_eq, Int.not_lt, Int.not_le, Bool.and_eq_true, Bool.and_eq_false_iff, Bool.or_eq_true, Bool.or_eq_false_iff] at h)) <;> (try (exfalso; omega))))
        first | refine goC_call [.r, .r, .r] (d_spec_l01In (c.getD 0 0) 0 (prodM l - 1)) ?_ | refine goOC_call [.r, .r, .r] (d_spec_l01In (c.getD 0 0) 0 (prodM l - 1)) ?_
        repeat' (first | simp -implicitDefEqProofs (maxSteps := 1000000) (disch := (first | omega | (simp only [go_sem] <;> omega) | fail)) only [go_sem, ints, bools, mat] | ((first | refine goIf_b (fun h => ?_) (fun h => ?_) | refine goG_b (fun h => ?_) (fun h => ?_) | refine goTG_b (fun h => ?_) (fun h => ?_) | refine goOG_b (fun h => ?_) (fun h => ?_)) <;> ((try simp only [Bool.not_eq_true', Bool.not_eq_false'] at h); (try simp only [h]); (try simp only [decide_eq_true_eq, decide_eq_false_iff_not, bne_iff_ne, bne_eq_false_iff_eq, beq_iff_eq, beq_eq_false_iff_ne, ne_eq, Int.not_lt, Int.not_le, Bool.and_eq_true, Bool.and_eq_false_iff, Bool.or_eq_true, Bool.or_eq_false_iff] at h)) <;> (try (exfalso; omega))))
        · refine hJ 1 ⟨by omega, all_ext hi (by omega), fun i hi => by omega⟩ (by omega) _ (by (simp -implicitDefEqProofs (maxSteps := 1000000) (disch := (first | omega | (simp only [go_sem] <;> omega) | fail)) only [go_sem, ints, bools, mat] <;> rfl))
        · exact dbF fun h' => by have := (e.1 h').1 0 (by omega); omega
      · exact dbT (e.2 ⟨fun i hi' => by omega, fun i hi' => by omega⟩)
    · repeat' (first | simp -implicitDefEqProofs (maxSteps := 1000000) (disch := (first | omega | (simp only [go_sem] <;> omega) | fail)) only [go_sem, ints, bools, mat] | ((first | refine goIf_b (fun h => ?_) (fun h => ?_) | refine goG_b (fun h => ?_) (fun h => ?_) | refine goTG_b (fun h => ?_) (fun h => ?_) | refine goOG_b (fun h => ?_) (fun h => ?_)) <;> ((try simp only [Bool.not_eq_true', Bool.not_eq_false'] at h); (try simp only [h]); (try simp only [decide_eq_true_eq, decide_eq_false_iff_not, bne_iff_ne, bne_eq_false_iff_eq, beq_iff_eq, beq_eq_false_iff_ne, ne_eq, Int.not_lt, Int.not_le, Bool.and_eq_true, Bool.and_eq_false_iff, Bool.or_eq_true, Bool.or_eq_false_iff] at h)) <;> (try (exfalso; omega))))
      · first | refine goC_call [.r] (d_spec_l01N l (by omega) (isSpaceM_q hs)) ?_ | refine goOC_call [.r] (d_spec_l01N l (by omega) (isSpaceM_q hs)) ?_
        repeat' (first | simp -implicitDefEqProofs (maxSteps := 1000000) (disch := (first | omega | (simp only [go_sem] <;> omega) | fail)) only [go_sem, ints, bools, mat] | ((first | refine goIf_b (fun h => ?_) (fun h => ?_) | refine goG_b (fun h => ?_) (fun h => ?_) | refine goTG_b (fun h => ?_) (fun h => ?_) | refine goOG_b (fun h => ?_) (fun h => ?_)) <;> ((try simp only [Bool.not_eq_true', Bool.not_eq_false'] at h); (try simp only [h]); (try simp only [decide_eq_true_eq, decide_eq_false_iff_not, bne_iff_ne, bne_eq_false_iff_eq, beq_iff_eq, beq_eq_false_iff_ne, ne_eq, Int.not_lt, Int.not_le, Bool.and_eq_true, Bool.and_eq_false_iff, Bool.or_eq_true, Bool.or_eq_false_iff] at h)) <;> (try (exfalso; omega))))
        first | refine goC_call [.r, .r, .r] (d_spec_l01In (c.getD (j + 1) 0) 0 (prodM l - 1)) ?_ | refine goOC_call [.r, .r, .r] (d_spec_l01In (c.getD (j + 1) 0) 0 (prodM l - 1)) ?_
        repeat' (first | simp -implicitDefEqProofs (maxSteps := 1000000) (disch := (first | omega | (simp only [go_sem] <;> omega) | fail)) only [go_sem, ints, bools, mat] | ((first | refine goIf_b (fun h => ?_) (fun h => ?_) | refine goG_b (fun h => ?_) (fun h => ?_) | refine goTG_b (fun h => ?_) (fun h => ?_) | refine goOG_b (fun h => ?_) (fun h => ?_)) <;> ((try simp only [Bool.not_eq_true', Bool.not_eq_false'] at h); (try simp only [h]); (try simp only [decide_eq_true_eq, decide_eq_false_iff_not, bne_iff_ne, bne_eq_false_iff_eq, beq_iff_eq, beq_eq_false_iff_ne, ne_eq, Int.not_lt, Int.not_le, Bool.and_eq_true, Bool.and_eq_false_iff, Bool.or_eq_true, Bool.or_eq_false_iff] at h)) <;> (try (exfalso; omega))))
        · exact dbF fun h' => by have := (e.1 h').2 j (by omega); omega
        · refine hJ (j + 2) ⟨by omega, all_ext hi (by omega), fun i hi' => ?_⟩ (by omega) _ (by (simp -implicitDefEqProofs (maxSteps := 1000000) (disch := (first | omega | (simp only [go_sem] <;> omega) | fail)) only [go_sem, ints, bools, mat] <;> rfl))
          rcases Nat.lt_or_ge (i + 1) (j + 1) with h3 | h3
          · exact hk i h3
          · have : i = j := by omega
            subst this; assumption
        · exact dbF fun h' => by have := (e.1 h').1 (j + 1) (by omega); omega
      · exact dbT (e.2 ⟨fun i hi' => hi i (by omega), fun i hi' => hk i (by omega)⟩)
/-- The code of a space, a code and words. -/
abbrev gcM (l c ws : List Int) : Int := if wcM l ws = 0 then (if isCodeM l c then 0 else 2) else wcM l ws
theorem wcM_space {l ws : List Int} (h : wcM l ws = 0) : isSpaceM l = true ∧ areW l ws = true := by
  unfold wcM at h
  split at h
  · rename_i hs
    split at h
    · rename_i hw; exact ⟨hs, hw⟩
    · cases h
  · cases h
theorem gcM_ok {l c ws : List Int} (h : gcM l c ws = 0) : isSpaceM l = true ∧ areW l ws = true ∧ isCodeM l c = true := by
  unfold gcM at h
  split at h
  · rename_i hw
    split at h
    · rename_i hc; exact ⟨(wcM_space hw).1, (wcM_space hw).2, hc⟩
    · cases h
  · rename_i hw; exact (hw h).elim
theorem d_impl_codeCode (l : List Int) (hl : l.length < 1048577) (c : List Int) (hc : c.length < 1048577) (x : D) (ws : List Int) (hx : IsInts x ws) (hw : ws.length < 1048577) :
    Den PA f_impl_codeCode [.d (.agg [ints l]), .d (ints c), .d x] [.any, .any, .any] (.d (di (gcM l c ws))) := by
  refine den_go [] l_impl_codeCode ?_
  simp -implicitDefEqProofs (maxSteps := 1000000) (disch := (first | omega | (simp only [go_sem] <;> omega) | fail)) only [go_sem, ints, bools, mat, c_impl_codeCode, gcM]
  first | refine goC_call [.r, .r] (d_impl_wordCode l hl x ws hx hw) ?_ | refine goOC_call [.r, .r] (d_impl_wordCode l hl x ws hx hw) ?_
  by_cases h : wcM l ws = 0
  · rw [h]
    repeat' (first | simp -implicitDefEqProofs (maxSteps := 1000000) (disch := (first | omega | (simp only [go_sem] <;> omega) | fail)) only [go_sem, ints, bools, mat] | ((first | refine goIf_b (fun h => ?_) (fun h => ?_) | refine goG_b (fun h => ?_) (fun h => ?_) | refine goTG_b (fun h => ?_) (fun h => ?_) | refine goOG_b (fun h => ?_) (fun h => ?_)) <;> ((try simp only [Bool.not_eq_true', Bool.not_eq_false'] at h); (try simp only [h]); (try simp only [decide_eq_true_eq, decide_eq_false_iff_not, bne_iff_ne, bne_eq_false_iff_eq, beq_iff_eq, beq_eq_false_iff_ne, ne_eq, Int.not_lt, Int.not_le, Bool.and_eq_true, Bool.and_eq_false_iff, Bool.or_eq_true, Bool.or_eq_false_iff] at h))))
    first | refine goC_call [.r, .r] (d_impl_isCode l (wcM_space h).1 c hc) ?_ | refine goOC_call [.r, .r] (d_impl_isCode l (wcM_space h).1 c hc) ?_
    repeat' (first | simp -implicitDefEqProofs (maxSteps := 1000000) (disch := (first | omega | (simp only [go_sem] <;> omega) | fail)) only [go_sem, ints, bools, mat] | ((first | refine goIf_b (fun h => ?_) (fun h => ?_) | refine goG_b (fun h => ?_) (fun h => ?_) | refine goTG_b (fun h => ?_) (fun h => ?_) | refine goOG_b (fun h => ?_) (fun h => ?_)) <;> ((try simp only [Bool.not_eq_true', Bool.not_eq_false'] at h); (try simp only [h]); (try simp only [decide_eq_true_eq, decide_eq_false_iff_not, bne_iff_ne, bne_eq_false_iff_eq, beq_iff_eq, beq_eq_false_iff_ne, ne_eq, Int.not_lt, Int.not_le, Bool.and_eq_true, Bool.and_eq_false_iff, Bool.or_eq_true, Bool.or_eq_false_iff] at h))))
  · rw [if_neg h]
    generalize wcM l ws = a at h
    repeat' (first | simp -implicitDefEqProofs (maxSteps := 1000000) (disch := (first | omega | (simp only [go_sem] <;> omega) | fail)) only [go_sem, ints, bools, mat] | ((first | refine goIf_b (fun h => ?_) (fun h => ?_) | refine goG_b (fun h => ?_) (fun h => ?_) | refine goTG_b (fun h => ?_) (fun h => ?_) | refine goOG_b (fun h => ?_) (fun h => ?_)) <;> ((try simp only [Bool.not_eq_true', Bool.not_eq_false'] at h); (try simp only [h]); (try simp only [decide_eq_true_eq, decide_eq_false_iff_not, bne_iff_ne, bne_eq_false_iff_eq, beq_iff_eq, beq_eq_false_iff_ne, ne_eq, Int.not_lt, Int.not_le, Bool.and_eq_true, Bool.and_eq_false_iff, Bool.or_eq_true, Bool.or_eq_false_iff] at h))))
    omega
theorem wcM_nil (l : List Int) : wcM l [] = if isSpaceM l then 0 else 1 := by simp [wcM, areW]
abbrev ggM (l c : List Int) : Int := if isSpaceM l then (if isCodeM l c then 0 else 2) else 1
theorem gcM_nil (l c : List Int) : gcM l c [] = ggM l c := by
  simp only [gcM, wcM_nil]
  by_cases h : isSpaceM l = true
  · simp [h]
  · simp [h]
theorem ggM_ok {l c : List Int} (h : ggM l c = 0) : isSpaceM l = true ∧ isCodeM l c = true := by
  rw [← gcM_nil] at h; exact ⟨(gcM_ok h).1, (gcM_ok h).2.2⟩
theorem d_spec_l01Given (l : List Int) (hl : l.length < 1048577) (c : List Int) (hc : c.length < 1048577) :
    Den PA f_spec_l01Given [.d (.agg [ints l]), .d (ints c)] [.any, .any] (.d (di (ggM l c))) := by
  refine den_go [] l_spec_l01Given ?_
  simp -implicitDefEqProofs (maxSteps := 1000000) (disch := (first | omega | (simp only [go_sem] <;> omega) | fail)) only [go_sem, ints, bools, mat, c_spec_l01Given, ggM]
  first | refine goC_call [.r] (d_spec_l01Is l hl) ?_ | refine goOC_call [.r] (d_spec_l01Is l hl) ?_
  repeat' (first | simp -implicitDefEqProofs (maxSteps := 1000000) (disch := (first | omega | (simp only [go_sem] <;> omega) | fail)) only [go_sem, ints, bools, mat] | ((first | refine goIf_b (fun h => ?_) (fun h => ?_) | refine goG_b (fun h => ?_) (fun h => ?_) | refine goTG_b (fun h => ?_) (fun h => ?_) | refine goOG_b (fun h => ?_) (fun h => ?_)) <;> ((try simp only [Bool.not_eq_true', Bool.not_eq_false'] at h); (try simp only [h]); (try simp only [decide_eq_true_eq, decide_eq_false_iff_not, bne_iff_ne, bne_eq_false_iff_eq, beq_iff_eq, beq_eq_false_iff_ne, ne_eq, Int.not_lt, Int.not_le, Bool.and_eq_true, Bool.and_eq_false_iff, Bool.or_eq_true, Bool.or_eq_false_iff] at h))))
  first | refine goC_call [.r, .r] (d_spec_l01Code l h c hc) ?_ | refine goOC_call [.r, .r] (d_spec_l01Code l h c hc) ?_
  repeat' (first | simp -implicitDefEqProofs (maxSteps := 1000000) (disch := (first | omega | (simp only [go_sem] <;> omega) | fail)) only [go_sem, ints, bools, mat] | ((first | refine goIf_b (fun h => ?_) (fun h => ?_) | refine goG_b (fun h => ?_) (fun h => ?_) | refine goTG_b (fun h => ?_) (fun h => ?_) | refine goOG_b (fun h => ?_) (fun h => ?_)) <;> ((try simp only [Bool.not_eq_true', Bool.not_eq_false'] at h); (try simp only [h]); (try simp only [decide_eq_true_eq, decide_eq_false_iff_not, bne_iff_ne, bne_eq_false_iff_eq, beq_iff_eq, beq_eq_false_iff_ne, ne_eq, Int.not_lt, Int.not_le, Bool.and_eq_true, Bool.and_eq_false_iff, Bool.or_eq_true, Bool.or_eq_false_iff] at h))))
theorem d_impl_isRadius (r : Int) : Den PA f_impl_isRadius [.d (di r)] [.any] (.d (db (decide (0 ≤ r) && decide (r ≤ 8)))) := by
  refine den_go [] l_impl_isRadius ?_
  repeat' (first | simp -implicitDefEqProofs (maxSteps := 1000000) (disch := (first | omega | (simp only [go_sem] <;> omega) | fail)) only [go_sem, ints, bools, mat, c_impl_isRadius] | ((first | refine goIf_b (fun h => ?_) (fun h => ?_) | refine goG_b (fun h => ?_) (fun h => ?_) | refine goTG_b (fun h => ?_) (fun h => ?_) | refine goOG_b (fun h => ?_) (fun h => ?_)) <;> ((try simp only [Bool.not_eq_true', Bool.not_eq_false'] at h); (try simp only [h]); (try simp only [decide_eq_true_eq, decide_eq_false_iff_not, bne_iff_ne, bne_eq_false_iff_eq, beq_iff_eq, beq_eq_false_iff_ne, ne_eq, Int.not_lt, Int.not_le, Bool.and_eq_true, Bool.and_eq_false_iff, Bool.or_eq_true, Bool.or_eq_false_iff] at h))))
theorem flat_dig (ds : List (List Int)) : flat (ds.map fun d => D.agg ((pad8 d).map dy)) = ds.flatMap fun d => (pad8 d).map dy := by
  induction ds with
  | nil => rfl
  | cons d r ih => simp only [flat, List.map_cons, List.flatMap_cons] at ih ⊢; rw [ih]; rfl
theorem drop_dig (ds : List (List Int)) : ∀ i, i < ds.length → ((ds.flatMap fun d => (pad8 d).map dy).drop (i * 8)).take 8 = (pad8 (ds.getD i [])).map dy := by
  induction ds with
  | nil => intro i hi; simp at hi
  | cons d r ih =>
    intro i hi
    rcases i with _ | i
    · rw [List.flatMap_cons, Nat.zero_mul, List.drop_zero, List.take_left' (by simp [pad8_len])]; rfl
    · rw [List.flatMap_cons, Nat.succ_mul, Nat.add_comm, ← List.drop_drop, List.drop_left' (by simp [pad8_len]), ih i (by simpa using hi)]; rfl
theorem len_dig (ds : List (List Int)) : (ds.flatMap fun d => (pad8 d).map dy).length = ds.length * 8 := by
  induction ds with
  | nil => rfl
  | cons d r ih => simp [List.flatMap_cons, ih, Nat.succ_mul, Nat.add_comm, pad8_len]
abbrev digs (ds : List (List Int)) : List D := ds.map fun d => D.agg ((pad8 d).map dy)
@[go_sem] theorem ldC_dig {ds : List (List Int)} {i : Nat} (h : i < ds.length) : ldC true 8 (flat (ds.map fun d => D.agg ((pad8 d).map dy))) (i * 8) = some (.d (.agg ((pad8 (ds.getD i [])).map dy))) := by
  rw [flat_dig]
  have h1 := drop_dig ds i h
  have h2 := len_dig ds
  unfold ldC
  rw [if_pos rfl]
  split
  · rename_i hc
    rw [hc.1, List.drop_zero, List.take_of_length_le (by omega)] at h1
    rw [h1]
  · rw [if_pos (by omega), h1]
@[go_sem] theorem get_dig {ds : List (List Int)} {i : Nat} (h : i < ds.length) : (ds.map fun d => D.agg ((pad8 d).map dy))[i]? = some (D.agg ((pad8 (ds.getD i [])).map dy)) := by simp [h]
@[go_sem] theorem app_dig (ds : List (List Int)) (d : List Int) : (ds.map fun d => D.agg ((pad8 d).map dy)) ++ [D.agg ((pad8 d).map dy)] = (ds ++ [d]).map fun d => D.agg ((pad8 d).map dy) := by simp
@[go_sem] theorem mul_mod8 (i : Nat) : i * 8 % 8 = 0 := Nat.mul_mod_left i 8
@[go_sem] theorem mul_div8 (i : Nat) : i * 8 / 8 = i := by omega
def digsM (l c : List Int) : List (List Int) := c.map (digM l)
@[go_sem] theorem digsM_len (l c : List Int) : (digsM l c).length = c.length := by simp [digsM]
theorem digsM_get (l c : List Int) {i : Nat} (h : i < c.length) : (digsM l c).getD i [] = digM l (c.getD i 0) := by simp [digsM, h]
theorem digsM_step (l c : List Int) {j : Nat} (h : j < c.length) : digsM l (c.take (j + 1)) = digsM l (c.take j) ++ [digM l (c.getD j 0)] := by
  rw [take_one c h]; simp [digsM]
def allW (l : List Int) : List Int := (List.range (prodM l).toNat).map fun (w : Nat) => (w : Int)
@[go_sem] theorem allW_len (l : List Int) : (allW l).length = (prodM l).toNat := by simp [allW]
theorem allW_get (l : List Int) {i : Nat} (h : i < (prodM l).toNat) : (allW l).getD i 0 = i := by simp [allW, h]
theorem take_allW (l : List Int) {j : Nat} (h : j < (prodM l).toNat) : (allW l).take (j + 1) = (allW l).take j ++ [(j : Int)] := by
  rw [take_one _ (by rw [allW_len]; exact h), allW_get l h]
theorem d_impl_allDigits (l : List Int) (hs : isSpaceM l = true) : Den PA f_impl_allDigits [.d (.agg [ints l])] [.any] (.own 8 (digs (digsM l (allW l)))) := by
  have hn := isSpaceM_n hs
  have hp := isSpaceM_prod hs
  have hp1 := prodM_pos (isSpaceM_szs hs)
  refine den_go [] l_impl_allDigits ?_
  repeat' (first | simp -implicitDefEqProofs (maxSteps := 1000000) (disch := (first | omega | (simp only [go_sem] <;> omega) | fail)) only [go_sem, ints, bools, mat, c_impl_allDigits] | ((first | refine goIf_b (fun h => ?_) (fun h => ?_) | refine goG_b (fun h => ?_) (fun h => ?_) | refine goTG_b (fun h => ?_) (fun h => ?_) | refine goOG_b (fun h => ?_) (fun h => ?_)) <;> ((try simp only [Bool.not_eq_true', Bool.not_eq_false'] at h); (try simp only [h]); (try simp only [decide_eq_true_eq, decide_eq_false_iff_not, bne_iff_ne, bne_eq_false_iff_eq, beq_iff_eq, beq_eq_false_iff_ne, ne_eq, Int.not_lt, Int.not_le, Bool.and_eq_true, Bool.and_eq_false_iff, Bool.or_eq_true, Bool.or_eq_false_iff] at h))))
  first | refine goC_call [.r] (d_impl_count l hs) ?_ | refine goOC_call [.r] (d_impl_count l hs) ?_
  repeat' (first | simp -implicitDefEqProofs (maxSteps := 1000000) (disch := (first | omega | (simp only [go_sem] <;> omega) | fail)) only [go_sem, ints, bools, mat] | ((first | refine goIf_b (fun h => ?_) (fun h => ?_) | refine goG_b (fun h => ?_) (fun h => ?_) | refine goTG_b (fun h => ?_) (fun h => ?_) | refine goOG_b (fun h => ?_) (fun h => ?_)) <;> ((try simp only [Bool.not_eq_true', Bool.not_eq_false'] at h); (try simp only [h]); (try simp only [decide_eq_true_eq, decide_eq_false_iff_not, bne_iff_ne, bne_eq_false_iff_eq, beq_iff_eq, beq_eq_false_iff_ne, ne_eq, Int.not_lt, Int.not_le, Bool.and_eq_true, Bool.and_eq_false_iff, Bool.or_eq_true, Bool.or_eq_false_iff] at h))))
  refine go_loop (fun (j : Nat) => ⟨[(1, .ref 0 0), (3, .sl 1 0 j 8), (7, .d (di (prodM l))), (8, .d (di j))], [some (.var [ints l]), some (.dat 8 (digs (digsM l ((allW l).take j))))]⟩) (fun j => j ≤ (prodM l).toNat) (fun j => (prodM l).toNat - j) 0 ?_ ?_ ?_
  · (simp -implicitDefEqProofs (maxSteps := 1000000) (disch := (first | omega | (simp only [go_sem] <;> omega) | fail)) only [go_sem, ints, bools, mat] <;> rfl)
  · simp
  · rintro j hj J hJ
    have hal := allW_len l
    have hlen2 : (digsM l ((allW l).take j)).length = j := by rw [digsM_len, List.length_take, hal]; omega
    have hlen3 : (digsM l (allW l)).length = (prodM l).toNat := by rw [digsM_len, hal]
    repeat' (first | simp -implicitDefEqProofs (maxSteps := 1000000) (disch := (first | omega | (simp only [go_sem] <;> omega) | fail)) only [go_sem, ints, bools, mat] | ((first | refine goIf_b (fun h => ?_) (fun h => ?_) | refine goG_b (fun h => ?_) (fun h => ?_) | refine goTG_b (fun h => ?_) (fun h => ?_) | refine goOG_b (fun h => ?_) (fun h => ?_)) <;> ((try simp only [Bool.not_eq_true', Bool.not_eq_false'] at h); (try simp only [h]); (try simp only [decide_eq_true_eq, decide_eq_false_iff_not, bne_iff_ne, bne_eq_false_iff_eq, beq_iff_eq, beq_eq_false_iff_ne, ne_eq, Int.not_lt, Int.not_le, Bool.and_eq_true, Bool.and_eq_false_iff, Bool.or_eq_true, Bool.or_eq_false_iff] at h))))
    · first | refine goC_call [.r, .r] (d_impl_digitsOf l hs j (by omega) (by omega)) ?_ | refine goOC_call [.r, .r] (d_impl_digitsOf l hs j (by omega) (by omega)) ?_
      repeat' (first | simp -implicitDefEqProofs (maxSteps := 1000000) (disch := (first | omega | (simp only [go_sem] <;> omega) | fail)) only [go_sem, ints, bools, mat] | ((first | refine goIf_b (fun h => ?_) (fun h => ?_) | refine goG_b (fun h => ?_) (fun h => ?_) | refine goTG_b (fun h => ?_) (fun h => ?_) | refine goOG_b (fun h => ?_) (fun h => ?_)) <;> ((try simp only [Bool.not_eq_true', Bool.not_eq_false'] at h); (try simp only [h]); (try simp only [decide_eq_true_eq, decide_eq_false_iff_not, bne_iff_ne, bne_eq_false_iff_eq, beq_iff_eq, beq_eq_false_iff_ne, ne_eq, Int.not_lt, Int.not_le, Bool.and_eq_true, Bool.and_eq_false_iff, Bool.or_eq_true, Bool.or_eq_false_iff] at h))))
      refine hJ (j + 1) (by omega) (by omega) _ ?_
      simp -implicitDefEqProofs (maxSteps := 1000000) (disch := (first | omega | (simp only [go_sem] <;> omega) | fail)) only [go_sem, ints, bools, mat]
      rw [digsM_step _ _ (by rw [hal]; omega), allW_get l (by omega)]; rfl
/-- How often each number comes up. -/
def histS (o : List Int) (d : Int) : List Int := o.set d.toNat (o.getD d.toNat 0 + 1)
def hist (n : Nat) (ds : List Int) : List Int := ds.foldl histS (List.replicate n 0)
theorem foldl_hist_len (ds : List Int) : ∀ o : List Int, (ds.foldl histS o).length = o.length := by
  induction ds with
  | nil => intro o; rfl
  | cons d r ih => intro o; rw [List.foldl_cons, ih]; simp [histS]
@[go_sem] theorem hist_len (n : Nat) (ds : List Int) : (hist n ds).length = n := by rw [hist, foldl_hist_len]; simp
theorem foldl_hist_bnd (ds : List Int) : ∀ (o : List Int) (b : Int), (∀ i, 0 ≤ o.getD i 0 ∧ o.getD i 0 ≤ b) → 0 ≤ b → ∀ i, 0 ≤ (ds.foldl histS o).getD i 0 ∧ (ds.foldl histS o).getD i 0 ≤ b + ds.length := by
  induction ds with
  | nil => intro o b h hb i; simpa using h i
  | cons d r ih =>
    intro o b h hb i
    rw [List.foldl_cons]
    have := ih (histS o d) (b + 1) (fun i => by
      have h1 := h d.toNat
      have h2 := h i
      simp only [histS, List.getD_eq_getElem?_getD, List.getElem?_set] at h1 h2 ⊢
      split
      · split
        · simp; omega
        · simp; omega
      · omega) (by omega) i
    simp only [List.length_cons]; omega
theorem areW_get {l ws : List Int} (h : areW l ws = true) {j : Nat} (hj : j < ws.length) : 0 ≤ ws.getD j 0 ∧ ws.getD j 0 < prodM l := (areW_ok l ws).1 h j hj
theorem isCodeM_get {l c : List Int} (h : isCodeM l c = true) {j : Nat} (hj : j < c.length) : 0 ≤ c.getD j 0 ∧ c.getD j 0 < prodM l := ((isCodeM_ok l c).1 h).1 j hj
theorem d_impl_codeCode0 (l : List Int) (hl : l.length < 1048577) (c : List Int) (hc : c.length < 1048577) :
    Den PA f_impl_codeCode [.d (.agg [ints l]), .d (ints c), .d nil] [.any, .any, .any] (.d (di (ggM l c))) := by
  rw [← gcM_nil]; exact d_impl_codeCode l hl c hc nil [] (.inr ⟨rfl, rfl⟩) (by simp)
theorem farM_comm : ∀ (a b : List Int), farM a b = farM b a
  | [], [] => rfl
  | [], _ :: _ => rfl
  | _ :: _, [] => rfl
  | x :: a, y :: b => by
    simp only [farM, farM_comm a b]
    by_cases h : x = y
    · simp [h]
    · rw [if_neg h, if_neg (fun e => h e.symm)]
theorem distM_comm (l : List Int) (u w : Int) : distM l u w = distM l w u := farM_comm _ _
theorem code_small {l c : List Int} (hs : isSpaceM l = true) (hcc : isCodeM l c = true) : ∀ j, j < c.length → 0 ≤ c.getD j 0 ∧ c.getD j 0 < 1000000000000 := fun j hj => by
  have := isCodeM_get hcc hj; have := isSpaceM_prod hs; omega
attribute [go_sem] Nat.sub_zero
/-- The lesser of two. -/
def mn2 (a b : Int) : Int := if b < a then b else a
@[go_sem] theorem mnA_mn2 (a b : Int) : mnA (.d (di a)) (.d (di b)) = some (.d (di (mn2 a b))) := rfl
/-- The greater of two. -/
def mx2 (a b : Int) : Int := if a < b then b else a
@[go_sem] theorem mxA_mx2 (a b : Int) : mxA (.d (di a)) (.d (di b)) = some (.d (di (mx2 a b))) := rfl
theorem chk_intro {c p : Prop} (h : c) (k : p) : chk c p := ⟨h, k⟩
theorem fnOK_mk {P : Program} {sto : Sto} {f : FuncId} {caps : List AV} {g : List D → Value → Prop} (h : okF P f) (boxes : List (List D)) (hb : caps.map (boxR sto) = boxes.map some) (hg : ∀ ds r, g ds r → ∃ rs', Den P f (ds.map .d ++ boxes.map .box) rs' (.d (.v r))) :
    FnOK P sto (.fn f caps) g := ⟨h, boxes, hb, hg⟩
/-- A function value that tells p of digits. -/
def fnD (n : Nat) (p : List Int → Bool) : List D → Value → Prop := fun ds r => ∃ a : List Int, a.length = n ∧ (∀ i, 0 ≤ a.getD i 0 ∧ a.getD i 0 < 4) ∧ ds = [D.agg ((pad8 a).map dy)] ∧ r = .bool (p a)
theorem digM_bnd : ∀ {l : List Int} (w : Int), szs l → ∀ i, 0 ≤ (digM l w).getD i 0 ∧ (digM l w).getD i 0 < 4
  | [], w, h, i => by simp [digM]
  | q :: r, w, h, 0 => by
    have h2 := h 0 (by simp)
    simp at h2
    have := mod_bnd (x := w / prodM r) h2
    simp [digM]; omega
  | q :: r, w, h, i + 1 => by simpa [digM] using digM_bnd w (szs_tail h) i
theorem fnD_mk {l : List Int} (hs : isSpaceM l = true) (p : List Int → Bool) (w : Int) : fnD l.length p [D.agg ((pad8 (digM l w)).map dy)] (.bool (p (digM l w))) := ⟨digM l w, digM_len l w, digM_bnd w (isSpaceM_szs hs), rfl, rfl⟩
def thoseM (l : List Int) (p : List Int → Bool) : List Int := (allW l).filter fun w => p (digM l w)
theorem filter_len_le {α : Type} (p : α → Bool) (l : List α) (n : Nat) (h : l.length ≤ n) : (l.filter p).length ≤ n := Nat.le_trans (List.length_filter_le p l) h
theorem d_impl_those (l : List Int) (hs : isSpaceM l = true) (p : List Int → Bool) (g : List D → Value → Prop) (hg : ∀ w, g [D.agg ((pad8 (digM l w)).map dy)] (.bool (p (digM l w)))) :
    Den PA f_impl_those [.d (.agg [ints l]), .pfn g] [.any, .any] (.own 1 ((thoseM l p).map di)) := by
  have hn := isSpaceM_n hs
  have hp := isSpaceM_prod hs
  have hp1 := prodM_pos (isSpaceM_szs hs)
  have hal := allW_len l
  refine den_go [] l_impl_those ?_
  repeat' (first | simp -implicitDefEqProofs (maxSteps := 1000000) (disch := (first | omega | (simp only [go_sem] <;> omega) | fail)) only [go_sem, ints, bools, mat, c_impl_those] | ((first | refine goIf_b (fun h => ?_) (fun h => ?_) | refine goG_b (fun h => ?_) (fun h => ?_) | refine goTG_b (fun h => ?_) (fun h => ?_) | refine goOG_b (fun h => ?_) (fun h => ?_)) <;> ((try simp only [Bool.not_eq_true', Bool.not_eq_false'] at h); (try simp only [h]); (try simp only [decide_eq_true_eq, decide_eq_false_iff_not, bne_iff_ne, bne_eq_false_iff_eq, beq_iff_eq, beq_eq_false_iff_ne, ne_eq, Int.not_lt, Int.not_le, Bool.and_eq_true, Bool.and_eq_false_iff, Bool.or_eq_true, Bool.or_eq_false_iff] at h))))
  first | refine goC_call [.r] (d_impl_allDigits l hs) ?_ | refine goOC_call [.r] (d_impl_allDigits l hs) ?_
  repeat' (first | simp -implicitDefEqProofs (maxSteps := 1000000) (disch := (first | omega | (simp only [go_sem] <;> omega) | fail)) only [go_sem, ints, bools, mat] | ((first | refine goIf_b (fun h => ?_) (fun h => ?_) | refine goG_b (fun h => ?_) (fun h => ?_) | refine goTG_b (fun h => ?_) (fun h => ?_) | refine goOG_b (fun h => ?_) (fun h => ?_)) <;> ((try simp only [Bool.not_eq_true', Bool.not_eq_false'] at h); (try simp only [h]); (try simp only [decide_eq_true_eq, decide_eq_false_iff_not, bne_iff_ne, bne_eq_false_iff_eq, beq_iff_eq, beq_eq_false_iff_ne, ne_eq, Int.not_lt, Int.not_le, Bool.and_eq_true, Bool.and_eq_false_iff, Bool.or_eq_true, Bool.or_eq_false_iff] at h))))
  refine go_loop (fun (j : Nat) => ⟨[(1, .pfn g), (5, .sl 0 0 (((allW l).take j).filter fun w => p (digM l w)).length 1), (10, .sl 1 0 (prodM l).toNat 8), (11, .d (di (prodM l).toNat)), (12, .d (di j))], [some (.dat 1 ((((allW l).take j).filter fun w => p (digM l w)).map di)), some (.dat 8 (digs (digsM l (allW l))))]⟩) (fun j => j ≤ (prodM l).toNat) (fun j => (prodM l).toNat - j) 0 ?_ ?_ ?_
  · (simp -implicitDefEqProofs (maxSteps := 1000000) (disch := (first | omega | (simp only [go_sem] <;> omega) | fail)) only [go_sem, ints, bools, mat] <;> rfl)
  · simp
  · rintro j hj J hJ
    have hgd := fun h => digsM_get l (allW l) (i := j) h
    have hw := fun h => allW_get l (i := j) h
    have hfl := filter_len_le (fun w => p (digM l w)) ((allW l).take j) j (by simp; omega)
    repeat' (first | simp -implicitDefEqProofs (maxSteps := 1000000) (disch := (first | omega | (simp only [go_sem] <;> omega) | fail)) only [go_sem, ints, bools, mat] | ((first | refine goIf_b (fun h => ?_) (fun h => ?_) | refine goG_b (fun h => ?_) (fun h => ?_) | refine goTG_b (fun h => ?_) (fun h => ?_) | refine goOG_b (fun h => ?_) (fun h => ?_)) <;> ((try simp only [Bool.not_eq_true', Bool.not_eq_false'] at h); (try simp only [h]); (try simp only [decide_eq_true_eq, decide_eq_false_iff_not, bne_iff_ne, bne_eq_false_iff_eq, beq_iff_eq, beq_eq_false_iff_ne, ne_eq, Int.not_lt, Int.not_le, Bool.and_eq_true, Bool.and_eq_false_iff, Bool.or_eq_true, Bool.or_eq_false_iff] at h))))
    · rw [hgd (by omega), hw (by omega)]
      refine goV_pfn [D.agg ((pad8 (digM l j)).map dy)] (.bool (p (digM l j))) (by simp -implicitDefEqProofs (maxSteps := 1000000) (disch := (first | omega | (simp only [go_sem] <;> omega) | fail)) only [go_sem, ints, bools, mat]) rfl (hg _) ?_
      repeat' (first | simp -implicitDefEqProofs (maxSteps := 1000000) (disch := (first | omega | (simp only [go_sem] <;> omega) | fail)) only [go_sem, ints, bools, mat] | ((first | refine goIf_b (fun h => ?_) (fun h => ?_) | refine goG_b (fun h => ?_) (fun h => ?_) | refine goTG_b (fun h => ?_) (fun h => ?_) | refine goOG_b (fun h => ?_) (fun h => ?_)) <;> ((try simp only [Bool.not_eq_true', Bool.not_eq_false'] at h); (try simp only [h]); (try simp only [decide_eq_true_eq, decide_eq_false_iff_not, bne_iff_ne, bne_eq_false_iff_eq, beq_iff_eq, beq_eq_false_iff_ne, ne_eq, Int.not_lt, Int.not_le, Bool.and_eq_true, Bool.and_eq_false_iff, Bool.or_eq_true, Bool.or_eq_false_iff] at h))))
      · refine hJ (j + 1) (by omega) (by omega) _ ?_
        simp -implicitDefEqProofs (maxSteps := 1000000) (disch := (first | omega | (simp only [go_sem] <;> omega) | fail)) only [go_sem, ints, bools, mat]
        rw [take_allW l (by omega), List.filter_append]; simp [h]
      · refine hJ (j + 1) (by omega) (by omega) _ ?_
        simp -implicitDefEqProofs (maxSteps := 1000000) (disch := (first | omega | (simp only [go_sem] <;> omega) | fail)) only [go_sem, ints, bools, mat]
        rw [take_allW l (by omega), List.filter_append]; simp [h]
    · have : j = (prodM l).toNat := by omega
      subst this
      repeat' (first | simp -implicitDefEqProofs (maxSteps := 1000000) (disch := (first | omega | (simp only [go_sem] <;> omega) | fail)) only [go_sem, ints, bools, mat] | ((first | refine goIf_b (fun h => ?_) (fun h => ?_) | refine goG_b (fun h => ?_) (fun h => ?_) | refine goTG_b (fun h => ?_) (fun h => ?_) | refine goOG_b (fun h => ?_) (fun h => ?_)) <;> ((try simp only [Bool.not_eq_true', Bool.not_eq_false'] at h); (try simp only [h]); (try simp only [decide_eq_true_eq, decide_eq_false_iff_not, bne_iff_ne, bne_eq_false_iff_eq, beq_iff_eq, beq_eq_false_iff_ne, ne_eq, Int.not_lt, Int.not_le, Bool.and_eq_true, Bool.and_eq_false_iff, Bool.or_eq_true, Bool.or_eq_false_iff] at h))))
      rfl
theorem pad8_get {ds : List Int} (h : ds.length ≤ 8) (i : Nat) : (pad8 ds).getD i 0 = ds.getD i 0 := by
  rw [pad8_eq h, List.getD_eq_getElem?_getD, List.getElem?_append]
  split
  · rw [← List.getD_eq_getElem?_getD]
  · rename_i hge
    rw [List.getElem?_replicate]
    have : ds.getD i 0 = 0 := by simp [List.getD_eq_getElem?_getD, show ds[i]? = none by simp; omega]
    rw [this]; split <;> simp
def or2 (x d : Int) : Int := ((x.toNat ||| (2 ^ d.toNat : Int).toNat : Nat) : Int)
def orN (t a : List Int) : Nat → List Int
  | 0 => t
  | j + 1 => (orN t a j).set j (or2 ((orN t a j).getD j 0) (a.getD j 0))
@[go_sem] theorem orN_len (t a : List Int) : ∀ j, (orN t a j).length = t.length
  | 0 => rfl
  | j + 1 => by rw [orN, List.length_set, orN_len t a j]
def lsN (l c : List Int) : Nat → List Int
  | 0 => List.replicate l.length 0
  | j + 1 => orN (lsN l c j) (digM l (c.getD j 0)) l.length
@[go_sem] theorem lsN_len (l c : List Int) : ∀ j, (lsN l c j).length = l.length
  | 0 => by simp [lsN]
  | j + 1 => by rw [lsN, orN_len, lsN_len l c j]
/-- How many of the first words of a code are within r of a word. -/
def cntN (l c : List Int) (r u : Int) : Nat → Int
  | 0 => 0
  | j + 1 => cntN l c r u j + (if distM l (c.getD j 0) u ≤ r then 1 else 0)
theorem cntN_bnd (l c : List Int) (r u : Int) : ∀ j : Nat, 0 ≤ cntN l c r u j ∧ cntN l c r u j ≤ j
  | 0 => by simp [cntN]
  | j + 1 => by have := cntN_bnd l c r u j; rw [cntN]; split <;> omega
def mixT (l c : List Int) (r : Int) (j k : Nat) : List Int := (List.range (prodM l).toNat).map fun (i : Nat) => cntN l c r i (if i < k then j + 1 else j)
@[go_sem] theorem mixT_len (l c : List Int) (r : Int) (j k : Nat) : (mixT l c r j k).length = (prodM l).toNat := by simp [mixT]
theorem mixT_get {l : List Int} (c : List Int) (r : Int) (j k : Nat) {i : Nat} (h : i < (prodM l).toNat) : (mixT l c r j k).getD i 0 = cntN l c r i (if i < k then j + 1 else j) := by simp [mixT, h]
theorem mixT_step (l c : List Int) (r : Int) (j k : Nat) (h : k < (prodM l).toNat) : (mixT l c r j k).set k (cntN l c r k (j + 1)) = mixT l c r j (k + 1) := by
  apply List.ext_getElem
  · simp [mixT]
  · intro i h1 h2
    simp [mixT] at h1 h2
    rw [List.getElem_set]
    split
    · subst_vars; simp [mixT]
    · simp only [mixT, List.getElem_map, List.getElem_range]
      congr 1
      by_cases hi : i < k
      · rw [if_pos hi, if_pos (by omega)]
      · rw [if_neg hi, if_neg (by omega)]
theorem mixT_same (l c : List Int) (r : Int) (j k : Nat) (h : k < (prodM l).toNat) (hd : ¬ distM l (c.getD j 0) k ≤ r) : mixT l c r j k = mixT l c r j (k + 1) := by
  unfold mixT
  apply List.map_congr_left
  intro i hi
  by_cases h1 : i < k
  · rw [if_pos h1, if_pos (by omega)]
  · by_cases h2 : i = k
    · subst h2; rw [if_neg h1, if_pos (by omega), cntN, if_neg hd, Int.add_zero]
    · rw [if_neg h1, if_neg (by omega)]
def timesN (l c : List Int) (r : Int) (j : Nat) : List Int := mixT l c r j 0
theorem mixT_full (l c : List Int) (r : Int) (j : Nat) : mixT l c r j (prodM l).toNat = timesN l c r (j + 1) := by
  unfold timesN mixT
  apply List.map_congr_left
  intro i hi
  rw [if_pos (List.mem_range.1 hi), if_neg (by omega)]
abbrev timesM (l c : List Int) (r : Int) : List Int := timesN l c r c.length
@[go_sem] theorem timesN_len (l c : List Int) (r : Int) (j : Nat) : (timesN l c r j).length = (prodM l).toNat := mixT_len _ _ _ _ _
theorem timesN_get {l : List Int} (c : List Int) (r : Int) (j : Nat) {i : Nat} (h : i < (prodM l).toNat) : (timesN l c r j).getD i 0 = cntN l c r i j := by
  rw [timesN, mixT_get c r j 0 h, if_neg (by omega)]
theorem timesN_zero (l c : List Int) (r : Int) : timesN l c r 0 = List.replicate (prodM l).toNat 0 := by
  apply List.ext_getElem
  · simp [timesN, mixT]
  · intro i h1 h2; simp [timesN, mixT, cntN]
theorem d_impl_times (l c : List Int) (r : Int) (hs : isSpaceM l = true) (hcc : isCodeM l c = true) (hc : c.length < 1048577) :
    Den PA f_impl_times [.d (.agg [ints l]), .d (ints c), .d (di r)] [.any, .any, .any] (.own 1 ((timesM l c r).map di)) := by
  have hn := isSpaceM_n hs
  have hp := isSpaceM_prod hs
  have hp1 := prodM_pos (isSpaceM_szs hs)
  have hal := allW_len l
  refine den_go [] l_impl_times ?_
  repeat' (first | simp -implicitDefEqProofs (maxSteps := 1000000) (disch := (first | omega | (simp only [go_sem] <;> omega) | fail)) only [go_sem, ints, bools, mat, c_impl_times] | ((first | refine goIf_b (fun h => ?_) (fun h => ?_) | refine goG_b (fun h => ?_) (fun h => ?_) | refine goTG_b (fun h => ?_) (fun h => ?_) | refine goOG_b (fun h => ?_) (fun h => ?_)) <;> ((try simp only [Bool.not_eq_true', Bool.not_eq_false'] at h); (try simp only [h]); (try simp only [decide_eq_true_eq, decide_eq_false_iff_not, bne_iff_ne, bne_eq_false_iff_eq, beq_iff_eq, beq_eq_false_iff_ne, ne_eq, Int.not_lt, Int.not_le, Bool.and_eq_true, Bool.and_eq_false_iff, Bool.or_eq_true, Bool.or_eq_false_iff] at h))))
  first | refine goC_call [.r] (d_impl_allDigits l hs) ?_ | refine goOC_call [.r] (d_impl_allDigits l hs) ?_
  repeat' (first | simp -implicitDefEqProofs (maxSteps := 1000000) (disch := (first | omega | (simp only [go_sem] <;> omega) | fail)) only [go_sem, ints, bools, mat] | ((first | refine goIf_b (fun h => ?_) (fun h => ?_) | refine goG_b (fun h => ?_) (fun h => ?_) | refine goTG_b (fun h => ?_) (fun h => ?_) | refine goOG_b (fun h => ?_) (fun h => ?_)) <;> ((try simp only [Bool.not_eq_true', Bool.not_eq_false'] at h); (try simp only [h]); (try simp only [decide_eq_true_eq, decide_eq_false_iff_not, bne_iff_ne, bne_eq_false_iff_eq, beq_iff_eq, beq_eq_false_iff_ne, ne_eq, Int.not_lt, Int.not_le, Bool.and_eq_true, Bool.and_eq_false_iff, Bool.or_eq_true, Bool.or_eq_false_iff] at h))))
  first | refine goC_call [.r] (d_impl_count l hs) ?_ | refine goOC_call [.r] (d_impl_count l hs) ?_
  repeat' (first | simp -implicitDefEqProofs (maxSteps := 1000000) (disch := (first | omega | (simp only [go_sem] <;> omega) | fail)) only [go_sem, ints, bools, mat] | ((first | refine goIf_b (fun h => ?_) (fun h => ?_) | refine goG_b (fun h => ?_) (fun h => ?_) | refine goTG_b (fun h => ?_) (fun h => ?_) | refine goOG_b (fun h => ?_) (fun h => ?_)) <;> ((try simp only [Bool.not_eq_true', Bool.not_eq_false'] at h); (try simp only [h]); (try simp only [decide_eq_true_eq, decide_eq_false_iff_not, bne_iff_ne, bne_eq_false_iff_eq, beq_iff_eq, beq_eq_false_iff_ne, ne_eq, Int.not_lt, Int.not_le, Bool.and_eq_true, Bool.and_eq_false_iff, Bool.or_eq_true, Bool.or_eq_false_iff] at h))))
  refine go_loop (fun (j : Nat) => ⟨[(2, .d (di r)), (7, .sl 0 0 (prodM l).toNat 8), (8, .sl 1 0 (prodM l).toNat 1), (18, .d (ints c)), (19, .d (di c.length)), (20, .d (di j))], [some (.dat 8 (digs (digsM l (allW l)))), some (.dat 1 ((timesN l c r j).map di))]⟩) (fun j => j ≤ c.length) (fun j => c.length - j) 0 ?_ ?_ ?_
  · simp -implicitDefEqProofs (maxSteps := 1000000) (disch := (first | omega | (simp only [go_sem] <;> omega) | fail)) only [go_sem, ints, bools, mat]
    rw [timesN_zero]
  · simp
  · rintro j hj J hJ
    have hg0 := fun h => isCodeM_get hcc (j := j) h
    repeat' (first | simp -implicitDefEqProofs (maxSteps := 1000000) (disch := (first | omega | (simp only [go_sem] <;> omega) | fail)) only [go_sem, ints, bools, mat] | ((first | refine goIf_b (fun h => ?_) (fun h => ?_) | refine goG_b (fun h => ?_) (fun h => ?_) | refine goTG_b (fun h => ?_) (fun h => ?_) | refine goOG_b (fun h => ?_) (fun h => ?_)) <;> ((try simp only [Bool.not_eq_true', Bool.not_eq_false'] at h); (try simp only [h]); (try simp only [decide_eq_true_eq, decide_eq_false_iff_not, bne_iff_ne, bne_eq_false_iff_eq, beq_iff_eq, beq_eq_false_iff_ne, ne_eq, Int.not_lt, Int.not_le, Bool.and_eq_true, Bool.and_eq_false_iff, Bool.or_eq_true, Bool.or_eq_false_iff] at h))))
    · refine go_loop (fun (k : Nat) => ⟨[(2, .d (di r)), (7, .sl 0 0 (prodM l).toNat 8), (8, .sl 1 0 (prodM l).toNat 1), (10, .d (di (c.getD j 0))), (18, .d (ints c)), (19, .d (di c.length)), (20, .d (di j)), (24, .sl 0 0 (prodM l).toNat 8), (25, .d (di (prodM l).toNat)), (26, .d (di k))], [some (.dat 8 (digs (digsM l (allW l)))), some (.dat 1 ((mixT l c r j k).map di))]⟩) (fun k => k ≤ (prodM l).toNat) (fun k => (prodM l).toNat - k) 0 ?_ ?_ ?_
      · (simp -implicitDefEqProofs (maxSteps := 1000000) (disch := (first | omega | (simp only [go_sem] <;> omega) | fail)) only [go_sem, ints, bools, mat] <;> rfl)
      · simp
      · rintro k hk K hK
        have hg1 := fun h => digsM_get l (allW l) (i := k) h
        have hw1 := fun h => allW_get l (i := k) h
        have hg2 := fun h => digsM_get l (allW l) (i := (c.getD j 0).toNat) h
        have hw2 := fun h => allW_get l (i := (c.getD j 0).toNat) h
        have hb := cntN_bnd l c r k j
        have hmg := fun h => mixT_get (l := l) c r j k (i := k) h
        repeat' (first | simp -implicitDefEqProofs (maxSteps := 1000000) (disch := (first | omega | (simp only [go_sem] <;> omega) | fail)) only [go_sem, ints, bools, mat] | ((first | refine goIf_b (fun h => ?_) (fun h => ?_) | refine goG_b (fun h => ?_) (fun h => ?_) | refine goTG_b (fun h => ?_) (fun h => ?_) | refine goOG_b (fun h => ?_) (fun h => ?_)) <;> ((try simp only [Bool.not_eq_true', Bool.not_eq_false'] at h); (try simp only [h]); (try simp only [decide_eq_true_eq, decide_eq_false_iff_not, bne_iff_ne, bne_eq_false_iff_eq, beq_iff_eq, beq_eq_false_iff_ne, ne_eq, Int.not_lt, Int.not_le, Bool.and_eq_true, Bool.and_eq_false_iff, Bool.or_eq_true, Bool.or_eq_false_iff] at h))))
        · have e2 : (((c.getD j 0).toNat : Nat) : Int) = c.getD j 0 := by omega
          rw [hg1 (by omega), hw1 (by omega), hg2 (by omega), hw2 (by omega), e2]
          have hmg := hmg (by omega)
          rw [if_neg (by omega)] at hmg
          first | refine goC_call [.r, .r] (d_impl_far (digM l (c.getD j 0)) (digM l k) (by rw [digM_len, digM_len]) (by rw [digM_len]; omega)) ?_ | refine goOC_call [.r, .r] (d_impl_far (digM l (c.getD j 0)) (digM l k) (by rw [digM_len, digM_len]) (by rw [digM_len]; omega)) ?_
          repeat' (first | simp -implicitDefEqProofs (maxSteps := 1000000) (disch := (first | omega | (simp only [go_sem] <;> omega) | fail)) only [go_sem, ints, bools, mat] | ((first | refine goIf_b (fun h => ?_) (fun h => ?_) | refine goG_b (fun h => ?_) (fun h => ?_) | refine goTG_b (fun h => ?_) (fun h => ?_) | refine goOG_b (fun h => ?_) (fun h => ?_)) <;> ((try simp only [Bool.not_eq_true', Bool.not_eq_false'] at h); (try simp only [h]); (try simp only [decide_eq_true_eq, decide_eq_false_iff_not, bne_iff_ne, bne_eq_false_iff_eq, beq_iff_eq, beq_eq_false_iff_ne, ne_eq, Int.not_lt, Int.not_le, Bool.and_eq_true, Bool.and_eq_false_iff, Bool.or_eq_true, Bool.or_eq_false_iff] at h))))
          · refine hK (k + 1) (by omega) (by omega) _ ?_
            simp -implicitDefEqProofs (maxSteps := 1000000) (disch := (first | omega | (simp only [go_sem] <;> omega) | fail)) only [go_sem, ints, bools, mat]
            rw [hmg, ← mixT_step l c r j k (by omega), cntN, if_pos (by assumption)]; rfl
          · refine hK (k + 1) (by omega) (by omega) _ ?_
            simp -implicitDefEqProofs (maxSteps := 1000000) (disch := (first | omega | (simp only [go_sem] <;> omega) | fail)) only [go_sem, ints, bools, mat]
            rw [mixT_same l c r j k (by omega) (by simp only [distM]; omega)]; rfl
        · have : k = (prodM l).toNat := by omega
          subst this
          refine hJ (j + 1) (by omega) (by omega) _ ?_
          simp -implicitDefEqProofs (maxSteps := 1000000) (disch := (first | omega | (simp only [go_sem] <;> omega) | fail)) only [go_sem, ints, bools, mat]
          rw [mixT_full]; rfl
    · have : j = c.length := by omega
      subst this
      repeat' (first | simp -implicitDefEqProofs (maxSteps := 1000000) (disch := (first | omega | (simp only [go_sem] <;> omega) | fail)) only [go_sem, ints, bools, mat] | ((first | refine goIf_b (fun h => ?_) (fun h => ?_) | refine goG_b (fun h => ?_) (fun h => ?_) | refine goTG_b (fun h => ?_) (fun h => ?_) | refine goOG_b (fun h => ?_) (fun h => ?_)) <;> ((try simp only [Bool.not_eq_true', Bool.not_eq_false'] at h); (try simp only [h]); (try simp only [decide_eq_true_eq, decide_eq_false_iff_not, bne_iff_ne, bne_eq_false_iff_eq, beq_iff_eq, beq_eq_false_iff_ne, ne_eq, Int.not_lt, Int.not_le, Bool.and_eq_true, Bool.and_eq_false_iff, Bool.or_eq_true, Bool.or_eq_false_iff] at h))))
def ballM (l : List Int) (w r : Int) : List Int := (allW l).filter fun u => decide (distM l u w ≤ r)
theorem d_spec_l01Ball (l : List Int) (hs : isSpaceM l = true) (w r : Int) (hw : 0 ≤ w) (hw2 : w < 1000000000000) : Den PA f_spec_l01Ball [.d (.agg [ints l]), .d (di w), .d (di r)] [.any, .any, .any] (.own 1 ((ballM l w r).map di)) := by
  have hn := isSpaceM_n hs
  have hp := isSpaceM_prod hs
  have hp1 := prodM_pos (isSpaceM_szs hs)
  have hal := allW_len l
  refine den_go [] l_spec_l01Ball ?_
  repeat' (first | simp -implicitDefEqProofs (maxSteps := 1000000) (disch := (first | omega | (simp only [go_sem] <;> omega) | fail)) only [go_sem, ints, bools, mat, c_spec_l01Ball] | ((first | refine goIf_b (fun h => ?_) (fun h => ?_) | refine goG_b (fun h => ?_) (fun h => ?_) | refine goTG_b (fun h => ?_) (fun h => ?_) | refine goOG_b (fun h => ?_) (fun h => ?_)) <;> ((try simp only [Bool.not_eq_true', Bool.not_eq_false'] at h); (try simp only [h]); (try simp only [decide_eq_true_eq, decide_eq_false_iff_not, bne_iff_ne, bne_eq_false_iff_eq, beq_iff_eq, beq_eq_false_iff_ne, ne_eq, Int.not_lt, Int.not_le, Bool.and_eq_true, Bool.and_eq_false_iff, Bool.or_eq_true, Bool.or_eq_false_iff] at h))))
  refine go_loop (fun (j : Nat) => ⟨[(1, .d (di w)), (2, .d (di r)), (3, .ref 0 0), (7, .sl 1 0 (((allW l).take j).filter fun u => decide (distM l u w ≤ r)).length 1), (8, .d (di j))], [some (.var [ints l]), some (.dat 1 ((((allW l).take j).filter fun u => decide (distM l u w ≤ r)).map di))]⟩) (fun j => j ≤ (prodM l).toNat) (fun j => (prodM l).toNat - j) 0 ?_ ?_ ?_
  · (simp -implicitDefEqProofs (maxSteps := 1000000) (disch := (first | omega | (simp only [go_sem] <;> omega) | fail)) only [go_sem, ints, bools, mat] <;> rfl)
  · simp
  · rintro j hj J hJ
    have hfl := filter_len_le (fun u => decide (distM l u w ≤ r)) ((allW l).take j) j (by simp; omega)
    repeat' (first | simp -implicitDefEqProofs (maxSteps := 1000000) (disch := (first | omega | (simp only [go_sem] <;> omega) | fail)) only [go_sem, ints, bools, mat] | ((first | refine goIf_b (fun h => ?_) (fun h => ?_) | refine goG_b (fun h => ?_) (fun h => ?_) | refine goTG_b (fun h => ?_) (fun h => ?_) | refine goOG_b (fun h => ?_) (fun h => ?_)) <;> ((try simp only [Bool.not_eq_true', Bool.not_eq_false'] at h); (try simp only [h]); (try simp only [decide_eq_true_eq, decide_eq_false_iff_not, bne_iff_ne, bne_eq_false_iff_eq, beq_iff_eq, beq_eq_false_iff_ne, ne_eq, Int.not_lt, Int.not_le, Bool.and_eq_true, Bool.and_eq_false_iff, Bool.or_eq_true, Bool.or_eq_false_iff] at h))))
    first | refine goC_call [.r] (d_spec_l01N l (by omega) (isSpaceM_q hs)) ?_ | refine goOC_call [.r] (d_spec_l01N l (by omega) (isSpaceM_q hs)) ?_
    repeat' (first | simp -implicitDefEqProofs (maxSteps := 1000000) (disch := (first | omega | (simp only [go_sem] <;> omega) | fail)) only [go_sem, ints, bools, mat] | ((first | refine goIf_b (fun h => ?_) (fun h => ?_) | refine goG_b (fun h => ?_) (fun h => ?_) | refine goTG_b (fun h => ?_) (fun h => ?_) | refine goOG_b (fun h => ?_) (fun h => ?_)) <;> ((try simp only [Bool.not_eq_true', Bool.not_eq_false'] at h); (try simp only [h]); (try simp only [decide_eq_true_eq, decide_eq_false_iff_not, bne_iff_ne, bne_eq_false_iff_eq, beq_iff_eq, beq_eq_false_iff_ne, ne_eq, Int.not_lt, Int.not_le, Bool.and_eq_true, Bool.and_eq_false_iff, Bool.or_eq_true, Bool.or_eq_false_iff] at h))))
    · first | refine goC_call [.r, .r, .r] (d_spec_l01Distance l hs j w (by omega) (by omega) hw hw2) ?_ | refine goOC_call [.r, .r, .r] (d_spec_l01Distance l hs j w (by omega) (by omega) hw hw2) ?_
      repeat' (first | simp -implicitDefEqProofs (maxSteps := 1000000) (disch := (first | omega | (simp only [go_sem] <;> omega) | fail)) only [go_sem, ints, bools, mat] | ((first | refine goIf_b (fun h => ?_) (fun h => ?_) | refine goG_b (fun h => ?_) (fun h => ?_) | refine goTG_b (fun h => ?_) (fun h => ?_) | refine goOG_b (fun h => ?_) (fun h => ?_)) <;> ((try simp only [Bool.not_eq_true', Bool.not_eq_false'] at h); (try simp only [h]); (try simp only [decide_eq_true_eq, decide_eq_false_iff_not, bne_iff_ne, bne_eq_false_iff_eq, beq_iff_eq, beq_eq_false_iff_ne, ne_eq, Int.not_lt, Int.not_le, Bool.and_eq_true, Bool.and_eq_false_iff, Bool.or_eq_true, Bool.or_eq_false_iff] at h))))
      · refine hJ (j + 1) (by omega) (by omega) _ ?_
        simp -implicitDefEqProofs (maxSteps := 1000000) (disch := (first | omega | (simp only [go_sem] <;> omega) | fail)) only [go_sem, ints, bools, mat]
        rw [take_allW l (by omega), List.filter_append]; simp [h]
      · refine hJ (j + 1) (by omega) (by omega) _ ?_
        simp -implicitDefEqProofs (maxSteps := 1000000) (disch := (first | omega | (simp only [go_sem] <;> omega) | fail)) only [go_sem, ints, bools, mat]
        rw [take_allW l (by omega), List.filter_append]; simp [show ¬ distM l j w ≤ r by omega]
    · have : j = (prodM l).toNat := by omega
      subst this
      repeat' (first | simp -implicitDefEqProofs (maxSteps := 1000000) (disch := (first | omega | (simp only [go_sem] <;> omega) | fail)) only [go_sem, ints, bools, mat] | ((first | refine goIf_b (fun h => ?_) (fun h => ?_) | refine goG_b (fun h => ?_) (fun h => ?_) | refine goTG_b (fun h => ?_) (fun h => ?_) | refine goOG_b (fun h => ?_) (fun h => ?_)) <;> ((try simp only [Bool.not_eq_true', Bool.not_eq_false'] at h); (try simp only [h]); (try simp only [decide_eq_true_eq, decide_eq_false_iff_not, bne_iff_ne, bne_eq_false_iff_eq, beq_iff_eq, beq_eq_false_iff_ne, ne_eq, Int.not_lt, Int.not_le, Bool.and_eq_true, Bool.and_eq_false_iff, Bool.or_eq_true, Bool.or_eq_false_iff] at h))))
      rfl
theorem allW_nodup (l : List Int) : (allW l).Nodup := by
  unfold allW
  refine List.Pairwise.map _ ?_ (List.nodup_range (n := (prodM l).toNat))
  intro a b h e
  exact h (by omega)
theorem allW_mem (l : List Int) (u : Int) : u ∈ allW l ↔ 0 ≤ u ∧ u < (prodM l).toNat := by
  unfold allW
  rw [List.mem_map]
  constructor
  · rintro ⟨i, hi, rfl⟩; have := List.mem_range.1 hi; omega
  · rintro ⟨h1, h2⟩; exact ⟨u.toNat, List.mem_range.2 (by omega), by omega⟩
theorem foldl_hist_get (ds : List Int) : ∀ (o : List Int) (i : Nat), i < o.length → (∀ d, d ∈ ds → 0 ≤ d) → (ds.foldl histS o).getD i 0 = o.getD i 0 + (ds.count (i : Int) : Nat) := by
  induction ds with
  | nil => intro o i hi h; simp
  | cons d r ih =>
    intro o i hi h
    have hd := h d (by simp)
    rw [List.foldl_cons, ih (histS o d) i (by simp [histS]; exact hi) (fun x hx => h x (by simp [hx])), List.count_cons]
    simp only [histS, List.getD_eq_getElem?_getD, List.getElem?_set]
    by_cases e : d = (i : Int)
    · subst e; simp [hi]; omega
    · rw [if_neg (by omega)]
      simp [e]
theorem ballM_nodup (l : List Int) (w r : Int) : (ballM l w r).Nodup := (allW_nodup l).filter _
theorem ballM_mem (l : List Int) (w r u : Int) : u ∈ ballM l w r ↔ (0 ≤ u ∧ u < (prodM l).toNat) ∧ distM l u w ≤ r := by
  unfold ballM; rw [List.mem_filter, allW_mem]; simp
theorem ball_times (l c : List Int) (r : Int) (j : Nat) : (ballM l (c.getD j 0) r).foldl histS (timesN l c r j) = timesN l c r (j + 1) := by
  apply eq_getD
  · rw [foldl_hist_len, timesN_len, timesN_len]
  · intro i hi
    rw [foldl_hist_len, timesN_len] at hi
    rw [foldl_hist_get _ _ i (by rw [timesN_len]; exact hi) (fun d hd => ((ballM_mem l _ r d).1 hd).1.1), timesN_get c r j hi, timesN_get c r (j + 1) hi, cntN, (ballM_nodup l _ r).count]
    rw [distM_comm l (c.getD j 0)]
    by_cases hb : distM l i (c.getD j 0) ≤ r
    · rw [if_pos hb, if_pos ((ballM_mem l _ r _).2 ⟨⟨by omega, by omega⟩, hb⟩)]; rfl
    · rw [if_neg hb, if_neg (fun h => hb ((ballM_mem l _ r _).1 h).2)]; rfl
theorem foldl_take_step (o ds : List Int) {k : Nat} (h : k < ds.length) : (ds.take (k + 1)).foldl histS o = histS ((ds.take k).foldl histS o) (ds.getD k 0) := by
  rw [take_one ds h, List.foldl_append]; rfl
theorem d_spec_l02Times (l c : List Int) (r : Int) (hs : isSpaceM l = true) (hcc : isCodeM l c = true) (hc : c.length < 1048577) :
    Den PA f_spec_l02Times [.d (.agg [ints l]), .d (ints c), .d (di r)] [.any, .any, .any] (.own 1 ((timesM l c r).map di)) := by
  have hn := isSpaceM_n hs
  have hp := isSpaceM_prod hs
  have hp1 := prodM_pos (isSpaceM_szs hs)
  refine den_go [] l_spec_l02Times ?_
  repeat' (first | simp -implicitDefEqProofs (maxSteps := 1000000) (disch := (first | omega | (simp only [go_sem] <;> omega) | fail)) only [go_sem, ints, bools, mat, c_spec_l02Times] | ((first | refine goIf_b (fun h => ?_) (fun h => ?_) | refine goG_b (fun h => ?_) (fun h => ?_) | refine goTG_b (fun h => ?_) (fun h => ?_) | refine goOG_b (fun h => ?_) (fun h => ?_)) <;> ((try simp only [Bool.not_eq_true', Bool.not_eq_false'] at h); (try simp only [h]); (try simp only [decide_eq_true_eq, decide_eq_false_iff_not, bne_iff_ne, bne_eq_false_iff_eq, beq_iff_eq, beq_eq_false_iff_ne, ne_eq, Int.not_lt, Int.not_le, Bool.and_eq_true, Bool.and_eq_false_iff, Bool.or_eq_true, Bool.or_eq_false_iff] at h))))
  first | refine goC_call [.r] (d_spec_l01N l (by omega) (isSpaceM_q hs)) ?_ | refine goOC_call [.r] (d_spec_l01N l (by omega) (isSpaceM_q hs)) ?_
  repeat' (first | simp -implicitDefEqProofs (maxSteps := 1000000) (disch := (first | omega | (simp only [go_sem] <;> omega) | fail)) only [go_sem, ints, bools, mat] | ((first | refine goIf_b (fun h => ?_) (fun h => ?_) | refine goG_b (fun h => ?_) (fun h => ?_) | refine goTG_b (fun h => ?_) (fun h => ?_) | refine goOG_b (fun h => ?_) (fun h => ?_)) <;> ((try simp only [Bool.not_eq_true', Bool.not_eq_false'] at h); (try simp only [h]); (try simp only [decide_eq_true_eq, decide_eq_false_iff_not, bne_iff_ne, bne_eq_false_iff_eq, beq_iff_eq, beq_eq_false_iff_ne, ne_eq, Int.not_lt, Int.not_le, Bool.and_eq_true, Bool.and_eq_false_iff, Bool.or_eq_true, Bool.or_eq_false_iff] at h))))
  refine go_loop (fun (j : Nat) => ⟨[(1, .d (ints c)), (2, .d (di r)), (3, .ref 0 0), (7, .sl 1 0 (prodM l).toNat 1), (8, .d (di j))], [some (.var [ints l]), some (.dat 1 ((timesN l c r j).map di))]⟩) (fun j => j ≤ c.length) (fun j => c.length - j) 0 ?_ ?_ ?_
  · simp -implicitDefEqProofs (maxSteps := 1000000) (disch := (first | omega | (simp only [go_sem] <;> omega) | fail)) only [go_sem, ints, bools, mat]
    rw [timesN_zero]
  · simp
  · rintro j hj J hJ
    have hg0 := fun h => isCodeM_get hcc (j := j) h
    repeat' (first | simp -implicitDefEqProofs (maxSteps := 1000000) (disch := (first | omega | (simp only [go_sem] <;> omega) | fail)) only [go_sem, ints, bools, mat] | ((first | refine goIf_b (fun h => ?_) (fun h => ?_) | refine goG_b (fun h => ?_) (fun h => ?_) | refine goTG_b (fun h => ?_) (fun h => ?_) | refine goOG_b (fun h => ?_) (fun h => ?_)) <;> ((try simp only [Bool.not_eq_true', Bool.not_eq_false'] at h); (try simp only [h]); (try simp only [decide_eq_true_eq, decide_eq_false_iff_not, bne_iff_ne, bne_eq_false_iff_eq, beq_iff_eq, beq_eq_false_iff_ne, ne_eq, Int.not_lt, Int.not_le, Bool.and_eq_true, Bool.and_eq_false_iff, Bool.or_eq_true, Bool.or_eq_false_iff] at h))))
    · first | refine goC_call [.r, .r, .r] (d_spec_l01Ball l hs (c.getD j 0) r (by omega) (by omega)) ?_ | refine goOC_call [.r, .r, .r] (d_spec_l01Ball l hs (c.getD j 0) r (by omega) (by omega)) ?_
      repeat' (first | simp -implicitDefEqProofs (maxSteps := 1000000) (disch := (first | omega | (simp only [go_sem] <;> omega) | fail)) only [go_sem, ints, bools, mat] | ((first | refine goIf_b (fun h => ?_) (fun h => ?_) | refine goG_b (fun h => ?_) (fun h => ?_) | refine goTG_b (fun h => ?_) (fun h => ?_) | refine goOG_b (fun h => ?_) (fun h => ?_)) <;> ((try simp only [Bool.not_eq_true', Bool.not_eq_false'] at h); (try simp only [h]); (try simp only [decide_eq_true_eq, decide_eq_false_iff_not, bne_iff_ne, bne_eq_false_iff_eq, beq_iff_eq, beq_eq_false_iff_ne, ne_eq, Int.not_lt, Int.not_le, Bool.and_eq_true, Bool.and_eq_false_iff, Bool.or_eq_true, Bool.or_eq_false_iff] at h))))
      generalize hB : ballM l (c.getD j 0) r = B
      have hmem : ∀ k, k < B.length → 0 ≤ B.getD k 0 ∧ B.getD k 0 < (prodM l).toNat := fun k hk => by
        have := (ballM_mem l (c.getD j 0) r (B.getD k 0)).1 (by rw [hB]; exact mem_getD hk)
        exact this.1
      have hBl : B.length ≤ (prodM l).toNat := by
        rw [← hB]; exact filter_len_le _ _ _ (by rw [allW_len]; exact Nat.le_refl _)
      refine go_loop (fun (k : Nat) => ⟨[(1, .d (ints c)), (2, .d (di r)), (3, .ref 0 0), (7, .sl 1 0 (prodM l).toNat 1), (8, .d (di j)), (9, .sl 2 0 B.length 1), (10, .d (di k))], [some (.var [ints l]), some (.dat 1 (((B.take k).foldl histS (timesN l c r j)).map di)), some (.dat 1 (B.map di))]⟩) (fun k => k ≤ B.length) (fun k => B.length - k) 0 ?_ ?_ ?_
      · (simp -implicitDefEqProofs (maxSteps := 1000000) (disch := (first | omega | (simp only [go_sem] <;> omega) | fail)) only [go_sem, ints, bools, mat] <;> rfl)
      · simp
      · rintro k hk K hK
        have hm := hmem k
        have hlen : ((B.take k).foldl histS (timesN l c r j)).length = (prodM l).toNat := by rw [foldl_hist_len, timesN_len]
        have hb := foldl_hist_bnd (B.take k) (timesN l c r j) j (fun i => by
          by_cases hi : i < (prodM l).toNat
          · rw [timesN_get c r j hi]; exact cntN_bnd l c r i j
          · have : (timesN l c r j).getD i 0 = 0 := by
              rw [List.getD_eq_getElem?_getD, List.getElem?_eq_none (by rw [timesN_len]; omega)]; rfl
            rw [this]; omega) (by omega) (B.getD k 0).toNat
        have hlt : (B.take k).length = k := by simp; omega
        repeat' (first | simp -implicitDefEqProofs (maxSteps := 1000000) (disch := (first | omega | (simp only [go_sem] <;> omega) | fail)) only [go_sem, ints, bools, mat] | ((first | refine goIf_b (fun h => ?_) (fun h => ?_) | refine goG_b (fun h => ?_) (fun h => ?_) | refine goTG_b (fun h => ?_) (fun h => ?_) | refine goOG_b (fun h => ?_) (fun h => ?_)) <;> ((try simp only [Bool.not_eq_true', Bool.not_eq_false'] at h); (try simp only [h]); (try simp only [decide_eq_true_eq, decide_eq_false_iff_not, bne_iff_ne, bne_eq_false_iff_eq, beq_iff_eq, beq_eq_false_iff_ne, ne_eq, Int.not_lt, Int.not_le, Bool.and_eq_true, Bool.and_eq_false_iff, Bool.or_eq_true, Bool.or_eq_false_iff] at h))))
        · refine hK (k + 1) (by omega) (by omega) _ ?_
          simp -implicitDefEqProofs (maxSteps := 1000000) (disch := (first | omega | (simp only [go_sem] <;> omega) | fail)) only [go_sem, ints, bools, mat]
          rw [foldl_take_step _ _ (by omega), histS]; rfl
        · have : k = B.length := by omega
          subst this
          refine hJ (j + 1) (by omega) (by omega) _ ?_
          simp -implicitDefEqProofs (maxSteps := 1000000) (disch := (first | omega | (simp only [go_sem] <;> omega) | fail)) only [go_sem, ints, bools, mat]
          rw [← ball_times, hB]; rfl
    · have : j = c.length := by omega
      subst this
      repeat' (first | simp -implicitDefEqProofs (maxSteps := 1000000) (disch := (first | omega | (simp only [go_sem] <;> omega) | fail)) only [go_sem, ints, bools, mat] | ((first | refine goIf_b (fun h => ?_) (fun h => ?_) | refine goG_b (fun h => ?_) (fun h => ?_) | refine goTG_b (fun h => ?_) (fun h => ?_) | refine goOG_b (fun h => ?_) (fun h => ?_)) <;> ((try simp only [Bool.not_eq_true', Bool.not_eq_false'] at h); (try simp only [h]); (try simp only [decide_eq_true_eq, decide_eq_false_iff_not, bne_iff_ne, bne_eq_false_iff_eq, beq_iff_eq, beq_eq_false_iff_ne, ne_eq, Int.not_lt, Int.not_le, Bool.and_eq_true, Bool.and_eq_false_iff, Bool.or_eq_true, Bool.or_eq_false_iff] at h))))
abbrev ccM (l c : List Int) (r : Int) : Int := if ggM l c = 0 then (if 0 ≤ r ∧ r ≤ 8 then 0 else 2) else ggM l c
theorem ccM_ok {l c : List Int} {r : Int} (h : ccM l c r = 0) : isSpaceM l = true ∧ isCodeM l c = true ∧ 0 ≤ r ∧ r ≤ 8 := by
  unfold ccM at h
  split at h
  · rename_i hg
    split at h
    · rename_i hd; exact ⟨(ggM_ok hg).1, (ggM_ok hg).2, hd⟩
    · cases h
  · rename_i hg; exact (hg h).elim
theorem d_impl_coverCode (l c : List Int) (hl : l.length < 1048577) (hc : c.length < 1048577) (r : Int) : Den PA f_impl_coverCode [.d (.agg [ints l]), .d (ints c), .d (di r)] [.any, .any, .any] (.d (di (ccM l c r))) := by
  refine den_go [] l_impl_coverCode ?_
  simp -implicitDefEqProofs (maxSteps := 1000000) (disch := (first | omega | (simp only [go_sem] <;> omega) | fail)) only [go_sem, ints, bools, mat, c_impl_coverCode]
  first | refine goC_call [.r, .r, .r] (d_impl_codeCode0 l hl c hc) ?_ | refine goOC_call [.r, .r, .r] (d_impl_codeCode0 l hl c hc) ?_
  by_cases h : ggM l c = 0
  · rw [ccM, if_pos h, h]
    repeat' (first | simp -implicitDefEqProofs (maxSteps := 1000000) (disch := (first | omega | (simp only [go_sem] <;> omega) | fail)) only [go_sem, ints, bools, mat] | ((first | refine goIf_b (fun h => ?_) (fun h => ?_) | refine goG_b (fun h => ?_) (fun h => ?_) | refine goTG_b (fun h => ?_) (fun h => ?_) | refine goOG_b (fun h => ?_) (fun h => ?_)) <;> ((try simp only [Bool.not_eq_true', Bool.not_eq_false'] at h); (try simp only [h]); (try simp only [decide_eq_true_eq, decide_eq_false_iff_not, bne_iff_ne, bne_eq_false_iff_eq, beq_iff_eq, beq_eq_false_iff_ne, ne_eq, Int.not_lt, Int.not_le, Bool.and_eq_true, Bool.and_eq_false_iff, Bool.or_eq_true, Bool.or_eq_false_iff] at h))))
    first | refine goC_call [.r] (d_impl_isRadius r) ?_ | refine goOC_call [.r] (d_impl_isRadius r) ?_
    repeat' (first | simp -implicitDefEqProofs (maxSteps := 1000000) (disch := (first | omega | (simp only [go_sem] <;> omega) | fail)) only [go_sem, ints, bools, mat] | ((first | refine goIf_b (fun h => ?_) (fun h => ?_) | refine goG_b (fun h => ?_) (fun h => ?_) | refine goTG_b (fun h => ?_) (fun h => ?_) | refine goOG_b (fun h => ?_) (fun h => ?_)) <;> ((try simp only [Bool.not_eq_true', Bool.not_eq_false'] at h); (try simp only [h]); (try simp only [decide_eq_true_eq, decide_eq_false_iff_not, bne_iff_ne, bne_eq_false_iff_eq, beq_iff_eq, beq_eq_false_iff_ne, ne_eq, Int.not_lt, Int.not_le, Bool.and_eq_true, Bool.and_eq_false_iff, Bool.or_eq_true, Bool.or_eq_false_iff] at h))))
    · rw [if_pos (by omega)]
    · rw [if_neg (by omega)]
  · rw [ccM, if_neg h]
    generalize ggM l c = b at h
    repeat' (first | simp -implicitDefEqProofs (maxSteps := 1000000) (disch := (first | omega | (simp only [go_sem] <;> omega) | fail)) only [go_sem, ints, bools, mat] | ((first | refine goIf_b (fun h => ?_) (fun h => ?_) | refine goG_b (fun h => ?_) (fun h => ?_) | refine goTG_b (fun h => ?_) (fun h => ?_) | refine goOG_b (fun h => ?_) (fun h => ?_)) <;> ((try simp only [Bool.not_eq_true', Bool.not_eq_false'] at h); (try simp only [h]); (try simp only [decide_eq_true_eq, decide_eq_false_iff_not, bne_iff_ne, bne_eq_false_iff_eq, beq_iff_eq, beq_eq_false_iff_ne, ne_eq, Int.not_lt, Int.not_le, Bool.and_eq_true, Bool.and_eq_false_iff, Bool.or_eq_true, Bool.or_eq_false_iff] at h))))
    all_goals (exfalso; omega)
theorem d_spec_l02Code (l c : List Int) (hl : l.length < 1048577) (hc : c.length < 1048577) (r : Int) : Den PA f_spec_l02Code [.d (.agg [ints l]), .d (ints c), .d (di r)] [.any, .any, .any] (.d (di (ccM l c r))) := by
  refine den_go [] l_spec_l02Code ?_
  simp -implicitDefEqProofs (maxSteps := 1000000) (disch := (first | omega | (simp only [go_sem] <;> omega) | fail)) only [go_sem, ints, bools, mat, c_spec_l02Code]
  first | refine goC_call [.r, .r] (d_spec_l01Given l hl c hc) ?_ | refine goOC_call [.r, .r] (d_spec_l01Given l hl c hc) ?_
  by_cases h : ggM l c = 0
  · rw [ccM, if_pos h, h]
    repeat' (first | simp -implicitDefEqProofs (maxSteps := 1000000) (disch := (first | omega | (simp only [go_sem] <;> omega) | fail)) only [go_sem, ints, bools, mat] | ((first | refine goIf_b (fun h => ?_) (fun h => ?_) | refine goG_b (fun h => ?_) (fun h => ?_) | refine goTG_b (fun h => ?_) (fun h => ?_) | refine goOG_b (fun h => ?_) (fun h => ?_)) <;> ((try simp only [Bool.not_eq_true', Bool.not_eq_false'] at h); (try simp only [h]); (try simp only [decide_eq_true_eq, decide_eq_false_iff_not, bne_iff_ne, bne_eq_false_iff_eq, beq_iff_eq, beq_eq_false_iff_ne, ne_eq, Int.not_lt, Int.not_le, Bool.and_eq_true, Bool.and_eq_false_iff, Bool.or_eq_true, Bool.or_eq_false_iff] at h))))
    first | refine goC_call [.r, .r, .r] (d_spec_l01In r 0 8) ?_ | refine goOC_call [.r, .r, .r] (d_spec_l01In r 0 8) ?_
    repeat' (first | simp -implicitDefEqProofs (maxSteps := 1000000) (disch := (first | omega | (simp only [go_sem] <;> omega) | fail)) only [go_sem, ints, bools, mat] | ((first | refine goIf_b (fun h => ?_) (fun h => ?_) | refine goG_b (fun h => ?_) (fun h => ?_) | refine goTG_b (fun h => ?_) (fun h => ?_) | refine goOG_b (fun h => ?_) (fun h => ?_)) <;> ((try simp only [Bool.not_eq_true', Bool.not_eq_false'] at h); (try simp only [h]); (try simp only [decide_eq_true_eq, decide_eq_false_iff_not, bne_iff_ne, bne_eq_false_iff_eq, beq_iff_eq, beq_eq_false_iff_ne, ne_eq, Int.not_lt, Int.not_le, Bool.and_eq_true, Bool.and_eq_false_iff, Bool.or_eq_true, Bool.or_eq_false_iff] at h))))
    · rw [if_pos (by omega)]
    · rw [if_neg (by omega)]
  · rw [ccM, if_neg h]
    generalize ggM l c = b at h
    repeat' (first | simp -implicitDefEqProofs (maxSteps := 1000000) (disch := (first | omega | (simp only [go_sem] <;> omega) | fail)) only [go_sem, ints, bools, mat] | ((first | refine goIf_b (fun h => ?_) (fun h => ?_) | refine goG_b (fun h => ?_) (fun h => ?_) | refine goTG_b (fun h => ?_) (fun h => ?_) | refine goOG_b (fun h => ?_) (fun h => ?_)) <;> ((try simp only [Bool.not_eq_true', Bool.not_eq_false'] at h); (try simp only [h]); (try simp only [decide_eq_true_eq, decide_eq_false_iff_not, bne_iff_ne, bne_eq_false_iff_eq, beq_iff_eq, beq_eq_false_iff_ne, ne_eq, Int.not_lt, Int.not_le, Bool.and_eq_true, Bool.and_eq_false_iff, Bool.or_eq_true, Bool.or_eq_false_iff] at h))))
    all_goals (exfalso; omega)
def perfB (l c : List Int) (r : Int) : Bool := (timesM l c r).all fun n => n == 1
theorem d_impl_isPerfect_1 (n : Int) : Den PA f_impl_isPerfect_1 [.d (di n)] [.any] (.d (db (n != 1))) := by
  refine den_go [] l_impl_isPerfect_1 ?_
  repeat' (first | simp -implicitDefEqProofs (maxSteps := 1000000) (disch := (first | omega | (simp only [go_sem] <;> omega) | fail)) only [go_sem, ints, bools, mat, c_impl_isPerfect_1] | ((first | refine goIf_b (fun h => ?_) (fun h => ?_) | refine goG_b (fun h => ?_) (fun h => ?_) | refine goTG_b (fun h => ?_) (fun h => ?_) | refine goOG_b (fun h => ?_) (fun h => ?_)) <;> ((try simp only [Bool.not_eq_true', Bool.not_eq_false'] at h); (try simp only [h]); (try simp only [decide_eq_true_eq, decide_eq_false_iff_not, bne_iff_ne, bne_eq_false_iff_eq, beq_iff_eq, beq_eq_false_iff_ne, ne_eq, Int.not_lt, Int.not_le, Bool.and_eq_true, Bool.and_eq_false_iff, Bool.or_eq_true, Bool.or_eq_false_iff] at h))))
theorem d_impl_isPerfect (l c : List Int) (r : Int) (hs : isSpaceM l = true) (hcc : isCodeM l c = true) (hc : c.length < 1048577) :
    Den PA f_impl_isPerfect [.d (.agg [ints l]), .d (ints c), .d (di r)] [.any, .any, .any] (.d (db (perfB l c r))) := by
  have hp := isSpaceM_prod hs
  refine den_go [] l_impl_isPerfect ?_
  repeat' (first | simp -implicitDefEqProofs (maxSteps := 1000000) (disch := (first | omega | (simp only [go_sem] <;> omega) | fail)) only [go_sem, ints, bools, mat, c_impl_isPerfect] | ((first | refine goIf_b (fun h => ?_) (fun h => ?_) | refine goG_b (fun h => ?_) (fun h => ?_) | refine goTG_b (fun h => ?_) (fun h => ?_) | refine goOG_b (fun h => ?_) (fun h => ?_)) <;> ((try simp only [Bool.not_eq_true', Bool.not_eq_false'] at h); (try simp only [h]); (try simp only [decide_eq_true_eq, decide_eq_false_iff_not, bne_iff_ne, bne_eq_false_iff_eq, beq_iff_eq, beq_eq_false_iff_ne, ne_eq, Int.not_lt, Int.not_le, Bool.and_eq_true, Bool.and_eq_false_iff, Bool.or_eq_true, Bool.or_eq_false_iff] at h))))
  first | refine goC_call [.r, .r, .r] (d_impl_times l c r hs hcc hc) ?_ | refine goOC_call [.r, .r, .r] (d_impl_times l c r hs hcc hc) ?_
  repeat' (first | simp -implicitDefEqProofs (maxSteps := 1000000) (disch := (first | omega | (simp only [go_sem] <;> omega) | fail)) only [go_sem, ints, bools, mat] | ((first | refine goIf_b (fun h => ?_) (fun h => ?_) | refine goG_b (fun h => ?_) (fun h => ?_) | refine goTG_b (fun h => ?_) (fun h => ?_) | refine goOG_b (fun h => ?_) (fun h => ?_)) <;> ((try simp only [Bool.not_eq_true', Bool.not_eq_false'] at h); (try simp only [h]); (try simp only [decide_eq_true_eq, decide_eq_false_iff_not, bne_iff_ne, bne_eq_false_iff_eq, beq_iff_eq, beq_eq_false_iff_ne, ne_eq, Int.not_lt, Int.not_le, Bool.and_eq_true, Bool.and_eq_false_iff, Bool.or_eq_true, Bool.or_eq_false_iff] at h))))
  first | refine goC_call [.r, .g (fn1 fun n => n != 1)] (d_slices_ContainsFunc (timesM l c r) (fun n => n != 1) _ (fn1_mk _) (by rw [timesN_len]; omega)) ?_ | refine goOC_call [.r, .g (fn1 fun n => n != 1)] (d_slices_ContainsFunc (timesM l c r) (fun n => n != 1) _ (fn1_mk _) (by rw [timesN_len]; omega)) ?_
  repeat' (first | simp -implicitDefEqProofs (maxSteps := 1000000) (disch := (first | omega | (simp only [go_sem] <;> omega) | fail)) only [go_sem, ints, bools, mat] | ((first | refine goIf_b (fun h => ?_) (fun h => ?_) | refine goG_b (fun h => ?_) (fun h => ?_) | refine goTG_b (fun h => ?_) (fun h => ?_) | refine goOG_b (fun h => ?_) (fun h => ?_)) <;> ((try simp only [Bool.not_eq_true', Bool.not_eq_false'] at h); (try simp only [h]); (try simp only [decide_eq_true_eq, decide_eq_false_iff_not, bne_iff_ne, bne_eq_false_iff_eq, beq_iff_eq, beq_eq_false_iff_ne, ne_eq, Int.not_lt, Int.not_le, Bool.and_eq_true, Bool.and_eq_false_iff, Bool.or_eq_true, Bool.or_eq_false_iff] at h))))
  refine chk_intro (fnOK_mk (d_impl_isPerfect_1 0).1 [] rfl fun ds r hg => ?_) ?_
  · obtain ⟨n, rfl, rfl⟩ := hg
    exact ⟨_, d_impl_isPerfect_1 n⟩
  repeat' (first | simp -implicitDefEqProofs (maxSteps := 1000000) (disch := (first | omega | (simp only [go_sem] <;> omega) | fail)) only [go_sem, ints, bools, mat] | ((first | refine goIf_b (fun h => ?_) (fun h => ?_) | refine goG_b (fun h => ?_) (fun h => ?_) | refine goTG_b (fun h => ?_) (fun h => ?_) | refine goOG_b (fun h => ?_) (fun h => ?_)) <;> ((try simp only [Bool.not_eq_true', Bool.not_eq_false'] at h); (try simp only [h]); (try simp only [decide_eq_true_eq, decide_eq_false_iff_not, bne_iff_ne, bne_eq_false_iff_eq, beq_iff_eq, beq_eq_false_iff_ne, ne_eq, Int.not_lt, Int.not_le, Bool.and_eq_true, Bool.and_eq_false_iff, Bool.or_eq_true, Bool.or_eq_false_iff] at h))))
  refine dbv ?_
  unfold perfB
  rw [Bool.eq_iff_iff, Bool.not_eq_true', List.any_eq_false, List.all_eq_true]
  simp
theorem all_one {t : List Int} : (t.all fun n => n == 1) = true ↔ ∀ j, j < t.length → t.getD j 0 = 1 := by
  simp only [all_getD, beq_iff_eq]
theorem d_spec_l06Is (l c : List Int) (r : Int) (hs : isSpaceM l = true) (hcc : isCodeM l c = true) (hc : c.length < 1048577) :
    Den PA f_spec_l06Is [.d (.agg [ints l]), .d (ints c), .d (di r)] [.any, .any, .any] (.d (db (perfB l c r))) := by
  have hp := isSpaceM_prod hs
  have hp1 := prodM_pos (isSpaceM_szs hs)
  have e := all_one (t := timesM l c r)
  rw [timesN_len] at e
  refine den_go [] l_spec_l06Is ?_
  repeat' (first | simp -implicitDefEqProofs (maxSteps := 1000000) (disch := (first | omega | (simp only [go_sem] <;> omega) | fail)) only [go_sem, ints, bools, mat, c_spec_l06Is] | ((first | refine goIf_b (fun h => ?_) (fun h => ?_) | refine goG_b (fun h => ?_) (fun h => ?_) | refine goTG_b (fun h => ?_) (fun h => ?_) | refine goOG_b (fun h => ?_) (fun h => ?_)) <;> ((try simp only [Bool.not_eq_true', Bool.not_eq_false'] at h); (try simp only [h]); (try simp only [decide_eq_true_eq, decide_eq_false_iff_not, bne_iff_ne, bne_eq_false_iff_eq, beq_iff_eq, beq_eq_false_iff_ne, ne_eq, Int.not_lt, Int.not_le, Bool.and_eq_true, Bool.and_eq_false_iff, Bool.or_eq_true, Bool.or_eq_false_iff] at h))))
  first | refine goC_call [.r, .r, .r] (d_spec_l02Times l c r hs hcc hc) ?_ | refine goOC_call [.r, .r, .r] (d_spec_l02Times l c r hs hcc hc) ?_
  repeat' (first | simp -implicitDefEqProofs (maxSteps := 1000000) (disch := (first | omega | (simp only [go_sem] <;> omega) | fail)) only [go_sem, ints, bools, mat] | ((first | refine goIf_b (fun h => ?_) (fun h => ?_) | refine goG_b (fun h => ?_) (fun h => ?_) | refine goTG_b (fun h => ?_) (fun h => ?_) | refine goOG_b (fun h => ?_) (fun h => ?_)) <;> ((try simp only [Bool.not_eq_true', Bool.not_eq_false'] at h); (try simp only [h]); (try simp only [decide_eq_true_eq, decide_eq_false_iff_not, bne_iff_ne, bne_eq_false_iff_eq, beq_iff_eq, beq_eq_false_iff_ne, ne_eq, Int.not_lt, Int.not_le, Bool.and_eq_true, Bool.and_eq_false_iff, Bool.or_eq_true, Bool.or_eq_false_iff] at h))))
  refine go_loop (fun (j : Nat) => ⟨[(7, .sl 0 0 (prodM l).toNat 1), (14, .d (di (prodM l).toNat)), (15, .d (di j))], [some (.dat 1 ((timesM l c r).map di))]⟩) (fun j => j ≤ (prodM l).toNat ∧ ∀ i, i < j → (timesM l c r).getD i 0 = 1) (fun j => (prodM l).toNat - j) 0 ?_ ?_ ?_
  · (simp -implicitDefEqProofs (maxSteps := 1000000) (disch := (first | omega | (simp only [go_sem] <;> omega) | fail)) only [go_sem, ints, bools, mat] <;> rfl)
  · simp
  · rintro j ⟨hj, hi⟩ J hJ
    repeat' (first | simp -implicitDefEqProofs (maxSteps := 1000000) (disch := (first | omega | (simp only [go_sem] <;> omega) | fail)) only [go_sem, ints, bools, mat] | ((first | refine goIf_b (fun h => ?_) (fun h => ?_) | refine goG_b (fun h => ?_) (fun h => ?_) | refine goTG_b (fun h => ?_) (fun h => ?_) | refine goOG_b (fun h => ?_) (fun h => ?_)) <;> ((try simp only [Bool.not_eq_true', Bool.not_eq_false'] at h); (try simp only [h]); (try simp only [decide_eq_true_eq, decide_eq_false_iff_not, bne_iff_ne, bne_eq_false_iff_eq, beq_iff_eq, beq_eq_false_iff_ne, ne_eq, Int.not_lt, Int.not_le, Bool.and_eq_true, Bool.and_eq_false_iff, Bool.or_eq_true, Bool.or_eq_false_iff] at h))))
    · exact dbF fun h' => h (e.1 h' j (by omega))
    · refine hJ (j + 1) ⟨by omega, all_ext hi h⟩ (by omega) _ (by (simp -implicitDefEqProofs (maxSteps := 1000000) (disch := (first | omega | (simp only [go_sem] <;> omega) | fail)) only [go_sem, ints, bools, mat] <;> rfl))
    · exact dbT (e.2 fun i hi' => hi i (by omega))
abbrev perfR (l c : List Int) (r : Int) : R := .tup [.d (db (decide (ccM l c r = 0) && perfB l c r)), .d (di (ccM l c r))]
theorem d_impl_IsPerfect (l c : List Int) (r : Int) (hl : l.length < 1048577) (hc : c.length < 1048577) : Den PA f_impl_IsPerfect [.d (.agg [ints l]), .d (ints c), .d (di r)] [.any, .any, .any] (perfR l c r) := by
  refine den_go [] l_impl_IsPerfect ?_
  simp -implicitDefEqProofs (maxSteps := 1000000) (disch := (first | omega | (simp only [go_sem] <;> omega) | fail)) only [go_sem, ints, bools, mat, c_impl_IsPerfect]
  first | refine goC_call [.r, .r, .r] (d_impl_coverCode l c hl hc r) ?_ | refine goOC_call [.r, .r, .r] (d_impl_coverCode l c hl hc r) ?_
  by_cases h : ccM l c r = 0
  · rw [perfR, h]
    obtain ⟨hs, hcc, hd⟩ := ccM_ok h
    repeat' (first | simp -implicitDefEqProofs (maxSteps := 1000000) (disch := (first | omega | (simp only [go_sem] <;> omega) | fail)) only [go_sem, ints, bools, mat] | ((first | refine goIf_b (fun h => ?_) (fun h => ?_) | refine goG_b (fun h => ?_) (fun h => ?_) | refine goTG_b (fun h => ?_) (fun h => ?_) | refine goOG_b (fun h => ?_) (fun h => ?_)) <;> ((try simp only [Bool.not_eq_true', Bool.not_eq_false'] at h); (try simp only [h]); (try simp only [decide_eq_true_eq, decide_eq_false_iff_not, bne_iff_ne, bne_eq_false_iff_eq, beq_iff_eq, beq_eq_false_iff_ne, ne_eq, Int.not_lt, Int.not_le, Bool.and_eq_true, Bool.and_eq_false_iff, Bool.or_eq_true, Bool.or_eq_false_iff] at h))))
    first | refine goC_call [.r, .r, .r] (d_impl_isPerfect l c r hs hcc hc) ?_ | refine goOC_call [.r, .r, .r] (d_impl_isPerfect l c r hs hcc hc) ?_
    repeat' (first | simp -implicitDefEqProofs (maxSteps := 1000000) (disch := (first | omega | (simp only [go_sem] <;> omega) | fail)) only [go_sem, ints, bools, mat] | ((first | refine goIf_b (fun h => ?_) (fun h => ?_) | refine goG_b (fun h => ?_) (fun h => ?_) | refine goTG_b (fun h => ?_) (fun h => ?_) | refine goOG_b (fun h => ?_) (fun h => ?_)) <;> ((try simp only [Bool.not_eq_true', Bool.not_eq_false'] at h); (try simp only [h]); (try simp only [decide_eq_true_eq, decide_eq_false_iff_not, bne_iff_ne, bne_eq_false_iff_eq, beq_iff_eq, beq_eq_false_iff_ne, ne_eq, Int.not_lt, Int.not_le, Bool.and_eq_true, Bool.and_eq_false_iff, Bool.or_eq_true, Bool.or_eq_false_iff] at h))))
  · rw [perfR]
    generalize ccM l c r = b at h
    repeat' (first | simp -implicitDefEqProofs (maxSteps := 1000000) (disch := (first | omega | (simp only [go_sem] <;> omega) | fail)) only [go_sem, ints, bools, mat] | ((first | refine goIf_b (fun h => ?_) (fun h => ?_) | refine goG_b (fun h => ?_) (fun h => ?_) | refine goTG_b (fun h => ?_) (fun h => ?_) | refine goOG_b (fun h => ?_) (fun h => ?_)) <;> ((try simp only [Bool.not_eq_true', Bool.not_eq_false'] at h); (try simp only [h]); (try simp only [decide_eq_true_eq, decide_eq_false_iff_not, bne_iff_ne, bne_eq_false_iff_eq, beq_iff_eq, beq_eq_false_iff_ne, ne_eq, Int.not_lt, Int.not_le, Bool.and_eq_true, Bool.and_eq_false_iff, Bool.or_eq_true, Bool.or_eq_false_iff] at h))))
    all_goals (first | (exfalso; omega) | skip)
    exact dbF fun h' => by simp at h'; exact h h'.1
theorem d_spec_IsPerfect (l c : List Int) (r : Int) (hl : l.length < 1048577) (hc : c.length < 1048577) : Den PA f_spec_IsPerfect [.d (.agg [ints l]), .d (ints c), .d (di r)] [.any, .any, .any] (perfR l c r) := by
  refine den_go [] l_spec_IsPerfect ?_
  simp -implicitDefEqProofs (maxSteps := 1000000) (disch := (first | omega | (simp only [go_sem] <;> omega) | fail)) only [go_sem, ints, bools, mat, c_spec_IsPerfect]
  first | refine goC_call [.r, .r, .r] (d_spec_l02Code l c hl hc r) ?_ | refine goOC_call [.r, .r, .r] (d_spec_l02Code l c hl hc r) ?_
  by_cases h : ccM l c r = 0
  · rw [perfR, h]
    obtain ⟨hs, hcc, hd⟩ := ccM_ok h
    repeat' (first | simp -implicitDefEqProofs (maxSteps := 1000000) (disch := (first | omega | (simp only [go_sem] <;> omega) | fail)) only [go_sem, ints, bools, mat] | ((first | refine goIf_b (fun h => ?_) (fun h => ?_) | refine goG_b (fun h => ?_) (fun h => ?_) | refine goTG_b (fun h => ?_) (fun h => ?_) | refine goOG_b (fun h => ?_) (fun h => ?_)) <;> ((try simp only [Bool.not_eq_true', Bool.not_eq_false'] at h); (try simp only [h]); (try simp only [decide_eq_true_eq, decide_eq_false_iff_not, bne_iff_ne, bne_eq_false_iff_eq, beq_iff_eq, beq_eq_false_iff_ne, ne_eq, Int.not_lt, Int.not_le, Bool.and_eq_true, Bool.and_eq_false_iff, Bool.or_eq_true, Bool.or_eq_false_iff] at h))))
    first | refine goC_call [.r, .r, .r] (d_spec_l06Is l c r hs hcc hc) ?_ | refine goOC_call [.r, .r, .r] (d_spec_l06Is l c r hs hcc hc) ?_
    repeat' (first | simp -implicitDefEqProofs (maxSteps := 1000000) (disch := (first | omega | (simp only [go_sem] <;> omega) | fail)) only [go_sem, ints, bools, mat] | ((first | refine goIf_b (fun h => ?_) (fun h => ?_) | refine goG_b (fun h => ?_) (fun h => ?_) | refine goTG_b (fun h => ?_) (fun h => ?_) | refine goOG_b (fun h => ?_) (fun h => ?_)) <;> ((try simp only [Bool.not_eq_true', Bool.not_eq_false'] at h); (try simp only [h]); (try simp only [decide_eq_true_eq, decide_eq_false_iff_not, bne_iff_ne, bne_eq_false_iff_eq, beq_iff_eq, beq_eq_false_iff_ne, ne_eq, Int.not_lt, Int.not_le, Bool.and_eq_true, Bool.and_eq_false_iff, Bool.or_eq_true, Bool.or_eq_false_iff] at h))))
  · rw [perfR]
    generalize ccM l c r = b at h
    repeat' (first | simp -implicitDefEqProofs (maxSteps := 1000000) (disch := (first | omega | (simp only [go_sem] <;> omega) | fail)) only [go_sem, ints, bools, mat] | ((first | refine goIf_b (fun h => ?_) (fun h => ?_) | refine goG_b (fun h => ?_) (fun h => ?_) | refine goTG_b (fun h => ?_) (fun h => ?_) | refine goOG_b (fun h => ?_) (fun h => ?_)) <;> ((try simp only [Bool.not_eq_true', Bool.not_eq_false'] at h); (try simp only [h]); (try simp only [decide_eq_true_eq, decide_eq_false_iff_not, bne_iff_ne, bne_eq_false_iff_eq, beq_iff_eq, beq_eq_false_iff_ne, ne_eq, Int.not_lt, Int.not_le, Bool.and_eq_true, Bool.and_eq_false_iff, Bool.or_eq_true, Bool.or_eq_false_iff] at h))))
    all_goals (first | (exfalso; omega) | skip)
    exact dbF fun h' => by simp at h'; exact h h'.1
theorem times_big (l c : List Int) {r : Int} (h : (l.length : Int) ≤ r) : timesM l c r = timesM l c l.length := by
  apply eq_getD
  · rw [timesN_len, timesN_len]
  · intro i hi
    rw [timesN_len] at hi
    rw [timesN_get c _ _ hi, timesN_get c _ _ hi]
    generalize c.length = m
    induction m with
    | zero => rfl
    | succ m ih =>
      have := distM_bnd l (c.getD m 0) i
      rw [cntN, cntN, ih, if_pos (by omega), if_pos (by omega)]
theorem perf_big (l c : List Int) {r : Int} (h : (l.length : Int) ≤ r) : perfB l c r = perfB l c l.length := by
  unfold perfB; rw [times_big l c h]
/-- The least radius for which a code is perfect, -1 if there is none. -/
def prM (l c : List Int) : Option Nat := (List.range (l.length + 1)).find? fun r => perfB l c r
abbrev prR (l c : List Int) : R := .tup [.d (di (if ggM l c = 0 then (match prM l c with | some r => (r : Int) | none => 0) else 0)), .d (di (if ggM l c = 0 then (if (prM l c).isSome then 0 else 4) else ggM l c))]
theorem find_at {n j : Nat} {p : Nat → Bool} (hj : j < n) (h : p j = true) (hi : ∀ i, i < j → p i = false) : (List.range n).find? p = some j := by
  rw [List.find?_range_eq_some]; exact ⟨h, List.mem_range.2 hj, fun i hi' => by simp [hi i hi']⟩
theorem find_no {n : Nat} {p : Nat → Bool} (hi : ∀ i, i < n → p i = false) : (List.range n).find? p = none := by
  rw [List.find?_eq_none]; intro x hx; simp [hi x (List.mem_range.1 hx)]
theorem d_spec_PerfectRadius (l c : List Int) (hl : l.length < 1048577) (hc : c.length < 1048577) : Den PA f_spec_PerfectRadius [.d (.agg [ints l]), .d (ints c)] [.any, .any] (prR l c) := by
  refine den_go [] l_spec_PerfectRadius ?_
  simp -implicitDefEqProofs (maxSteps := 1000000) (disch := (first | omega | (simp only [go_sem] <;> omega) | fail)) only [go_sem, ints, bools, mat, c_spec_PerfectRadius]
  first | refine goC_call [.r, .r] (d_spec_l01Given l hl c hc) ?_ | refine goOC_call [.r, .r] (d_spec_l01Given l hl c hc) ?_
  by_cases h : ggM l c = 0
  · rw [prR, if_pos h, if_pos h, h]
    obtain ⟨hs, hcc⟩ := ggM_ok h
    have hn := isSpaceM_n hs
    repeat' (first | simp -implicitDefEqProofs (maxSteps := 1000000) (disch := (first | omega | (simp only [go_sem] <;> omega) | fail)) only [go_sem, ints, bools, mat] | ((first | refine goIf_b (fun h => ?_) (fun h => ?_) | refine goG_b (fun h => ?_) (fun h => ?_) | refine goTG_b (fun h => ?_) (fun h => ?_) | refine goOG_b (fun h => ?_) (fun h => ?_)) <;> ((try simp only [Bool.not_eq_true', Bool.not_eq_false'] at h); (try simp only [h]); (try simp only [decide_eq_true_eq, decide_eq_false_iff_not, bne_iff_ne, bne_eq_false_iff_eq, beq_iff_eq, beq_eq_false_iff_ne, ne_eq, Int.not_lt, Int.not_le, Bool.and_eq_true, Bool.and_eq_false_iff, Bool.or_eq_true, Bool.or_eq_false_iff] at h))))
    refine go_loop (fun (j : Nat) => ⟨[(1, .d (ints c)), (2, .ref 0 0), (7, .d (di j))], [some (.var [ints l])]⟩) (fun j => j ≤ l.length + 1 ∧ ∀ i : Nat, i < j → perfB l c i = false) (fun j => l.length + 1 - j) 0 ?_ ?_ ?_
    · (simp -implicitDefEqProofs (maxSteps := 1000000) (disch := (first | omega | (simp only [go_sem] <;> omega) | fail)) only [go_sem, ints, bools, mat] <;> rfl)
    · simp
    · rintro j ⟨hj, hi⟩ J hJ
      repeat' (first | simp -implicitDefEqProofs (maxSteps := 1000000) (disch := (first | omega | (simp only [go_sem] <;> omega) | fail)) only [go_sem, ints, bools, mat] | ((first | refine goIf_b (fun h => ?_) (fun h => ?_) | refine goG_b (fun h => ?_) (fun h => ?_) | refine goTG_b (fun h => ?_) (fun h => ?_) | refine goOG_b (fun h => ?_) (fun h => ?_)) <;> ((try simp only [Bool.not_eq_true', Bool.not_eq_false'] at h); (try simp only [h]); (try simp only [decide_eq_true_eq, decide_eq_false_iff_not, bne_iff_ne, bne_eq_false_iff_eq, beq_iff_eq, beq_eq_false_iff_ne, ne_eq, Int.not_lt, Int.not_le, Bool.and_eq_true, Bool.and_eq_false_iff, Bool.or_eq_true, Bool.or_eq_false_iff] at h))))
      · first | refine goC_call [.r, .r, .r] (d_spec_l06Is l c j hs hcc hc) ?_ | refine goOC_call [.r, .r, .r] (d_spec_l06Is l c j hs hcc hc) ?_
        repeat' (first | simp -implicitDefEqProofs (maxSteps := 1000000) (disch := (first | omega | (simp only [go_sem] <;> omega) | fail)) only [go_sem, ints, bools, mat] | ((first | refine goIf_b (fun h => ?_) (fun h => ?_) | refine goG_b (fun h => ?_) (fun h => ?_) | refine goTG_b (fun h => ?_) (fun h => ?_) | refine goOG_b (fun h => ?_) (fun h => ?_)) <;> ((try simp only [Bool.not_eq_true', Bool.not_eq_false'] at h); (try simp only [h]); (try simp only [decide_eq_true_eq, decide_eq_false_iff_not, bne_iff_ne, bne_eq_false_iff_eq, beq_iff_eq, beq_eq_false_iff_ne, ne_eq, Int.not_lt, Int.not_le, Bool.and_eq_true, Bool.and_eq_false_iff, Bool.or_eq_true, Bool.or_eq_false_iff] at h))))
        · rw [prM, find_at (j := j) (by omega) h hi]; simp
        · refine hJ (j + 1) ⟨by omega, all_ext hi h⟩ (by omega) _ (by (simp -implicitDefEqProofs (maxSteps := 1000000) (disch := (first | omega | (simp only [go_sem] <;> omega) | fail)) only [go_sem, ints, bools, mat] <;> rfl))
      · rw [prM, find_no (fun i hi' => hi i (by omega))]; simp
  · rw [prR, if_neg h, if_neg h]
    generalize ggM l c = b at h
    repeat' (first | simp -implicitDefEqProofs (maxSteps := 1000000) (disch := (first | omega | (simp only [go_sem] <;> omega) | fail)) only [go_sem, ints, bools, mat] | ((first | refine goIf_b (fun h => ?_) (fun h => ?_) | refine goG_b (fun h => ?_) (fun h => ?_) | refine goTG_b (fun h => ?_) (fun h => ?_) | refine goOG_b (fun h => ?_) (fun h => ?_)) <;> ((try simp only [Bool.not_eq_true', Bool.not_eq_false'] at h); (try simp only [h]); (try simp only [decide_eq_true_eq, decide_eq_false_iff_not, bne_iff_ne, bne_eq_false_iff_eq, beq_iff_eq, beq_eq_false_iff_ne, ne_eq, Int.not_lt, Int.not_le, Bool.and_eq_true, Bool.and_eq_false_iff, Bool.or_eq_true, Bool.or_eq_false_iff] at h))))
    all_goals (exfalso; omega)
theorem d_impl_PerfectRadius (l c : List Int) (hl : l.length < 1048577) (hc : c.length < 1048577) : Den PA f_impl_PerfectRadius [.d (.agg [ints l]), .d (ints c)] [.any, .any] (prR l c) := by
  refine den_go [] l_impl_PerfectRadius ?_
  simp -implicitDefEqProofs (maxSteps := 1000000) (disch := (first | omega | (simp only [go_sem] <;> omega) | fail)) only [go_sem, ints, bools, mat, c_impl_PerfectRadius]
  first | refine goC_call [.r, .r, .r] (d_impl_codeCode0 l hl c hc) ?_ | refine goOC_call [.r, .r, .r] (d_impl_codeCode0 l hl c hc) ?_
  by_cases h : ggM l c = 0
  · rw [prR, if_pos h, if_pos h, h]
    obtain ⟨hs, hcc⟩ := ggM_ok h
    have hn := isSpaceM_n hs
    repeat' (first | simp -implicitDefEqProofs (maxSteps := 1000000) (disch := (first | omega | (simp only [go_sem] <;> omega) | fail)) only [go_sem, ints, bools, mat] | ((first | refine goIf_b (fun h => ?_) (fun h => ?_) | refine goG_b (fun h => ?_) (fun h => ?_) | refine goTG_b (fun h => ?_) (fun h => ?_) | refine goOG_b (fun h => ?_) (fun h => ?_)) <;> ((try simp only [Bool.not_eq_true', Bool.not_eq_false'] at h); (try simp only [h]); (try simp only [decide_eq_true_eq, decide_eq_false_iff_not, bne_iff_ne, bne_eq_false_iff_eq, beq_iff_eq, beq_eq_false_iff_ne, ne_eq, Int.not_lt, Int.not_le, Bool.and_eq_true, Bool.and_eq_false_iff, Bool.or_eq_true, Bool.or_eq_false_iff] at h))))
    refine go_loop (fun (j : Nat) => ⟨[(1, .d (ints c)), (2, .ref 0 0), (14, .d (di j))], [some (.var [ints l])]⟩) (fun j => j ≤ 9 ∧ ∀ i : Nat, i < j → perfB l c i = false) (fun j => 9 - j) 0 ?_ ?_ ?_
    · (simp -implicitDefEqProofs (maxSteps := 1000000) (disch := (first | omega | (simp only [go_sem] <;> omega) | fail)) only [go_sem, ints, bools, mat] <;> rfl)
    · simp
    · rintro j ⟨hj, hi⟩ J hJ
      repeat' (first | simp -implicitDefEqProofs (maxSteps := 1000000) (disch := (first | omega | (simp only [go_sem] <;> omega) | fail)) only [go_sem, ints, bools, mat] | ((first | refine goIf_b (fun h => ?_) (fun h => ?_) | refine goG_b (fun h => ?_) (fun h => ?_) | refine goTG_b (fun h => ?_) (fun h => ?_) | refine goOG_b (fun h => ?_) (fun h => ?_)) <;> ((try simp only [Bool.not_eq_true', Bool.not_eq_false'] at h); (try simp only [h]); (try simp only [decide_eq_true_eq, decide_eq_false_iff_not, bne_iff_ne, bne_eq_false_iff_eq, beq_iff_eq, beq_eq_false_iff_ne, ne_eq, Int.not_lt, Int.not_le, Bool.and_eq_true, Bool.and_eq_false_iff, Bool.or_eq_true, Bool.or_eq_false_iff] at h))))
      · first | refine goC_call [.r, .r, .r] (d_impl_isPerfect l c j hs hcc hc) ?_ | refine goOC_call [.r, .r, .r] (d_impl_isPerfect l c j hs hcc hc) ?_
        repeat' (first | simp -implicitDefEqProofs (maxSteps := 1000000) (disch := (first | omega | (simp only [go_sem] <;> omega) | fail)) only [go_sem, ints, bools, mat] | ((first | refine goIf_b (fun h => ?_) (fun h => ?_) | refine goG_b (fun h => ?_) (fun h => ?_) | refine goTG_b (fun h => ?_) (fun h => ?_) | refine goOG_b (fun h => ?_) (fun h => ?_)) <;> ((try simp only [Bool.not_eq_true', Bool.not_eq_false'] at h); (try simp only [h]); (try simp only [decide_eq_true_eq, decide_eq_false_iff_not, bne_iff_ne, bne_eq_false_iff_eq, beq_iff_eq, beq_eq_false_iff_ne, ne_eq, Int.not_lt, Int.not_le, Bool.and_eq_true, Bool.and_eq_false_iff, Bool.or_eq_true, Bool.or_eq_false_iff] at h))))
        · by_cases hjn : j < l.length + 1
          · rw [prM, find_at (j := j) hjn h hi]; simp
          · exfalso
            have := hi l.length (by omega)
            rw [perf_big l c (by omega), this] at h; cases h
        · refine hJ (j + 1) ⟨by omega, all_ext hi h⟩ (by omega) _ (by (simp -implicitDefEqProofs (maxSteps := 1000000) (disch := (first | omega | (simp only [go_sem] <;> omega) | fail)) only [go_sem, ints, bools, mat] <;> rfl))
      · rw [prM, find_no (fun i hi' => hi i (by omega))]; simp
  · rw [prR, if_neg h, if_neg h]
    generalize ggM l c = b at h
    repeat' (first | simp -implicitDefEqProofs (maxSteps := 1000000) (disch := (first | omega | (simp only [go_sem] <;> omega) | fail)) only [go_sem, ints, bools, mat] | ((first | refine goIf_b (fun h => ?_) (fun h => ?_) | refine goG_b (fun h => ?_) (fun h => ?_) | refine goTG_b (fun h => ?_) (fun h => ?_) | refine goOG_b (fun h => ?_) (fun h => ?_)) <;> ((try simp only [Bool.not_eq_true', Bool.not_eq_false'] at h); (try simp only [h]); (try simp only [decide_eq_true_eq, decide_eq_false_iff_not, bne_iff_ne, bne_eq_false_iff_eq, beq_iff_eq, beq_eq_false_iff_ne, ne_eq, Int.not_lt, Int.not_le, Bool.and_eq_true, Bool.and_eq_false_iff, Bool.or_eq_true, Bool.or_eq_false_iff] at h))))
    all_goals (exfalso; omega)
attribute [go_sem] isnA List.drop_length
def and2 (x y : Int) : Int := ((x.toNat &&& y.toNat : Nat) : Int)
def andM (t u : List Int) : List Int := (List.range t.length).map fun (i : Nat) => and2 (t.getD i 0) (u.getD i 0)
@[go_sem] theorem andM_len (t u : List Int) : (andM t u).length = t.length := by simp [andM]
theorem mixS_step {α : Type} {A t : List α} (d : α) {j : Nat} (h : A.length = t.length) (hj : j < t.length) : (A.take j ++ t.drop j).set j (A.getD j d) = A.take (j + 1) ++ t.drop (j + 1) := by
  apply List.ext_getElem
  · simp; omega
  · intro i h1 h2
    simp at h1 h2
    rw [List.getElem_set]
    split
    · subst_vars; simp [List.getElem_append, h, hj]
      intro; omega
    · simp only [List.getElem_append, List.length_take]
      split <;> split
      · simp
      · omega
      · omega
      · simp only [List.getElem_drop]; congr 1; omega
theorem mixS_get {α : Type} {A t : List α} (d : α) {j : Nat} (h : A.length = t.length) (hj : j < t.length) : (A.take j ++ t.drop j).getD j d = t.getD j d := by
  rw [List.getD_eq_getElem?_getD, List.getElem?_append, if_neg (by simp; omega), List.getElem?_drop, List.getD_eq_getElem?_getD]
  congr 2; simp; omega
/-- A sum of products. -/
def sN (a b : List Int) : Nat → Int
  | 0 => 0
  | j + 1 => sN a b j + a.getD j 0 * b.getD j 0
def in4 (a : List Int) : Prop := ∀ i, 0 ≤ a.getD i 0 ∧ a.getD i 0 < 4
theorem in4_pad {a : List Int} (h8 : a.length ≤ 8) (h : in4 a) : in4 (pad8 a) := fun i => by rw [pad8_get h8]; exact h i
def synM (l c : List Int) (w : Int) : List Int := c.map fun u => sN (digM l w) (digM l u) l.length % l.getD 0 0
@[go_sem] theorem synM_len (l c : List Int) (w : Int) : (synM l c w).length = c.length := by simp [synM]
/-- A function value that tells p of whole numbers for which q holds. -/
def fnI (q : Int → Prop) (p : Int → Bool) : List D → Value → Prop := fun ds r => ∃ n, q n ∧ ds = [di n] ∧ r = .bool (p n)
theorem d_slices_IndexFunc_in (l : List Int) (p : Int → Bool) (g : List D → Value → Prop) (hg : ∀ i, i < l.length → g [di (l.getD i 0)] (.bool (p (l.getD i 0)))) (hl : l.length < 1048577) :
    Den PA f_slices_IndexFunc___int64_int64_ [.d (ints l), .pfn g] [.any, .any] (.d (di (match l.findIdx? p with | some j => j | none => -1))) := by
  refine den_go [] l_slices_IndexFunc___int64_int64_ ?_
  repeat' (first | simp -implicitDefEqProofs (maxSteps := 1000000) (disch := (first | omega | (simp only [go_sem] <;> omega) | fail)) only [go_sem, ints, bools, mat, c_slices_IndexFunc___int64_int64_] | ((first | refine goIf_b (fun h => ?_) (fun h => ?_) | refine goG_b (fun h => ?_) (fun h => ?_) | refine goTG_b (fun h => ?_) (fun h => ?_) | refine goOG_b (fun h => ?_) (fun h => ?_)) <;> ((try simp only [Bool.not_eq_true', Bool.not_eq_false'] at h); (try simp only [h]); (try simp only [decide_eq_true_eq, decide_eq_false_iff_not, bne_iff_ne, bne_eq_false_iff_eq, beq_iff_eq, beq_eq_false_iff_ne, ne_eq, Int.not_lt, Int.not_le, Bool.and_eq_true, Bool.and_eq_false_iff, Bool.or_eq_true, Bool.or_eq_false_iff] at h))))
  refine go_loop (fun (j : Nat) => ⟨[(0, .d (ints l)), (1, .pfn g), (7, .d (di l.length)), (8, .d (di j))], []⟩) (fun j => j ≤ l.length ∧ ∀ i, i < j → p (l.getD i 0) = false) (fun j => l.length - j) 0 ?_ ?_ ?_
  · (simp -implicitDefEqProofs (maxSteps := 1000000) (disch := (first | omega | (simp only [go_sem] <;> omega) | fail)) only [go_sem, ints, bools, mat] <;> rfl)
  · simp
  · rintro j ⟨hj, hi⟩ J hJ
    repeat' (first | simp -implicitDefEqProofs (maxSteps := 1000000) (disch := (first | omega | (simp only [go_sem] <;> omega) | fail)) only [go_sem, ints, bools, mat] | ((first | refine goIf_b (fun h => ?_) (fun h => ?_) | refine goG_b (fun h => ?_) (fun h => ?_) | refine goTG_b (fun h => ?_) (fun h => ?_) | refine goOG_b (fun h => ?_) (fun h => ?_)) <;> ((try simp only [Bool.not_eq_true', Bool.not_eq_false'] at h); (try simp only [h]); (try simp only [decide_eq_true_eq, decide_eq_false_iff_not, bne_iff_ne, bne_eq_false_iff_eq, beq_iff_eq, beq_eq_false_iff_ne, ne_eq, Int.not_lt, Int.not_le, Bool.and_eq_true, Bool.and_eq_false_iff, Bool.or_eq_true, Bool.or_eq_false_iff] at h))))
    · refine goV_pfn [di (l.getD j 0)] (.bool (p (l.getD j 0))) (by simp -implicitDefEqProofs (maxSteps := 1000000) (disch := (first | omega | (simp only [go_sem] <;> omega) | fail)) only [go_sem, ints, bools, mat]) rfl (hg j (by omega)) ?_
      repeat' (first | simp -implicitDefEqProofs (maxSteps := 1000000) (disch := (first | omega | (simp only [go_sem] <;> omega) | fail)) only [go_sem, ints, bools, mat] | ((first | refine goIf_b (fun h => ?_) (fun h => ?_) | refine goG_b (fun h => ?_) (fun h => ?_) | refine goTG_b (fun h => ?_) (fun h => ?_) | refine goOG_b (fun h => ?_) (fun h => ?_)) <;> ((try simp only [Bool.not_eq_true', Bool.not_eq_false'] at h); (try simp only [h]); (try simp only [decide_eq_true_eq, decide_eq_false_iff_not, bne_iff_ne, bne_eq_false_iff_eq, beq_iff_eq, beq_eq_false_iff_ne, ne_eq, Int.not_lt, Int.not_le, Bool.and_eq_true, Bool.and_eq_false_iff, Bool.or_eq_true, Bool.or_eq_false_iff] at h))))
      · rw [findIdx_at (by omega) h hi]
      · refine hJ (j + 1) ⟨by omega, all_ext hi h⟩ (by omega) _ (by (simp -implicitDefEqProofs (maxSteps := 1000000) (disch := (first | omega | (simp only [go_sem] <;> omega) | fail)) only [go_sem, ints, bools, mat] <;> rfl))
    · rw [findIdx_no fun i hi' => hi i (by omega)]
theorem d_impl_DecodeWord_1 (l : List Int) (hs : isSpaceM l = true) (u w r : Int) (hu : 0 ≤ u) (hu2 : u < 1000000000000) (hw : 0 ≤ w) (hw2 : w < 1000000000000) :
    Den PA f_impl_DecodeWord_1 [.d (di u), .box [ints l], .box [di w], .box [di r]] [.any, .any, .any, .any] (.d (db (decide (distM l u w ≤ r)))) := by
  refine den_go [] l_impl_DecodeWord_1 ?_
  repeat' (first | simp -implicitDefEqProofs (maxSteps := 1000000) (disch := (first | omega | (simp only [go_sem] <;> omega) | fail)) only [go_sem, ints, bools, mat, c_impl_DecodeWord_1] | ((first | refine goIf_b (fun h => ?_) (fun h => ?_) | refine goG_b (fun h => ?_) (fun h => ?_) | refine goTG_b (fun h => ?_) (fun h => ?_) | refine goOG_b (fun h => ?_) (fun h => ?_)) <;> ((try simp only [Bool.not_eq_true', Bool.not_eq_false'] at h); (try simp only [h]); (try simp only [decide_eq_true_eq, decide_eq_false_iff_not, bne_iff_ne, bne_eq_false_iff_eq, beq_iff_eq, beq_eq_false_iff_ne, ne_eq, Int.not_lt, Int.not_le, Bool.and_eq_true, Bool.and_eq_false_iff, Bool.or_eq_true, Bool.or_eq_false_iff] at h))))
  first | refine goC_call [.r, .r, .r] (d_impl_distance l hs u w hu hu2 hw hw2) ?_ | refine goOC_call [.r, .r, .r] (d_impl_distance l hs u w hu hu2 hw hw2) ?_
  repeat' (first | simp -implicitDefEqProofs (maxSteps := 1000000) (disch := (first | omega | (simp only [go_sem] <;> omega) | fail)) only [go_sem, ints, bools, mat] | ((first | refine goIf_b (fun h => ?_) (fun h => ?_) | refine goG_b (fun h => ?_) (fun h => ?_) | refine goTG_b (fun h => ?_) (fun h => ?_) | refine goOG_b (fun h => ?_) (fun h => ?_)) <;> ((try simp only [Bool.not_eq_true', Bool.not_eq_false'] at h); (try simp only [h]); (try simp only [decide_eq_true_eq, decide_eq_false_iff_not, bne_iff_ne, bne_eq_false_iff_eq, beq_iff_eq, beq_eq_false_iff_ne, ne_eq, Int.not_lt, Int.not_le, Bool.and_eq_true, Bool.and_eq_false_iff, Bool.or_eq_true, Bool.or_eq_false_iff] at h))))
abbrev dcM (l c : List Int) (r w : Int) : Int := if gcM l c [w] = 0 then (if 0 ≤ r ∧ r ≤ 8 then (if perfB l c r then 0 else 5) else 2) else gcM l c [w]
theorem dcM_ok {l c : List Int} {r w : Int} (h : dcM l c r w = 0) : gcM l c [w] = 0 ∧ (0 ≤ r ∧ r ≤ 8) ∧ perfB l c r = true := by
  unfold dcM at h
  split at h
  · rename_i hg
    split at h
    · rename_i hd
      split at h
      · rename_i hp; exact ⟨hg, hd, hp⟩
      · cases h
    · cases h
  · rename_i hg; exact (hg h).elim
/-- The word of a code within r of a word. -/
def decM (l c : List Int) (r w : Int) : Int := c.getD (c.findIdx fun u => decide (distM l u w ≤ r)) 0
theorem cntN_ex (l c : List Int) (r u : Int) : ∀ j : Nat, cntN l c r u j ≠ 0 → ∃ i, i < j ∧ distM l (c.getD i 0) u ≤ r
  | 0, h => by simp [cntN] at h
  | j + 1, h => by
    rw [cntN] at h
    by_cases hd : distM l (c.getD j 0) u ≤ r
    · exact ⟨j, by omega, hd⟩
    · rw [if_neg hd, Int.add_zero] at h
      obtain ⟨i, hi, h2⟩ := cntN_ex l c r u j h
      exact ⟨i, by omega, h2⟩
theorem perf_ex {l c : List Int} {r w : Int} (h : perfB l c r = true) (hw : 0 ≤ w) (hw2 : w < prodM l) : ∃ i, i < c.length ∧ distM l (c.getD i 0) w ≤ r := by
  have h1 := all_one.1 h w.toNat (by rw [timesN_len]; omega)
  rw [timesN_get c r c.length (by omega), show ((w.toNat : Nat) : Int) = w by omega] at h1
  exact cntN_ex l c r w c.length (by omega)
theorem idx_lt {c : List Int} {p : Int → Bool} (h : ∃ i, i < c.length ∧ p (c.getD i 0) = true) : c.findIdx p < c.length ∧ c.findIdx? p = some (c.findIdx p) ∧ p (c.getD (c.findIdx p) 0) = true ∧ ∀ i, i < c.findIdx p → p (c.getD i 0) = false := by
  obtain ⟨i, hi, hp⟩ := h
  have hlt : c.findIdx p < c.length := List.findIdx_lt_length_of_exists ⟨c.getD i 0, mem_getD hi, hp⟩
  refine ⟨hlt, List.findIdx?_eq_some_of_exists ⟨c.getD i 0, mem_getD hi, hp⟩, ?_, fun k hk => ?_⟩
  · have := List.findIdx_getElem (p := p) (w := hlt)
    simpa [hlt] using this
  · have := List.not_of_lt_findIdx hk
    simpa [show k < c.length by omega] using this
theorem d_impl_DecodeWord (l c : List Int) (r w : Int) (hl : l.length < 1048577) (hc : c.length < 1048577) : Den PA f_impl_DecodeWord [.d (.agg [ints l]), .d (ints c), .d (di r), .d (di w)] [.any, .any, .any, .any] (.tup [.d (di (if dcM l c r w = 0 then decM l c r w else 0)), .d (di (dcM l c r w))]) := by
  refine den_go [] l_impl_DecodeWord ?_
  repeat' (first | simp -implicitDefEqProofs (maxSteps := 1000000) (disch := (first | omega | (simp only [go_sem] <;> omega) | fail)) only [go_sem, ints, bools, mat, c_impl_DecodeWord] | ((first | refine goIf_b (fun h => ?_) (fun h => ?_) | refine goG_b (fun h => ?_) (fun h => ?_) | refine goTG_b (fun h => ?_) (fun h => ?_) | refine goOG_b (fun h => ?_) (fun h => ?_)) <;> ((try simp only [Bool.not_eq_true', Bool.not_eq_false'] at h); (try simp only [h]); (try simp only [decide_eq_true_eq, decide_eq_false_iff_not, bne_iff_ne, bne_eq_false_iff_eq, beq_iff_eq, beq_eq_false_iff_ne, ne_eq, Int.not_lt, Int.not_le, Bool.and_eq_true, Bool.and_eq_false_iff, Bool.or_eq_true, Bool.or_eq_false_iff] at h))))
  first | refine goC_call [.r, .r, .r] (d_impl_codeCode l hl c hc _ [w] (.inl rfl) (by simp)) ?_ | refine goOC_call [.r, .r, .r] (d_impl_codeCode l hl c hc _ [w] (.inl rfl) (by simp)) ?_
  by_cases h : gcM l c [w] = 0
  · rw [dcM, if_pos h, h]
    obtain ⟨hs, hww, hcc⟩ := gcM_ok h
    have hw := areW_get hww (j := 0) (by simp)
    simp only [List.getD_cons_zero] at hw
    have hp := isSpaceM_prod hs
    repeat' (first | simp -implicitDefEqProofs (maxSteps := 1000000) (disch := (first | omega | (simp only [go_sem] <;> omega) | fail)) only [go_sem, ints, bools, mat] | ((first | refine goIf_b (fun h => ?_) (fun h => ?_) | refine goG_b (fun h => ?_) (fun h => ?_) | refine goTG_b (fun h => ?_) (fun h => ?_) | refine goOG_b (fun h => ?_) (fun h => ?_)) <;> ((try simp only [Bool.not_eq_true', Bool.not_eq_false'] at h); (try simp only [h]); (try simp only [decide_eq_true_eq, decide_eq_false_iff_not, bne_iff_ne, bne_eq_false_iff_eq, beq_iff_eq, beq_eq_false_iff_ne, ne_eq, Int.not_lt, Int.not_le, Bool.and_eq_true, Bool.and_eq_false_iff, Bool.or_eq_true, Bool.or_eq_false_iff] at h))))
    first | refine goC_call [.r] (d_impl_isRadius r) ?_ | refine goOC_call [.r] (d_impl_isRadius r) ?_
    by_cases hr : 0 ≤ r ∧ r ≤ 8
    · rw [if_pos hr]
      have hrb : (decide (0 ≤ r) && decide (r ≤ 8)) = true := by simp; exact hr
      rw [hrb]
      repeat' (first | simp -implicitDefEqProofs (maxSteps := 1000000) (disch := (first | omega | (simp only [go_sem] <;> omega) | fail)) only [go_sem, ints, bools, mat] | ((first | refine goIf_b (fun h => ?_) (fun h => ?_) | refine goG_b (fun h => ?_) (fun h => ?_) | refine goTG_b (fun h => ?_) (fun h => ?_) | refine goOG_b (fun h => ?_) (fun h => ?_)) <;> ((try simp only [Bool.not_eq_true', Bool.not_eq_false'] at h); (try simp only [h]); (try simp only [decide_eq_true_eq, decide_eq_false_iff_not, bne_iff_ne, bne_eq_false_iff_eq, beq_iff_eq, beq_eq_false_iff_ne, ne_eq, Int.not_lt, Int.not_le, Bool.and_eq_true, Bool.and_eq_false_iff, Bool.or_eq_true, Bool.or_eq_false_iff] at h))))
      first | refine goC_call [.r, .r, .r] (d_impl_isPerfect l c r hs hcc hc) ?_ | refine goOC_call [.r, .r, .r] (d_impl_isPerfect l c r hs hcc hc) ?_
      cases hpf : perfB l c r with
      | false =>
        repeat' (first | simp -implicitDefEqProofs (maxSteps := 1000000) (disch := (first | omega | (simp only [go_sem] <;> omega) | fail)) only [go_sem, ints, bools, mat] | ((first | refine goIf_b (fun h => ?_) (fun h => ?_) | refine goG_b (fun h => ?_) (fun h => ?_) | refine goTG_b (fun h => ?_) (fun h => ?_) | refine goOG_b (fun h => ?_) (fun h => ?_)) <;> ((try simp only [Bool.not_eq_true', Bool.not_eq_false'] at h); (try simp only [h]); (try simp only [decide_eq_true_eq, decide_eq_false_iff_not, bne_iff_ne, bne_eq_false_iff_eq, beq_iff_eq, beq_eq_false_iff_ne, ne_eq, Int.not_lt, Int.not_le, Bool.and_eq_true, Bool.and_eq_false_iff, Bool.or_eq_true, Bool.or_eq_false_iff] at h))))
        rfl
      | true =>
        obtain ⟨h1, h2, h3, h4⟩ := idx_lt (p := fun u => decide (distM l u w ≤ r)) (by obtain ⟨i, hi, hd⟩ := perf_ex hpf hw.1 hw.2; exact ⟨i, hi, decide_eq_true hd⟩)
        repeat' (first | simp -implicitDefEqProofs (maxSteps := 1000000) (disch := (first | omega | (simp only [go_sem] <;> omega) | fail)) only [go_sem, ints, bools, mat] | ((first | refine goIf_b (fun h => ?_) (fun h => ?_) | refine goG_b (fun h => ?_) (fun h => ?_) | refine goTG_b (fun h => ?_) (fun h => ?_) | refine goOG_b (fun h => ?_) (fun h => ?_)) <;> ((try simp only [Bool.not_eq_true', Bool.not_eq_false'] at h); (try simp only [h]); (try simp only [decide_eq_true_eq, decide_eq_false_iff_not, bne_iff_ne, bne_eq_false_iff_eq, beq_iff_eq, beq_eq_false_iff_ne, ne_eq, Int.not_lt, Int.not_le, Bool.and_eq_true, Bool.and_eq_false_iff, Bool.or_eq_true, Bool.or_eq_false_iff] at h))))
        first | refine goC_call [.r, .g (fnI (fun u => 0 ≤ u ∧ u < 1000000000000) fun u => decide (distM l u w ≤ r))] (d_slices_IndexFunc_in c (fun u => decide (distM l u w ≤ r)) (fnI (fun u => 0 ≤ u ∧ u < 1000000000000) fun u => decide (distM l u w ≤ r)) (fun i hi => ⟨_, code_small hs hcc i hi, rfl, rfl⟩) hc) ?_ | refine goOC_call [.r, .g (fnI (fun u => 0 ≤ u ∧ u < 1000000000000) fun u => decide (distM l u w ≤ r))] (d_slices_IndexFunc_in c (fun u => decide (distM l u w ≤ r)) (fnI (fun u => 0 ≤ u ∧ u < 1000000000000) fun u => decide (distM l u w ≤ r)) (fun i hi => ⟨_, code_small hs hcc i hi, rfl, rfl⟩) hc) ?_
        repeat' (first | simp -implicitDefEqProofs (maxSteps := 1000000) (disch := (first | omega | (simp only [go_sem] <;> omega) | fail)) only [go_sem, ints, bools, mat] | ((first | refine goIf_b (fun h => ?_) (fun h => ?_) | refine goG_b (fun h => ?_) (fun h => ?_) | refine goTG_b (fun h => ?_) (fun h => ?_) | refine goOG_b (fun h => ?_) (fun h => ?_)) <;> ((try simp only [Bool.not_eq_true', Bool.not_eq_false'] at h); (try simp only [h]); (try simp only [decide_eq_true_eq, decide_eq_false_iff_not, bne_iff_ne, bne_eq_false_iff_eq, beq_iff_eq, beq_eq_false_iff_ne, ne_eq, Int.not_lt, Int.not_le, Bool.and_eq_true, Bool.and_eq_false_iff, Bool.or_eq_true, Bool.or_eq_false_iff] at h))))
        refine chk_intro (fnOK_mk (d_impl_DecodeWord_1 l hs 0 0 0 (by omega) (by omega) (by omega) (by omega)).1 [[ints l], [di w], [di r]] rfl fun ds rr hgg => ?_) ?_
        · obtain ⟨u, hu, rfl, rfl⟩ := hgg
          exact ⟨_, d_impl_DecodeWord_1 l hs u w r hu.1 hu.2 hw.1 (by omega)⟩
        rw [h2]
        repeat' (first | simp -implicitDefEqProofs (maxSteps := 1000000) (disch := (first | omega | (simp only [go_sem] <;> omega) | fail)) only [go_sem, ints, bools, mat] | ((first | refine goIf_b (fun h => ?_) (fun h => ?_) | refine goG_b (fun h => ?_) (fun h => ?_) | refine goTG_b (fun h => ?_) (fun h => ?_) | refine goOG_b (fun h => ?_) (fun h => ?_)) <;> ((try simp only [Bool.not_eq_true', Bool.not_eq_false'] at h); (try simp only [h]); (try simp only [decide_eq_true_eq, decide_eq_false_iff_not, bne_iff_ne, bne_eq_false_iff_eq, beq_iff_eq, beq_eq_false_iff_ne, ne_eq, Int.not_lt, Int.not_le, Bool.and_eq_true, Bool.and_eq_false_iff, Bool.or_eq_true, Bool.or_eq_false_iff] at h))))
        simp [decM]
    · rw [if_neg hr]
      have hrb : (decide (0 ≤ r) && decide (r ≤ 8)) = false := by simp; omega
      rw [hrb]
      repeat' (first | simp -implicitDefEqProofs (maxSteps := 1000000) (disch := (first | omega | (simp only [go_sem] <;> omega) | fail)) only [go_sem, ints, bools, mat] | ((first | refine goIf_b (fun h => ?_) (fun h => ?_) | refine goG_b (fun h => ?_) (fun h => ?_) | refine goTG_b (fun h => ?_) (fun h => ?_) | refine goOG_b (fun h => ?_) (fun h => ?_)) <;> ((try simp only [Bool.not_eq_true', Bool.not_eq_false'] at h); (try simp only [h]); (try simp only [decide_eq_true_eq, decide_eq_false_iff_not, bne_iff_ne, bne_eq_false_iff_eq, beq_iff_eq, beq_eq_false_iff_ne, ne_eq, Int.not_lt, Int.not_le, Bool.and_eq_true, Bool.and_eq_false_iff, Bool.or_eq_true, Bool.or_eq_false_iff] at h))))
      rfl
  · rw [dcM, if_neg h, if_neg h]
    generalize gcM l c [w] = b at h
    repeat' (first | simp -implicitDefEqProofs (maxSteps := 1000000) (disch := (first | omega | (simp only [go_sem] <;> omega) | fail)) only [go_sem, ints, bools, mat] | ((first | refine goIf_b (fun h => ?_) (fun h => ?_) | refine goG_b (fun h => ?_) (fun h => ?_) | refine goTG_b (fun h => ?_) (fun h => ?_) | refine goOG_b (fun h => ?_) (fun h => ?_)) <;> ((try simp only [Bool.not_eq_true', Bool.not_eq_false'] at h); (try simp only [h]); (try simp only [decide_eq_true_eq, decide_eq_false_iff_not, bne_iff_ne, bne_eq_false_iff_eq, beq_iff_eq, beq_eq_false_iff_ne, ne_eq, Int.not_lt, Int.not_le, Bool.and_eq_true, Bool.and_eq_false_iff, Bool.or_eq_true, Bool.or_eq_false_iff] at h))))
    all_goals (exfalso; omega)
theorem dcM_eq (l c : List Int) (r w : Int) : dcM l c r w = if ccM l c r = 0 then (if 0 ≤ w ∧ w < prodM l then (if perfB l c r then 0 else 5) else 2) else ccM l c r := by
  have hw : areW l [w] = decide (0 ≤ w ∧ w < prodM l) := by simp [areW, inW]
  unfold dcM gcM wcM ccM ggM
  rw [hw]
  by_cases h1 : isSpaceM l = true <;> by_cases h2 : isCodeM l c = true <;> by_cases h3 : (0 ≤ r ∧ r ≤ 8) <;> by_cases h4 : (0 ≤ w ∧ w < prodM l) <;> simp [h1, h2, h3, h4]
theorem d_spec_DecodeWord (l c : List Int) (r w : Int) (hl : l.length < 1048577) (hc : c.length < 1048577) : Den PA f_spec_DecodeWord [.d (.agg [ints l]), .d (ints c), .d (di r), .d (di w)] [.any, .any, .any, .any] (.tup [.d (di (if dcM l c r w = 0 then decM l c r w else 0)), .d (di (dcM l c r w))]) := by
  have e := dcM_eq l c r w
  refine den_go [] l_spec_DecodeWord ?_
  repeat' (first | simp -implicitDefEqProofs (maxSteps := 1000000) (disch := (first | omega | (simp only [go_sem] <;> omega) | fail)) only [go_sem, ints, bools, mat, c_spec_DecodeWord] | ((first | refine goIf_b (fun h => ?_) (fun h => ?_) | refine goG_b (fun h => ?_) (fun h => ?_) | refine goTG_b (fun h => ?_) (fun h => ?_) | refine goOG_b (fun h => ?_) (fun h => ?_)) <;> ((try simp only [Bool.not_eq_true', Bool.not_eq_false'] at h); (try simp only [h]); (try simp only [decide_eq_true_eq, decide_eq_false_iff_not, bne_iff_ne, bne_eq_false_iff_eq, beq_iff_eq, beq_eq_false_iff_ne, ne_eq, Int.not_lt, Int.not_le, Bool.and_eq_true, Bool.and_eq_false_iff, Bool.or_eq_true, Bool.or_eq_false_iff] at h))))
  first | refine goC_call [.r, .r, .r] (d_spec_l02Code l c hl hc r) ?_ | refine goOC_call [.r, .r, .r] (d_spec_l02Code l c hl hc r) ?_
  by_cases h : ccM l c r = 0
  · rw [if_pos h] at e
    rw [h]
    obtain ⟨hs, hcc, hr⟩ := ccM_ok h
    have hp := isSpaceM_prod hs
    have hp1 := prodM_pos (isSpaceM_szs hs)
    have hn := isSpaceM_n hs
    repeat' (first | simp -implicitDefEqProofs (maxSteps := 1000000) (disch := (first | omega | (simp only [go_sem] <;> omega) | fail)) only [go_sem, ints, bools, mat] | ((first | refine goIf_b (fun h => ?_) (fun h => ?_) | refine goG_b (fun h => ?_) (fun h => ?_) | refine goTG_b (fun h => ?_) (fun h => ?_) | refine goOG_b (fun h => ?_) (fun h => ?_)) <;> ((try simp only [Bool.not_eq_true', Bool.not_eq_false'] at h); (try simp only [h]); (try simp only [decide_eq_true_eq, decide_eq_false_iff_not, bne_iff_ne, bne_eq_false_iff_eq, beq_iff_eq, beq_eq_false_iff_ne, ne_eq, Int.not_lt, Int.not_le, Bool.and_eq_true, Bool.and_eq_false_iff, Bool.or_eq_true, Bool.or_eq_false_iff] at h)) <;> (try (exfalso; omega))))
    first | refine goC_call [.r] (d_spec_l01N l (by omega) (isSpaceM_q hs)) ?_ | refine goOC_call [.r] (d_spec_l01N l (by omega) (isSpaceM_q hs)) ?_
    repeat' (first | simp -implicitDefEqProofs (maxSteps := 1000000) (disch := (first | omega | (simp only [go_sem] <;> omega) | fail)) only [go_sem, ints, bools, mat] | ((first | refine goIf_b (fun h => ?_) (fun h => ?_) | refine goG_b (fun h => ?_) (fun h => ?_) | refine goTG_b (fun h => ?_) (fun h => ?_) | refine goOG_b (fun h => ?_) (fun h => ?_)) <;> ((try simp only [Bool.not_eq_true', Bool.not_eq_false'] at h); (try simp only [h]); (try simp only [decide_eq_true_eq, decide_eq_false_iff_not, bne_iff_ne, bne_eq_false_iff_eq, beq_iff_eq, beq_eq_false_iff_ne, ne_eq, Int.not_lt, Int.not_le, Bool.and_eq_true, Bool.and_eq_false_iff, Bool.or_eq_true, Bool.or_eq_false_iff] at h)) <;> (try (exfalso; omega))))
    first | refine goC_call [.r, .r, .r] (d_spec_l01In w 0 (prodM l - 1)) ?_ | refine goOC_call [.r, .r, .r] (d_spec_l01In w 0 (prodM l - 1)) ?_
    by_cases hw : 0 ≤ w ∧ w < prodM l
    · rw [if_pos hw] at e
      have hwb : (decide (0 ≤ w) && decide (w ≤ prodM l - 1)) = true := by simp; omega
      rw [hwb]
      repeat' (first | simp -implicitDefEqProofs (maxSteps := 1000000) (disch := (first | omega | (simp only [go_sem] <;> omega) | fail)) only [go_sem, ints, bools, mat] | ((first | refine goIf_b (fun h => ?_) (fun h => ?_) | refine goG_b (fun h => ?_) (fun h => ?_) | refine goTG_b (fun h => ?_) (fun h => ?_) | refine goOG_b (fun h => ?_) (fun h => ?_)) <;> ((try simp only [Bool.not_eq_true', Bool.not_eq_false'] at h); (try simp only [h]); (try simp only [decide_eq_true_eq, decide_eq_false_iff_not, bne_iff_ne, bne_eq_false_iff_eq, beq_iff_eq, beq_eq_false_iff_ne, ne_eq, Int.not_lt, Int.not_le, Bool.and_eq_true, Bool.and_eq_false_iff, Bool.or_eq_true, Bool.or_eq_false_iff] at h)) <;> (try (exfalso; omega))))
      first | refine goC_call [.r, .r, .r] (d_spec_l06Is l c r hs hcc hc) ?_ | refine goOC_call [.r, .r, .r] (d_spec_l06Is l c r hs hcc hc) ?_
      cases hpf : perfB l c r with
      | false =>
        rw [hpf] at e
        rw [e]
        repeat' (first | simp -implicitDefEqProofs (maxSteps := 1000000) (disch := (first | omega | (simp only [go_sem] <;> omega) | fail)) only [go_sem, ints, bools, mat] | ((first | refine goIf_b (fun h => ?_) (fun h => ?_) | refine goG_b (fun h => ?_) (fun h => ?_) | refine goTG_b (fun h => ?_) (fun h => ?_) | refine goOG_b (fun h => ?_) (fun h => ?_)) <;> ((try simp only [Bool.not_eq_true', Bool.not_eq_false'] at h); (try simp only [h]); (try simp only [decide_eq_true_eq, decide_eq_false_iff_not, bne_iff_ne, bne_eq_false_iff_eq, beq_iff_eq, beq_eq_false_iff_ne, ne_eq, Int.not_lt, Int.not_le, Bool.and_eq_true, Bool.and_eq_false_iff, Bool.or_eq_true, Bool.or_eq_false_iff] at h)) <;> (try (exfalso; omega))))
        rfl
      | true =>
        rw [hpf] at e
        rw [e]
        obtain ⟨h1, h2, h3, h4⟩ := idx_lt (p := fun u => decide (distM l u w ≤ r)) (by obtain ⟨i, hi, hd⟩ := perf_ex hpf hw.1 hw.2; exact ⟨i, hi, decide_eq_true hd⟩)
        repeat' (first | simp -implicitDefEqProofs (maxSteps := 1000000) (disch := (first | omega | (simp only [go_sem] <;> omega) | fail)) only [go_sem, ints, bools, mat] | ((first | refine goIf_b (fun h => ?_) (fun h => ?_) | refine goG_b (fun h => ?_) (fun h => ?_) | refine goTG_b (fun h => ?_) (fun h => ?_) | refine goOG_b (fun h => ?_) (fun h => ?_)) <;> ((try simp only [Bool.not_eq_true', Bool.not_eq_false'] at h); (try simp only [h]); (try simp only [decide_eq_true_eq, decide_eq_false_iff_not, bne_iff_ne, bne_eq_false_iff_eq, beq_iff_eq, beq_eq_false_iff_ne, ne_eq, Int.not_lt, Int.not_le, Bool.and_eq_true, Bool.and_eq_false_iff, Bool.or_eq_true, Bool.or_eq_false_iff] at h)) <;> (try (exfalso; omega))))
        refine go_loop (fun (j : Nat) => ⟨[(1, .d (ints c)), (2, .d (di r)), (3, .d (di w)), (4, .ref 0 0), (11, .d (di j))], [some (.var [ints l])]⟩) (fun j => j ≤ c.findIdx fun u => decide (distM l u w ≤ r)) (fun j => (c.findIdx fun u => decide (distM l u w ≤ r)) - j) 0 ?_ ?_ ?_
        · (simp -implicitDefEqProofs (maxSteps := 1000000) (disch := (first | omega | (simp only [go_sem] <;> omega) | fail)) only [go_sem, ints, bools, mat] <;> rfl)
        · simp
        · rintro j hj J hJ
          have hz := code_small hs hcc j
          repeat' (first | simp -implicitDefEqProofs (maxSteps := 1000000) (disch := (first | omega | (simp only [go_sem] <;> omega) | fail)) only [go_sem, ints, bools, mat] | ((first | refine goIf_b (fun h => ?_) (fun h => ?_) | refine goG_b (fun h => ?_) (fun h => ?_) | refine goTG_b (fun h => ?_) (fun h => ?_) | refine goOG_b (fun h => ?_) (fun h => ?_)) <;> ((try simp only [Bool.not_eq_true', Bool.not_eq_false'] at h); (try simp only [h]); (try simp only [decide_eq_true_eq, decide_eq_false_iff_not, bne_iff_ne, bne_eq_false_iff_eq, beq_iff_eq, beq_eq_false_iff_ne, ne_eq, Int.not_lt, Int.not_le, Bool.and_eq_true, Bool.and_eq_false_iff, Bool.or_eq_true, Bool.or_eq_false_iff] at h)) <;> (try (exfalso; omega))))
          first | refine goC_call [.r, .r, .r] (d_spec_l01Distance l hs (c.getD j 0) w (by omega) (by omega) hw.1 (by omega)) ?_ | refine goOC_call [.r, .r, .r] (d_spec_l01Distance l hs (c.getD j 0) w (by omega) (by omega) hw.1 (by omega)) ?_
          rcases Nat.lt_or_ge j (c.findIdx fun u => decide (distM l u w ≤ r)) with hlt | hge
          · have h5 := of_decide_eq_false (h4 j hlt)
            repeat' (first | simp -implicitDefEqProofs (maxSteps := 1000000) (disch := (first | omega | (simp only [go_sem] <;> omega) | fail)) only [go_sem, ints, bools, mat] | ((first | refine goIf_b (fun h => ?_) (fun h => ?_) | refine goG_b (fun h => ?_) (fun h => ?_) | refine goTG_b (fun h => ?_) (fun h => ?_) | refine goOG_b (fun h => ?_) (fun h => ?_)) <;> ((try simp only [Bool.not_eq_true', Bool.not_eq_false'] at h); (try simp only [h]); (try simp only [decide_eq_true_eq, decide_eq_false_iff_not, bne_iff_ne, bne_eq_false_iff_eq, beq_iff_eq, beq_eq_false_iff_ne, ne_eq, Int.not_lt, Int.not_le, Bool.and_eq_true, Bool.and_eq_false_iff, Bool.or_eq_true, Bool.or_eq_false_iff] at h)) <;> (try (exfalso; omega))))
            refine hJ (j + 1) (by omega) (by omega) _ (by (simp -implicitDefEqProofs (maxSteps := 1000000) (disch := (first | omega | (simp only [go_sem] <;> omega) | fail)) only [go_sem, ints, bools, mat] <;> rfl))
          · have h5 : j = c.findIdx fun u => decide (distM l u w ≤ r) := by omega
            subst h5
            have h6 := of_decide_eq_true h3
            repeat' (first | simp -implicitDefEqProofs (maxSteps := 1000000) (disch := (first | omega | (simp only [go_sem] <;> omega) | fail)) only [go_sem, ints, bools, mat] | ((first | refine goIf_b (fun h => ?_) (fun h => ?_) | refine goG_b (fun h => ?_) (fun h => ?_) | refine goTG_b (fun h => ?_) (fun h => ?_) | refine goOG_b (fun h => ?_) (fun h => ?_)) <;> ((try simp only [Bool.not_eq_true', Bool.not_eq_false'] at h); (try simp only [h]); (try simp only [decide_eq_true_eq, decide_eq_false_iff_not, bne_iff_ne, bne_eq_false_iff_eq, beq_iff_eq, beq_eq_false_iff_ne, ne_eq, Int.not_lt, Int.not_le, Bool.and_eq_true, Bool.and_eq_false_iff, Bool.or_eq_true, Bool.or_eq_false_iff] at h)) <;> (try (exfalso; omega))))
            simp [decM]
    · rw [if_neg hw] at e
      have hwb : (decide (0 ≤ w) && decide (w ≤ prodM l - 1)) = false := by
        cases hb : (decide (0 ≤ w) && decide (w ≤ prodM l - 1)) with
        | false => rfl
        | true => simp at hb; omega
      rw [hwb, e]
      repeat' (first | simp -implicitDefEqProofs (maxSteps := 1000000) (disch := (first | omega | (simp only [go_sem] <;> omega) | fail)) only [go_sem, ints, bools, mat] | ((first | refine goIf_b (fun h => ?_) (fun h => ?_) | refine goG_b (fun h => ?_) (fun h => ?_) | refine goTG_b (fun h => ?_) (fun h => ?_) | refine goOG_b (fun h => ?_) (fun h => ?_)) <;> ((try simp only [Bool.not_eq_true', Bool.not_eq_false'] at h); (try simp only [h]); (try simp only [decide_eq_true_eq, decide_eq_false_iff_not, bne_iff_ne, bne_eq_false_iff_eq, beq_iff_eq, beq_eq_false_iff_ne, ne_eq, Int.not_lt, Int.not_le, Bool.and_eq_true, Bool.and_eq_false_iff, Bool.or_eq_true, Bool.or_eq_false_iff] at h)) <;> (try (exfalso; omega))))
      all_goals rfl
  · rw [if_neg h] at e
    rw [e, if_neg h]
    generalize ccM l c r = b at h
    repeat' (first | simp -implicitDefEqProofs (maxSteps := 1000000) (disch := (first | omega | (simp only [go_sem] <;> omega) | fail)) only [go_sem, ints, bools, mat] | ((first | refine goIf_b (fun h => ?_) (fun h => ?_) | refine goG_b (fun h => ?_) (fun h => ?_) | refine goTG_b (fun h => ?_) (fun h => ?_) | refine goOG_b (fun h => ?_) (fun h => ?_)) <;> ((try simp only [Bool.not_eq_true', Bool.not_eq_false'] at h); (try simp only [h]); (try simp only [decide_eq_true_eq, decide_eq_false_iff_not, bne_iff_ne, bne_eq_false_iff_eq, beq_iff_eq, beq_eq_false_iff_ne, ne_eq, Int.not_lt, Int.not_le, Bool.and_eq_true, Bool.and_eq_false_iff, Bool.or_eq_true, Bool.or_eq_false_iff] at h)) <;> (try (exfalso; omega))))
    all_goals (first | done | (exfalso; omega))
def sumM (l a b : List Int) : List Int := (List.range l.length).map fun (i : Nat) => (a.getD i 0 + b.getD i 0) % l.getD i 0
@[go_sem] theorem sumM_len (l a b : List Int) : (sumM l a b).length = l.length := by simp [sumM]
theorem sumM_get {l : List Int} (a b : List Int) {i : Nat} (h : i < l.length) : (sumM l a b).getD i 0 = (a.getD i 0 + b.getD i 0) % l.getD i 0 := by simp [sumM, h]
def wordN (l d : List Int) : Nat → Int
  | 0 => 0
  | j + 1 => wordN l d j * l.getD j 0 + d.getD j 0
theorem wordN_bnd {l d : List Int} (hs : szs l) (hd : ∀ i, i < l.length → 0 ≤ d.getD i 0 ∧ d.getD i 0 < l.getD i 0) : ∀ j, j ≤ l.length → 0 ≤ wordN l d j ∧ wordN l d j < prodM (l.take j)
  | 0, _ => by simp [wordN, prodM]
  | j + 1, h => by
    have ih := wordN_bnd hs hd j (by omega)
    have h1 := hd j (by omega)
    have h2 := hs j (by omega)
    rw [wordN, prodM_step l (by omega)]
    have h3 := Int.mul_nonneg ih.1 (show 0 ≤ l.getD j 0 by omega)
    have h4 : (wordN l d j + 1) * l.getD j 0 ≤ prodM (l.take j) * l.getD j 0 := Int.mul_le_mul_of_nonneg_right (by omega) (by omega)
    rw [Int.add_mul, Int.one_mul] at h4
    omega
theorem wordN_mul {l d : List Int} (hs : isSpaceM l = true) (hd : ∀ i, i < l.length → 0 ≤ d.getD i 0 ∧ d.getD i 0 < l.getD i 0) {j : Nat} (h : j < l.length) : 0 ≤ wordN l d j * l.getD j 0 ∧ wordN l d j * l.getD j 0 ≤ 65536 := by
  have h1 := wordN_bnd (isSpaceM_szs hs) hd (j + 1) (by omega)
  have hn := isSpaceM_n hs
  have h2 := prodM_small l (j := j + 1) (by omega) (by omega) (fun i hi => isSpaceM_q hs i (by omega))
  have h3 := hd j h
  have h0 := wordN_bnd (isSpaceM_szs hs) hd j (by omega)
  have h4 := isSpaceM_q hs j h
  have h5 := Int.mul_nonneg h0.1 (show 0 ≤ l.getD j 0 by omega)
  rw [wordN] at h1
  omega
theorem d_spec_l01Word (l d : List Int) (hs : isSpaceM l = true) (hl : d.length = l.length) (hd : ∀ i, i < l.length → 0 ≤ d.getD i 0 ∧ d.getD i 0 < l.getD i 0) :
    Den PA f_spec_l01Word [.d (.agg [ints l]), .d (ints d)] [.any, .any] (.d (di (wordN l d l.length))) := by
  have hn := isSpaceM_n hs
  refine den_go [] l_spec_l01Word ?_
  repeat' (first | simp -implicitDefEqProofs (maxSteps := 1000000) (disch := (first | omega | (simp only [go_sem] <;> omega) | fail)) only [go_sem, ints, bools, mat, c_spec_l01Word] | ((first | refine goIf_b (fun h => ?_) (fun h => ?_) | refine goG_b (fun h => ?_) (fun h => ?_) | refine goTG_b (fun h => ?_) (fun h => ?_) | refine goOG_b (fun h => ?_) (fun h => ?_)) <;> ((try simp only [Bool.not_eq_true', Bool.not_eq_false'] at h); (try simp only [h]); (try simp only [decide_eq_true_eq, decide_eq_false_iff_not, bne_iff_ne, bne_eq_false_iff_eq, beq_iff_eq, beq_eq_false_iff_ne, ne_eq, Int.not_lt, Int.not_le, Bool.and_eq_true, Bool.and_eq_false_iff, Bool.or_eq_true, Bool.or_eq_false_iff] at h))))
  refine go_loop (fun (j : Nat) => ⟨[(1, .d (ints d)), (2, .ref 0 0), (5, .d (di (wordN l d j))), (6, .d (di j))], [some (.var [ints l])]⟩) (fun j => j ≤ l.length) (fun j => l.length - j) 0 ?_ ?_ ?_
  · (simp -implicitDefEqProofs (maxSteps := 1000000) (disch := (first | omega | (simp only [go_sem] <;> omega) | fail)) only [go_sem, ints, bools, mat] <;> rfl)
  · simp
  · rintro j hj J hJ
    have hm := fun h => wordN_mul hs hd (j := j) h
    have hdj := hd j
    have hq := isSpaceM_q hs j
    repeat' (first | simp -implicitDefEqProofs (maxSteps := 1000000) (disch := (first | omega | (simp only [go_sem] <;> omega) | fail)) only [go_sem, ints, bools, mat] | ((first | refine goIf_b (fun h => ?_) (fun h => ?_) | refine goG_b (fun h => ?_) (fun h => ?_) | refine goTG_b (fun h => ?_) (fun h => ?_) | refine goOG_b (fun h => ?_) (fun h => ?_)) <;> ((try simp only [Bool.not_eq_true', Bool.not_eq_false'] at h); (try simp only [h]); (try simp only [decide_eq_true_eq, decide_eq_false_iff_not, bne_iff_ne, bne_eq_false_iff_eq, beq_iff_eq, beq_eq_false_iff_ne, ne_eq, Int.not_lt, Int.not_le, Bool.and_eq_true, Bool.and_eq_false_iff, Bool.or_eq_true, Bool.or_eq_false_iff] at h))))
    · refine hJ (j + 1) (by omega) (by omega) _ ?_
      simp -implicitDefEqProofs (maxSteps := 1000000) (disch := (first | omega | (simp only [go_sem] <;> omega) | fail)) only [go_sem, ints, bools, mat]
      rw [wordN]; rfl
    · have : j = l.length := by omega
      subst this; rfl
/-- The sum of two words. -/
def sumW (l : List Int) (u w : Int) : Int := wordN l (sumM l (digM l u) (digM l w)) l.length
theorem sumM_lt {l : List Int} (hs : szs l) (a b : List Int) : ∀ i, i < l.length → 0 ≤ (sumM l a b).getD i 0 ∧ (sumM l a b).getD i 0 < l.getD i 0 := fun i hi => by
  rw [sumM_get a b hi]
  have h := hs i hi
  have := mod_bnd (x := a.getD i 0 + b.getD i 0) h
  omega
theorem sumW_bnd {l : List Int} (hs : isSpaceM l = true) (u w : Int) : 0 ≤ sumW l u w ∧ sumW l u w < prodM l := by
  have := wordN_bnd (isSpaceM_szs hs) (sumM_lt (isSpaceM_szs hs) (digM l u) (digM l w)) l.length (Nat.le_refl _)
  rwa [List.take_length] at this
theorem d_spec_l01Sum (l : List Int) (hs : isSpaceM l = true) (u w : Int) (hu : 0 ≤ u) (hu2 : u < 1000000000000) (hw : 0 ≤ w) (hw2 : w < 1000000000000) :
    Den PA f_spec_l01Sum [.d (.agg [ints l]), .d (di u), .d (di w)] [.any, .any, .any] (.d (di (sumW l u w))) := by
  have hn := isSpaceM_n hs
  have hz := isSpaceM_szs hs
  have ea := digM_len l u
  have eb := digM_len l w
  refine den_go [] l_spec_l01Sum ?_
  repeat' (first | simp -implicitDefEqProofs (maxSteps := 1000000) (disch := (first | omega | (simp only [go_sem] <;> omega) | fail)) only [go_sem, ints, bools, mat, c_spec_l01Sum] | ((first | refine goIf_b (fun h => ?_) (fun h => ?_) | refine goG_b (fun h => ?_) (fun h => ?_) | refine goTG_b (fun h => ?_) (fun h => ?_) | refine goOG_b (fun h => ?_) (fun h => ?_)) <;> ((try simp only [Bool.not_eq_true', Bool.not_eq_false'] at h); (try simp only [h]); (try simp only [decide_eq_true_eq, decide_eq_false_iff_not, bne_iff_ne, bne_eq_false_iff_eq, beq_iff_eq, beq_eq_false_iff_ne, ne_eq, Int.not_lt, Int.not_le, Bool.and_eq_true, Bool.and_eq_false_iff, Bool.or_eq_true, Bool.or_eq_false_iff] at h))))
  first | refine goC_call [.r, .r] (d_spec_l01Digits l hs u hu hu2) ?_ | refine goOC_call [.r, .r] (d_spec_l01Digits l hs u hu hu2) ?_
  repeat' (first | simp -implicitDefEqProofs (maxSteps := 1000000) (disch := (first | omega | (simp only [go_sem] <;> omega) | fail)) only [go_sem, ints, bools, mat] | ((first | refine goIf_b (fun h => ?_) (fun h => ?_) | refine goG_b (fun h => ?_) (fun h => ?_) | refine goTG_b (fun h => ?_) (fun h => ?_) | refine goOG_b (fun h => ?_) (fun h => ?_)) <;> ((try simp only [Bool.not_eq_true', Bool.not_eq_false'] at h); (try simp only [h]); (try simp only [decide_eq_true_eq, decide_eq_false_iff_not, bne_iff_ne, bne_eq_false_iff_eq, beq_iff_eq, beq_eq_false_iff_ne, ne_eq, Int.not_lt, Int.not_le, Bool.and_eq_true, Bool.and_eq_false_iff, Bool.or_eq_true, Bool.or_eq_false_iff] at h))))
  first | refine goC_call [.r, .r] (d_spec_l01Digits l hs w hw hw2) ?_ | refine goOC_call [.r, .r] (d_spec_l01Digits l hs w hw hw2) ?_
  repeat' (first | simp -implicitDefEqProofs (maxSteps := 1000000) (disch := (first | omega | (simp only [go_sem] <;> omega) | fail)) only [go_sem, ints, bools, mat] | ((first | refine goIf_b (fun h => ?_) (fun h => ?_) | refine goG_b (fun h => ?_) (fun h => ?_) | refine goTG_b (fun h => ?_) (fun h => ?_) | refine goOG_b (fun h => ?_) (fun h => ?_)) <;> ((try simp only [Bool.not_eq_true', Bool.not_eq_false'] at h); (try simp only [h]); (try simp only [decide_eq_true_eq, decide_eq_false_iff_not, bne_iff_ne, bne_eq_false_iff_eq, beq_iff_eq, beq_eq_false_iff_ne, ne_eq, Int.not_lt, Int.not_le, Bool.and_eq_true, Bool.and_eq_false_iff, Bool.or_eq_true, Bool.or_eq_false_iff] at h))))
  refine go_loop (fun (j : Nat) => ⟨[(3, .ref 0 0), (7, .sl 1 0 l.length 1), (8, .sl 2 0 l.length 1), (17, .d (di l.length)), (18, .d (di j))], [some (.var [ints l]), some (.dat 1 (((sumM l (digM l u) (digM l w)).take j ++ (digM l u).drop j).map di)), some (.dat 1 ((digM l w).map di))]⟩) (fun j => j ≤ l.length) (fun j => l.length - j) 0 ?_ ?_ ?_
  · simp -implicitDefEqProofs (maxSteps := 1000000) (disch := (first | omega | (simp only [go_sem] <;> omega) | fail)) only [go_sem, ints, bools, mat]
    rw [ea, eb]
  · simp
  · rintro j hj J hJ
    have hA : (sumM l (digM l u) (digM l w)).length = (digM l u).length := by rw [sumM_len, ea]
    have hm := fun h => mixS_get (A := sumM l (digM l u) (digM l w)) (t := digM l u) (0 : Int) (j := j) hA h
    have hst := fun h => mixS_step (A := sumM l (digM l u) (digM l w)) (t := digM l u) (0 : Int) (j := j) hA h
    have hsg := fun h => sumM_get (l := l) (digM l u) (digM l w) (i := j) h
    have hx := digM_bnd u hz j
    have hy := digM_bnd w hz j
    have hln : ((sumM l (digM l u) (digM l w)).take j ++ (digM l u).drop j).length = l.length := by simp [sumM_len, ea]; omega
    have hq := hz j
    by_cases hjl : j < l.length
    · have hm := hm (by omega)
      have hmb := mod_bnd (x := (digM l u).getD j 0 + (digM l w).getD j 0) (hz j hjl)
      rw [hsg hjl] at hst
      generalize (sumM l (digM l u) (digM l w)).take j ++ (digM l u).drop j = M at hm hst hln
      rw [← hm] at hx hmb
      repeat' (first | simp -implicitDefEqProofs (maxSteps := 1000000) (disch := (first | omega | (simp only [go_sem] <;> omega) | fail)) only [go_sem, ints, bools, mat] | ((first | refine goIf_b (fun h => ?_) (fun h => ?_) | refine goG_b (fun h => ?_) (fun h => ?_) | refine goTG_b (fun h => ?_) (fun h => ?_) | refine goOG_b (fun h => ?_) (fun h => ?_)) <;> ((try simp only [Bool.not_eq_true', Bool.not_eq_false'] at h); (try simp only [h]); (try simp only [decide_eq_true_eq, decide_eq_false_iff_not, bne_iff_ne, bne_eq_false_iff_eq, beq_iff_eq, beq_eq_false_iff_ne, ne_eq, Int.not_lt, Int.not_le, Bool.and_eq_true, Bool.and_eq_false_iff, Bool.or_eq_true, Bool.or_eq_false_iff] at h)) <;> (try (exfalso; omega))))
      refine hJ (j + 1) (by omega) (by omega) _ ?_
      simp -implicitDefEqProofs (maxSteps := 1000000) (disch := (first | omega | (simp only [go_sem] <;> omega) | fail)) only [go_sem, ints, bools, mat]
      rw [hm, hst (by omega)]; rfl
    · have : j = l.length := by omega
      subst this
      have e1 : (sumM l (digM l u) (digM l w)).take l.length = sumM l (digM l u) (digM l w) := List.take_of_length_le (by rw [sumM_len]; exact Nat.le_refl _)
      have e2 : (digM l u).drop l.length = [] := by rw [← ea]; simp
      rw [e1, e2, List.append_nil]
      have e3 := sumM_len l (digM l u) (digM l w)
      repeat' (first | simp -implicitDefEqProofs (maxSteps := 1000000) (disch := (first | omega | (simp only [go_sem] <;> omega) | fail)) only [go_sem, ints, bools, mat] | ((first | refine goIf_b (fun h => ?_) (fun h => ?_) | refine goG_b (fun h => ?_) (fun h => ?_) | refine goTG_b (fun h => ?_) (fun h => ?_) | refine goOG_b (fun h => ?_) (fun h => ?_)) <;> ((try simp only [Bool.not_eq_true', Bool.not_eq_false'] at h); (try simp only [h]); (try simp only [decide_eq_true_eq, decide_eq_false_iff_not, bne_iff_ne, bne_eq_false_iff_eq, beq_iff_eq, beq_eq_false_iff_ne, ne_eq, Int.not_lt, Int.not_le, Bool.and_eq_true, Bool.and_eq_false_iff, Bool.or_eq_true, Bool.or_eq_false_iff] at h)) <;> (try (exfalso; omega))))
      first | refine goC_call [.r, .r] (d_spec_l01Word l (sumM l (digM l u) (digM l w)) hs e3 (sumM_lt hz _ _)) ?_ | refine goOC_call [.r, .r] (d_spec_l01Word l (sumM l (digM l u) (digM l w)) hs e3 (sumM_lt hz _ _)) ?_
      repeat' (first | simp -implicitDefEqProofs (maxSteps := 1000000) (disch := (first | omega | (simp only [go_sem] <;> omega) | fail)) only [go_sem, ints, bools, mat] | ((first | refine goIf_b (fun h => ?_) (fun h => ?_) | refine goG_b (fun h => ?_) (fun h => ?_) | refine goTG_b (fun h => ?_) (fun h => ?_) | refine goOG_b (fun h => ?_) (fun h => ?_)) <;> ((try simp only [Bool.not_eq_true', Bool.not_eq_false'] at h); (try simp only [h]); (try simp only [decide_eq_true_eq, decide_eq_false_iff_not, bne_iff_ne, bne_eq_false_iff_eq, beq_iff_eq, beq_eq_false_iff_ne, ne_eq, Int.not_lt, Int.not_le, Bool.and_eq_true, Bool.and_eq_false_iff, Bool.or_eq_true, Bool.or_eq_false_iff] at h)) <;> (try (exfalso; omega))))
      rfl
def setN (N : Nat) (c : List Int) : Nat → List Bool
  | 0 => List.replicate N false
  | j + 1 => (setN N c j).set (c.getD j 0).toNat true
@[go_sem] theorem setN_len (N : Nat) (c : List Int) : ∀ j, (setN N c j).length = N
  | 0 => by simp [setN]
  | j + 1 => by rw [setN, List.length_set, setN_len N c j]
/-- How many of the first words of a code are within M of b, and the last of these. -/
def cntB (l c : List Int) (M b : Int) : Nat → Nat
  | 0 => 0
  | j + 1 => if distM l b (c.getD j 0) ≤ M then cntB l c M b j + 1 else cntB l c M b j
def lastB (l c : List Int) (M b : Int) : Nat → Nat
  | 0 => 0
  | j + 1 => if distM l b (c.getD j 0) ≤ M then j else lastB l c M b j
def needN (l c : List Int) (M : Int) (B : List Int) : Nat → List Bool
  | 0 => List.replicate c.length false
  | j + 1 => if cntB l c M (B.getD j 0) c.length = 1 then (needN l c M B j).set (lastB l c M (B.getD j 0) c.length) true else needN l c M B j
@[go_sem] theorem needN_len (l c : List Int) (M : Int) (B : List Int) : ∀ j, (needN l c M B j).length = c.length
  | 0 => by simp [needN]
  | j + 1 => by rw [needN]; split <;> simp [needN_len l c M B j]
@[go_sem] theorem toNat_succ (j : Nat) : ((j : Int) + 1).toNat = j + 1 := by omega
@[go_sem] theorem all_lf_digs (ds : List (List Int)) : (digs ds).all lfD = true := by
  rw [List.all_eq_true]; intro x hx
  obtain ⟨d, _, rfl⟩ := List.mem_map.1 hx
  rw [lfD, lfDs_all, List.all_eq_true]; intro y hy
  obtain ⟨i, _, rfl⟩ := List.mem_map.1 hy
  rfl
theorem d_spec_l01Own (t : List Int) (h : t.length < 1048577) : Den PA f_spec_l01Own [.d (ints t)] [.any] (.own 1 (t.map di)) := by
  refine den_go [] l_spec_l01Own ?_
  repeat' (first | simp -implicitDefEqProofs (maxSteps := 1000000) (disch := (first | omega | (simp only [go_sem] <;> omega) | fail)) only [go_sem, ints, bools, mat, c_spec_l01Own] | ((first | refine goIf_b (fun h => ?_) (fun h => ?_) | refine goG_b (fun h => ?_) (fun h => ?_) | refine goTG_b (fun h => ?_) (fun h => ?_) | refine goOG_b (fun h => ?_) (fun h => ?_)) <;> ((try simp only [Bool.not_eq_true', Bool.not_eq_false'] at h); (try simp only [h]); (try simp only [decide_eq_true_eq, decide_eq_false_iff_not, bne_iff_ne, bne_eq_false_iff_eq, beq_iff_eq, beq_eq_false_iff_ne, ne_eq, Int.not_lt, Int.not_le, Bool.and_eq_true, Bool.and_eq_false_iff, Bool.or_eq_true, Bool.or_eq_false_iff] at h))))
@[go_sem] theorem toNat_pred {j : Nat} : ((j : Int) - 1).toNat = j - 1 := by omega
abbrev sortI (l : List Int) : List Int := l.mergeSort (fun x y => decide (x ≤ y))
@[go_sem] theorem sortI_len (l : List Int) : (sortI l).length = l.length := List.length_mergeSort l
theorem d_slices_Clone_ints (t : List Int) (h : t.length < 1048577) : Den PA f_slices_Clone___int64_int64_ [.d (ints t)] [.any] (.own 1 (t.map di)) := by
  refine den_go [] l_slices_Clone___int64_int64_ ?_
  repeat' (first | simp -implicitDefEqProofs (maxSteps := 1000000) (disch := (first | omega | (simp only [go_sem] <;> omega) | fail)) only [go_sem, ints, bools, mat, c_slices_Clone___int64_int64_] | ((first | refine goIf_b (fun h => ?_) (fun h => ?_) | refine goG_b (fun h => ?_) (fun h => ?_) | refine goTG_b (fun h => ?_) (fun h => ?_) | refine goOG_b (fun h => ?_) (fun h => ?_)) <;> ((try simp only [Bool.not_eq_true', Bool.not_eq_false'] at h); (try simp only [h]); (try simp only [decide_eq_true_eq, decide_eq_false_iff_not, bne_iff_ne, bne_eq_false_iff_eq, beq_iff_eq, beq_eq_false_iff_ne, ne_eq, Int.not_lt, Int.not_le, Bool.and_eq_true, Bool.and_eq_false_iff, Bool.or_eq_true, Bool.or_eq_false_iff] at h))))
/-- i is the place of the first digit other than 0. -/
def fdB (d : List Int) (i : Nat) : Bool := (d.getD i 0 != 0) && (List.range i).all fun j => d.getD j 0 == 0
/-- i is the first place of one of the first j words. -/
def pvB (l c : List Int) (j i : Nat) : Bool := (List.range j).any fun k => fdB (digM l (c.getD k 0)) i
@[go_sem] theorem flat_dy (l : List Int) : flat (l.map dy) = l.map dy := flat_one _ l
@[go_sem] theorem all_one_dy (l : List Int) : (l.map dy).all isOne = true := by rw [List.all_map]; simp [isOne]
attribute [go_sem] slaM
/-- The first places of the first j words, as a row of n marks. -/
def firN (l c : List Int) (n j : Nat) : List Bool := (List.range n).map fun i => pvB l c j i
@[go_sem] theorem firN_len (l c : List Int) (n j : Nat) : (firN l c n j).length = n := by simp [firN]
@[go_sem] theorem getB2 {l : List Bool} {j : Nat} (h : j < l.length) : (l.map db)[j]? = some (db (l.getD j false)) := by simp [h]
@[go_sem] theorem mask32 {x : Int} (h : 0 ≤ x) (h' : x < 4294967296) : binA .and (.d (.v (.int .u64 x))) (.d (.v (.int .u64 4294967295))) = some (.d (.v (.int .u64 x))) := by
  have e : (BitVec.ofInt 64 x &&& BitVec.ofInt 64 4294967295).toNat = x.toNat := by
    rw [BitVec.toNat_and, ofInt_nat h (by omega), ofInt_nat (by omega) (by omega)]
    have := Nat.and_two_pow_sub_one_eq_mod x.toNat 32
    rw [show (4294967295 : Int).toNat = 2 ^ 32 - 1 from rfl, this]
    exact Nat.mod_eq_of_lt (by omega)
  have e2 : binI .and .u64 x 4294967295 = some (.int .u64 (IntKind.wrap .u64 ((BitVec.ofInt 64 x &&& BitVec.ofInt 64 4294967295).toNat : Nat))) := rfl
  simp only [binA, e2, BinOp.isShift, or_true, if_true, e, Option.map_some]
  rw [wrap_u64 (by omega) (by omega), Int.toNat_of_nonneg h]
@[go_sem] theorem shr32 {x : Int} (h : 0 ≤ x) (h' : x < 4294967296) : binA .shr (.d (.v (.int .u64 x))) (.d (.v (.int .u64 32))) = some (.d (.v (.int .u64 0))) := by
  have e : min (32 : Int).toNat 64 = 32 := rfl
  have h1 : (0 : Int) ≤ 2 ^ 32 := by decide
  simp only [binA, binI, BinOp.isShift, true_or, if_true, if_neg (show ¬ (32 : Int) < 0 by omega), IntKind.bits, e, Option.map_some, Int.fdiv_eq_ediv_of_nonneg _ h1]
  rw [Int.ediv_eq_zero_of_lt h (by exact h')]
@[go_sem] theorem cast_one1 : ((1 : Nat) : Int) = 1 := rfl
theorem d_bits_Mul64 (n : Nat) (h : n < 1048577) : Den PA f_math_bits_Mul64 [.d (.v (.int .u64 1)), .d (.v (.int .u64 n))] [.any, .any] (.tup [.d (.v (.int .u64 0)), .d (.v (.int .u64 n))]) := by
  refine den_go [] l_math_bits_Mul64 ?_
  repeat' (first | simp -implicitDefEqProofs (maxSteps := 1000000) (disch := (first | omega | (simp only [go_sem] <;> omega) | fail)) only [go_sem, ints, bools, mat, c_math_bits_Mul64, Int.one_mul, Int.zero_mul, Int.mul_zero, Int.add_zero] | ((first | refine goIf_b (fun h => ?_) (fun h => ?_) | refine goG_b (fun h => ?_) (fun h => ?_) | refine goTG_b (fun h => ?_) (fun h => ?_) | refine goOG_b (fun h => ?_) (fun h => ?_)) <;> ((try simp only [Bool.not_eq_true', Bool.not_eq_false'] at h); (try simp only [h]); (try simp only [decide_eq_true_eq, decide_eq_false_iff_not, bne_iff_ne, bne_eq_false_iff_eq, beq_iff_eq, beq_eq_false_iff_ne, ne_eq, Int.not_lt, Int.not_le, Bool.and_eq_true, Bool.and_eq_false_iff, Bool.or_eq_true, Bool.or_eq_false_iff] at h))))
theorem d_bits_Mul (n : Nat) (h : n < 1048577) : Den PA f_math_bits_Mul [.d (.v (.int .u64 1)), .d (.v (.int .u64 n))] [.any, .any] (.tup [.d (.v (.int .u64 0)), .d (.v (.int .u64 n))]) := by
  refine den_go [] l_math_bits_Mul ?_
  repeat' (first | simp -implicitDefEqProofs (maxSteps := 1000000) (disch := (first | omega | (simp only [go_sem] <;> omega) | fail)) only [go_sem, ints, bools, mat, c_math_bits_Mul] | ((first | refine goIf_b (fun h => ?_) (fun h => ?_) | refine goG_b (fun h => ?_) (fun h => ?_) | refine goTG_b (fun h => ?_) (fun h => ?_) | refine goOG_b (fun h => ?_) (fun h => ?_)) <;> ((try simp only [Bool.not_eq_true', Bool.not_eq_false'] at h); (try simp only [h]); (try simp only [decide_eq_true_eq, decide_eq_false_iff_not, bne_iff_ne, bne_eq_false_iff_eq, beq_iff_eq, beq_eq_false_iff_ne, ne_eq, Int.not_lt, Int.not_le, Bool.and_eq_true, Bool.and_eq_false_iff, Bool.or_eq_true, Bool.or_eq_false_iff] at h))))
  first | refine goC_call [.r, .r] (d_bits_Mul64 n h) ?_ | refine goOC_call [.r, .r] (d_bits_Mul64 n h) ?_
  repeat' (first | simp -implicitDefEqProofs (maxSteps := 1000000) (disch := (first | omega | (simp only [go_sem] <;> omega) | fail)) only [go_sem, ints, bools, mat] | ((first | refine goIf_b (fun h => ?_) (fun h => ?_) | refine goG_b (fun h => ?_) (fun h => ?_) | refine goTG_b (fun h => ?_) (fun h => ?_) | refine goOG_b (fun h => ?_) (fun h => ?_)) <;> ((try simp only [Bool.not_eq_true', Bool.not_eq_false'] at h); (try simp only [h]); (try simp only [decide_eq_true_eq, decide_eq_false_iff_not, bne_iff_ne, bne_eq_false_iff_eq, beq_iff_eq, beq_eq_false_iff_ne, ne_eq, Int.not_lt, Int.not_le, Bool.and_eq_true, Bool.and_eq_false_iff, Bool.or_eq_true, Bool.or_eq_false_iff] at h))))
theorem rep_copy (v : Int) {n m k : Nat} (hk : k = min (n - m) (min m (m + (n - m)))) (h2 : m ≤ n) :
    List.take m (List.replicate m v ++ List.replicate (n - m) 0) ++ List.take (n - m) (List.take m (List.replicate m v ++ List.replicate (n - m) 0)) ++ List.drop (m + k) (List.replicate m v ++ List.replicate (n - m) 0) = List.replicate (m + k) v ++ List.replicate (n - (m + k)) 0 := by
  rw [List.take_append_of_le_length (by simp), List.take_of_length_le (by simp), List.drop_append, List.drop_of_length_le (by simp), List.nil_append, List.drop_replicate, List.length_replicate, List.take_replicate, List.replicate_append_replicate]
  congr 2
  · omega
  · omega
theorem d_slices_Repeat (v : Int) (n : Nat) (h1 : 1 ≤ n) (h : n < 1048577) : Den PA f_slices_Repeat___int64_int64_ [.d (ints [v]), .d (di n)] [.any, .any] (.own 1 ((List.replicate n v).map di)) := by
  refine den_go [] l_slices_Repeat___int64_int64_ ?_
  repeat' (first | simp -implicitDefEqProofs (maxSteps := 1000000) (disch := (first | omega | (simp only [go_sem] <;> omega) | fail)) only [go_sem, ints, bools, mat, c_slices_Repeat___int64_int64_] | ((first | refine goIf_b (fun h => ?_) (fun h => ?_) | refine goG_b (fun h => ?_) (fun h => ?_) | refine goTG_b (fun h => ?_) (fun h => ?_) | refine goOG_b (fun h => ?_) (fun h => ?_)) <;> ((try simp only [Bool.not_eq_true', Bool.not_eq_false'] at h); (try simp only [h]); (try simp only [decide_eq_true_eq, decide_eq_false_iff_not, bne_iff_ne, bne_eq_false_iff_eq, beq_iff_eq, beq_eq_false_iff_ne, ne_eq, Int.not_lt, Int.not_le, Bool.and_eq_true, Bool.and_eq_false_iff, Bool.or_eq_true, Bool.or_eq_false_iff] at h)) <;> (try (exfalso; omega))))
  first | refine goC_call [.r, .r] (d_bits_Mul n (by omega)) ?_ | refine goOC_call [.r, .r] (d_bits_Mul n (by omega)) ?_
  repeat' (first | simp -implicitDefEqProofs (maxSteps := 1000000) (disch := (first | omega | (simp only [go_sem] <;> omega) | fail)) only [go_sem, ints, bools, mat] | ((first | refine goIf_b (fun h => ?_) (fun h => ?_) | refine goG_b (fun h => ?_) (fun h => ?_) | refine goTG_b (fun h => ?_) (fun h => ?_) | refine goOG_b (fun h => ?_) (fun h => ?_)) <;> ((try simp only [Bool.not_eq_true', Bool.not_eq_false'] at h); (try simp only [h]); (try simp only [decide_eq_true_eq, decide_eq_false_iff_not, bne_iff_ne, bne_eq_false_iff_eq, beq_iff_eq, beq_eq_false_iff_ne, ne_eq, Int.not_lt, Int.not_le, Bool.and_eq_true, Bool.and_eq_false_iff, Bool.or_eq_true, Bool.or_eq_false_iff] at h)) <;> (try (exfalso; omega))))
  refine go_loop (fun (m : Nat) => ⟨[(7, .sl 0 0 n 1), (8, .d (di m))], [some (.dat 1 ((List.replicate m v ++ List.replicate (n - m) 0).map di))]⟩) (fun m => 1 ≤ m ∧ m ≤ n) (fun m => n - m) 1 ?_ ?_ ?_
  · simp -implicitDefEqProofs (maxSteps := 1000000) (disch := (first | omega | (simp only [go_sem] <;> omega) | fail)) only [go_sem, ints, bools, mat]
    rw [show min 1 n = 1 by omega, show min n 1 = 1 by omega, List.drop_replicate]; rfl
  · exact ⟨Nat.le_refl _, h1⟩
  · rintro m ⟨hm1, hm2⟩ J hJ
    repeat' (first | simp -implicitDefEqProofs (maxSteps := 1000000) (disch := (first | omega | (simp only [go_sem] <;> omega) | fail)) only [go_sem, ints, bools, mat] | ((first | refine goIf_b (fun h => ?_) (fun h => ?_) | refine goG_b (fun h => ?_) (fun h => ?_) | refine goTG_b (fun h => ?_) (fun h => ?_) | refine goOG_b (fun h => ?_) (fun h => ?_)) <;> ((try simp only [Bool.not_eq_true', Bool.not_eq_false'] at h); (try simp only [h]); (try simp only [decide_eq_true_eq, decide_eq_false_iff_not, bne_iff_ne, bne_eq_false_iff_eq, beq_iff_eq, beq_eq_false_iff_ne, ne_eq, Int.not_lt, Int.not_le, Bool.and_eq_true, Bool.and_eq_false_iff, Bool.or_eq_true, Bool.or_eq_false_iff] at h)) <;> (try (exfalso; omega))))
    · refine hJ (m + min (n - m) (min m (m + (n - m)))) ⟨by omega, by omega⟩ (by omega) _ ?_
      simp -implicitDefEqProofs (maxSteps := 1000000) (disch := (first | omega | (simp only [go_sem] <;> omega) | fail)) only [go_sem, ints, bools, mat]
      rw [rep_copy v rfl hm2, Int.natCast_add, Nat.min_comm (min m (m + (n - m)))]
    · have : m = n := by omega
      subst this
      simp
/-- .. with k one less; none at k = 0. -/
def dn (f : Nat → Int) (k : Nat) : Int := if k = 0 then 0 else f (k - 1)
/-- A row of coefficients times (1 + b x). -/
def mulB (b : Int) (f : Nat → Int) (k : Nat) : Int := f k + b * dn f k
theorem getD_set (o : List Int) (i j : Nat) (v : Int) (hi : i < o.length) : (o.set i v).getD j 0 = if i = j then v else o.getD j 0 := by
  rw [List.getD_eq_getElem?_getD, List.getElem?_set]
  split
  · first | rfl | (rename_i e; subst e; simp [hi])
  · rw [List.getD_eq_getElem?_getD]
/-- A list told by a function. -/
def FL (n : Nat) (f : Nat → Int) : List Int := (List.range (n + 1)).map f
@[go_sem] theorem FL_len (n : Nat) (f : Nat → Int) : (FL n f).length = n + 1 := by simp [FL]
@[go_sem] theorem tn1 (f r : Nat) : ((f : Int) + (2 * (r : Int) + 1)).toNat = f + (2 * r + 1) := by omega
@[go_sem] theorem tn2 (f r : Nat) : ((f : Int) + (2 * (r : Int) + 1) + 1).toNat = f + (2 * r + 2) := by omega
@[go_sem] theorem tn3 (f r : Nat) : ((f : Int) + (2 * (r : Int) + 1 + 1)).toNat = f + (2 * r + 2) := by omega
@[go_sem] theorem tn4 (f r : Nat) : ((f : Int) + (r : Int)).toNat = f + r := by omega
theorem half (a b : Nat) (h : a ≤ b) : ((b : Int) - (a : Int) - 1).tdiv 2 = (((b - a - 1) / 2 : Nat) : Int) := by
  by_cases e : a = b
  · subst e
    rw [show (a : Int) - (a : Int) - 1 = -1 by omega, show a - a - 1 = 0 by omega]; rfl
  · rw [show (b : Int) - (a : Int) - 1 = ((b - a - 1 : Nat) : Int) by omega]; rfl
def cpN (l : List Int) : Nat → List Int
  | 0 => []
  | m + 1 => if m = 0 ∨ l.getD m 0 ≠ l.getD (m - 1) 0 then cpN l m ++ [l.getD m 0] else cpN l m
abbrev cpM (l : List Int) : List Int := cpN l l.length
theorem cpN_len (l : List Int) : ∀ m, (cpN l m).length ≤ m
  | 0 => Nat.le_refl _
  | m + 1 => by
    have := cpN_len l m
    rw [cpN]; split
    · simp; omega
    · omega
theorem leaS_part {i n : Nat} {es : List D} {s : Sto} (h : n ≤ es.length) : leaS (some (some (.dat 1 es))) i 0 n 1 s = (.own 1 (es.take n), s.set i none) := by
  simp [leaS, h]
abbrev Asc (l : List Int) : Prop := l.Pairwise (· < ·)
theorem asc_ext : ∀ {a b : List Int}, Asc a → Asc b → (∀ x, x ∈ a ↔ x ∈ b) → a = b
  | [], [], _, _, _ => rfl
  | [], y :: s, _, _, h => by have := (h y).2 (by simp); simp at this
  | x :: r, [], _, _, h => by have := (h x).1 (by simp); simp at this
  | x :: r, y :: s, ha, hb, h => by
    obtain ⟨a1, a2⟩ := List.pairwise_cons.1 ha
    obtain ⟨b1, b2⟩ := List.pairwise_cons.1 hb
    have hxy : x = y := by
      have h1 := (h x).1 (by simp)
      have h2 := (h y).2 (by simp)
      simp only [List.mem_cons] at h1 h2
      rcases h1 with h1 | h1
      · exact h1
      · rcases h2 with h2 | h2
        · exact h2.symm
        · have := b1 x h1; have := a1 y h2; omega
    subst hxy
    rw [asc_ext a2 b2 fun z => ?_]
    have := h z
    simp only [List.mem_cons] at this
    constructor
    · intro hz
      rcases this.1 (.inr hz) with e | e
      · have := a1 z hz; omega
      · exact e
    · intro hz
      rcases this.2 (.inr hz) with e | e
      · have := b1 z hz; omega
      · exact e
theorem asc_snoc {l : List Int} {x : Int} (h : Asc l) (hx : ∀ y, y ∈ l → y < x) : Asc (l ++ [x]) := by
  refine List.pairwise_append.2 ⟨h, by simp, fun a ha b hb => ?_⟩
  simp at hb; subst hb; exact hx a ha
theorem cpN_ok {l : List Int} (hs : l.Pairwise (· ≤ ·)) : ∀ m, m ≤ l.length → Asc (cpN l m) ∧ (∀ x, x ∈ cpN l m ↔ x ∈ l.take m)
  | 0, _ => by simp [cpN, Asc]
  | m + 1, h => by
    obtain ⟨h1, h2⟩ := cpN_ok hs m (by omega)
    have hm : ∀ x, x ∈ l.take m → x ≤ l.getD m 0 := fun x hx => by
      obtain ⟨i, hi, rfl⟩ := List.mem_iff_getElem.1 hx
      simp at hi
      have := List.pairwise_iff_getElem.1 hs i m (by omega) (by omega) (by omega)
      simpa [show m < l.length by omega] using this
    have ht : l.take (m + 1) = l.take m ++ [l.getD m 0] := by rw [List.take_add_one]; simp [show m < l.length by omega]
    rw [cpN, ht]
    split
    · rename_i hc
      refine ⟨asc_snoc h1 fun y hy => ?_, fun x => by simp only [List.mem_append, h2]⟩
      rw [h2] at hy
      rcases hc with rfl | hc
      · simp at hy
      · obtain ⟨i, hi, rfl⟩ := List.mem_iff_getElem.1 hy
        simp at hi
        have e1 : (l.take m)[i] ≤ l.getD (m - 1) 0 := by
          rcases Nat.lt_or_ge i (m - 1) with hlt | hge
          · have := List.pairwise_iff_getElem.1 hs i (m - 1) (by omega) (by omega) hlt
            simpa [show m - 1 < l.length by omega] using this
          · have : i = m - 1 := by omega
            subst this; simp [show m - 1 < l.length by omega]
        have e2 : l.getD (m - 1) 0 ≤ l.getD m 0 := by
          have := List.pairwise_iff_getElem.1 hs (m - 1) m (by omega) (by omega) (by omega)
          simpa [show m - 1 < l.length by omega, show m < l.length by omega] using this
        omega
    · rename_i hc
      refine ⟨h1, fun x => ?_⟩
      rw [h2, List.mem_append]
      constructor
      · exact .inl
      · rintro (hx | hx)
        · exact hx
        · simp only [List.mem_singleton] at hx
          have hm0 : m ≠ 0 := fun e => hc (.inl e)
          have he : l.getD m 0 = l.getD (m - 1) 0 := Decidable.not_not.1 fun e => hc (.inr e)
          rw [hx, he]
          refine List.mem_iff_getElem.2 ⟨m - 1, by simp; omega, ?_⟩
          simp [show m - 1 < l.length by omega]
theorem sortI_sorted (l : List Int) : (sortI l).Pairwise (· ≤ ·) := by
  have := List.pairwise_mergeSort (le := fun x y : Int => decide (x ≤ y)) (fun a b c h1 h2 => by simp at *; omega) (fun a b => by simp; omega) l
  exact this.imp fun h => by simpa using h
theorem sortI_mem (l : List Int) (x : Int) : x ∈ sortI l ↔ x ∈ l := List.mem_mergeSort
/-- The set of the numbers of a list. -/
abbrev setI (l : List Int) : List Int := cpM (sortI l)
theorem setI_asc (l : List Int) : Asc (setI l) := (cpN_ok (sortI_sorted l) _ (Nat.le_refl _)).1
theorem setI_mem (l : List Int) (x : Int) : x ∈ setI l ↔ x ∈ l := by
  rw [(cpN_ok (sortI_sorted l) _ (Nat.le_refl _)).2, List.take_length, sortI_mem]
theorem setI_len (l : List Int) : (setI l).length ≤ l.length := by
  exact Nat.le_trans (cpN_len (sortI l) (sortI l).length) (Nat.le_of_eq (List.length_mergeSort l))
/-- How many numbers at the front of a list are at most x, from n downwards. -/
def ptN (l : List Int) (x : Int) : Nat → Nat
  | 0 => 0
  | n + 1 => if x < l.getD n 0 then ptN l x n else n + 1
def putI (l : List Int) (x : Int) : List Int :=
  let a := ptN l x l.length
  if 0 < a ∧ l.getD (a - 1) 0 = x then l else l.take a ++ [x] ++ l.drop a
theorem ptN_le (l : List Int) (x : Int) : ∀ n, ptN l x n ≤ n
  | 0 => Nat.le_refl _
  | n + 1 => by
    have := ptN_le l x n
    rw [ptN]; split <;> omega
theorem ptN_gt (l : List Int) (x : Int) : ∀ n i, ptN l x n ≤ i → i < n → x < l.getD i 0
  | 0, i, h1, h2 => by omega
  | n + 1, i, h1, h2 => by
    rw [ptN] at h1
    split at h1
    · by_cases e : i = n
      · subst e; assumption
      · exact ptN_gt l x n i h1 (by omega)
    · omega
theorem ptN_at (l : List Int) (x : Int) : ∀ n, 0 < ptN l x n → l.getD (ptN l x n - 1) 0 ≤ x
  | 0, h => by simp [ptN] at h
  | n + 1, h => by
    rw [ptN] at h ⊢
    split at h
    · rename_i hx
      rw [if_pos hx]; exact ptN_at l x n h
    · rename_i hx
      rw [if_neg hx]; simp only [Nat.add_sub_cancel]; omega
theorem putI_len (l : List Int) (x : Int) : (putI l x).length ≤ l.length + 1 := by
  have := ptN_le l x l.length
  simp only [putI]
  split
  · omega
  · simp; omega
theorem putI_mem {l : List Int} {x : Int} (y : Int) : y ∈ putI l x ↔ y ∈ l ∨ y = x := by
  have hl := ptN_le l x l.length
  simp only [putI]
  split
  · rename_i h
    constructor
    · exact .inl
    · rintro (h1 | rfl)
      · exact h1
      · rw [← h.2]; exact mem_getD (by omega)
  · simp only [List.mem_append, List.mem_singleton]
    conv => rhs; rw [← List.take_append_drop (ptN l x l.length) l, List.mem_append]
    constructor
    · rintro ((h | h) | h)
      · exact .inl (.inl h)
      · exact .inr h
      · exact .inl (.inr h)
    · rintro ((h | h) | h)
      · exact .inl (.inl h)
      · exact .inr h
      · exact .inl (.inr h)
theorem putI_asc {l : List Int} (h : Asc l) (x : Int) : Asc (putI l x) := by
  have hl := ptN_le l x l.length
  have hg := ptN_gt l x l.length
  have ha := ptN_at l x l.length
  simp only [putI]
  generalize ptN l x l.length = a at *
  split
  · exact h
  · rename_i hn
    have h1 : ∀ y, y ∈ l.take a → y < x := fun y hy => by
      obtain ⟨i, hi, rfl⟩ := List.mem_iff_getElem.1 hy
      simp at hi
      have h3 := ha (by omega)
      have h4 : l.getD (a - 1) 0 ≠ x := fun e => hn ⟨by omega, e⟩
      have h5 : (l.take a)[i] ≤ l.getD (a - 1) 0 := by
        rcases Nat.lt_or_ge i (a - 1) with hlt | hge
        · have := List.pairwise_iff_getElem.1 h i (a - 1) (by omega) (by omega) hlt
          simp [show a - 1 < l.length by omega]; omega
        · have : i = a - 1 := by omega
          subst this; simp [show a - 1 < l.length by omega]
      omega
    have h2 : ∀ y, y ∈ l.drop a → x < y := fun y hy => by
      obtain ⟨i, hi, rfl⟩ := List.mem_iff_getElem.1 hy
      simp at hi
      have := hg (a + i) (by omega) (by omega)
      simpa [show a + i < l.length by omega] using this
    rw [List.append_assoc]
    have hh := List.pairwise_append.1 (show Asc (l.take a ++ l.drop a) by rw [List.take_append_drop]; exact h)
    refine List.pairwise_append.2 ⟨hh.1, List.pairwise_cons.2 ⟨fun y hy => h2 y hy, hh.2.1⟩, fun y hy z hz => ?_⟩
    simp only [List.singleton_append, List.mem_cons] at hz
    rcases hz with rfl | hz
    · exact h1 y hy
    · have := h1 y hy; have := h2 z hz; omega
/-- Numbers put in one after another. -/
def putsN (f : Nat → Int) : Nat → List Int
  | 0 => []
  | j + 1 => putI (putsN f j) (f j)
theorem putsN_asc (f : Nat → Int) : ∀ j, Asc (putsN f j)
  | 0 => by simp [putsN]
  | j + 1 => putI_asc (putsN_asc f j) _
theorem putsN_mem (f : Nat → Int) (x : Int) : ∀ j, x ∈ putsN f j ↔ ∃ i, i < j ∧ x = f i
  | 0 => by simp [putsN]
  | j + 1 => by
    rw [putsN, putI_mem, putsN_mem f x j]
    constructor
    · rintro (⟨i, h1, h2⟩ | h)
      · exact ⟨i, by omega, h2⟩
      · exact ⟨j, by omega, h⟩
    · rintro ⟨i, h1, h2⟩
      by_cases e : i = j
      · subst e; exact .inr h2
      · exact .inl ⟨i, by omega, h2⟩
theorem putsN_len (f : Nat → Int) : ∀ j, (putsN f j).length ≤ j
  | 0 => Nat.le_refl _
  | j + 1 => by
    have := putsN_len f j
    have := putI_len (putsN f j) (f j)
    rw [putsN]; omega
theorem putsN_map (l : List Int) (g : Int → Int) : putsN (fun i => g (l.getD i 0)) l.length = setI (l.map g) := by
  refine asc_ext (putsN_asc _ _) (setI_asc _) fun x => ?_
  rw [putsN_mem, setI_mem, List.mem_map]
  constructor
  · rintro ⟨i, h1, rfl⟩; exact ⟨_, mem_getD h1, rfl⟩
  · rintro ⟨y, hy, rfl⟩
    obtain ⟨i, hi, rfl⟩ := List.mem_iff_getElem.1 hy
    exact ⟨i, hi, by simp [hi]⟩
@[go_sem] theorem setI_len_le (l : List Int) : (sortI l).length = l.length := List.length_mergeSort l
theorem d_spec_l01Put (l : List Int) (x : Int) (hl : l.length < 1048576) : Den PA f_spec_l01Put [.own 1 (l.map di), .d (di x)] [.any, .any] (.own 1 ((putI l x).map di)) := by
  have hle := ptN_le l x l.length
  refine den_go [] l_spec_l01Put ?_
  repeat' (first | simp -implicitDefEqProofs (maxSteps := 1000000) (disch := (first | omega | (simp only [go_sem] <;> omega) | fail)) only [go_sem, ints, bools, mat, c_spec_l01Put] | ((first | refine goIf_b (fun h => ?_) (fun h => ?_) | refine goG_b (fun h => ?_) (fun h => ?_) | refine goTG_b (fun h => ?_) (fun h => ?_) | refine goOG_b (fun h => ?_) (fun h => ?_)) <;> ((try simp only [Bool.not_eq_true', Bool.not_eq_false'] at h); (try simp only [h]); (try simp only [decide_eq_true_eq, decide_eq_false_iff_not, bne_iff_ne, bne_eq_false_iff_eq, beq_iff_eq, beq_eq_false_iff_ne, ne_eq, Int.not_lt, Int.not_le, Bool.and_eq_true, Bool.and_eq_false_iff, Bool.or_eq_true, Bool.or_eq_false_iff] at h))))
  refine go_loop (fun (a : Nat) => ⟨[(0, .sl 0 0 l.length 1), (1, .d (di x)), (5, .d (di a))], [some (.dat 1 (l.map di))]⟩) (fun a => a ≤ l.length ∧ ptN l x l.length = ptN l x a) (fun a => a) l.length ?_ ?_ ?_
  · (simp -implicitDefEqProofs (maxSteps := 1000000) (disch := (first | omega | (simp only [go_sem] <;> omega) | fail)) only [go_sem, ints, bools, mat] <;> rfl)
  · exact ⟨Nat.le_refl _, rfl⟩
  · rintro a ⟨h1, h2⟩ J hJ
    cases a with
    | zero =>
      have e : putI l x = [x] ++ l := by simp [putI, h2, ptN]
      repeat' (first | simp -implicitDefEqProofs (maxSteps := 1000000) (disch := (first | omega | (simp only [go_sem] <;> omega) | fail)) only [go_sem, ints, bools, mat] | ((first | refine goIf_b (fun h => ?_) (fun h => ?_) | refine goG_b (fun h => ?_) (fun h => ?_) | refine goTG_b (fun h => ?_) (fun h => ?_) | refine goOG_b (fun h => ?_) (fun h => ?_)) <;> ((try simp only [Bool.not_eq_true', Bool.not_eq_false'] at h); (try simp only [h]); (try simp only [decide_eq_true_eq, decide_eq_false_iff_not, bne_iff_ne, bne_eq_false_iff_eq, beq_iff_eq, beq_eq_false_iff_ne, ne_eq, Int.not_lt, Int.not_le, Bool.and_eq_true, Bool.and_eq_false_iff, Bool.or_eq_true, Bool.or_eq_false_iff] at h)) <;> (try (exfalso; omega))))
      first | refine goC_call [.r] (d_spec_l01Own [] (by simp)) ?_ | refine goOC_call [.r] (d_spec_l01Own [] (by simp)) ?_
      repeat' (first | simp -implicitDefEqProofs (maxSteps := 1000000) (disch := (first | omega | (simp only [go_sem] <;> omega) | fail)) only [go_sem, ints, bools, mat] | ((first | refine goIf_b (fun h => ?_) (fun h => ?_) | refine goG_b (fun h => ?_) (fun h => ?_) | refine goTG_b (fun h => ?_) (fun h => ?_) | refine goOG_b (fun h => ?_) (fun h => ?_)) <;> ((try simp only [Bool.not_eq_true', Bool.not_eq_false'] at h); (try simp only [h]); (try simp only [decide_eq_true_eq, decide_eq_false_iff_not, bne_iff_ne, bne_eq_false_iff_eq, beq_iff_eq, beq_eq_false_iff_ne, ne_eq, Int.not_lt, Int.not_le, Bool.and_eq_true, Bool.and_eq_false_iff, Bool.or_eq_true, Bool.or_eq_false_iff] at h)) <;> (try (exfalso; omega))))
      rw [e]; rfl
    | succ a =>
      repeat' (first | simp -implicitDefEqProofs (maxSteps := 1000000) (disch := (first | omega | (simp only [go_sem] <;> omega) | fail)) only [go_sem, ints, bools, mat] | ((first | refine goIf_b (fun h => ?_) (fun h => ?_) | refine goG_b (fun h => ?_) (fun h => ?_) | refine goTG_b (fun h => ?_) (fun h => ?_) | refine goOG_b (fun h => ?_) (fun h => ?_)) <;> ((try simp only [Bool.not_eq_true', Bool.not_eq_false'] at h); (try simp only [h]); (try simp only [decide_eq_true_eq, decide_eq_false_iff_not, bne_iff_ne, bne_eq_false_iff_eq, beq_iff_eq, beq_eq_false_iff_ne, ne_eq, Int.not_lt, Int.not_le, Bool.and_eq_true, Bool.and_eq_false_iff, Bool.or_eq_true, Bool.or_eq_false_iff] at h)) <;> (try (exfalso; omega))))
      · refine hJ a ⟨by omega, ?_⟩ (by omega) _ ?_
        · rw [h2, ptN, if_pos (by simpa using h)]
        · (simp -implicitDefEqProofs (maxSteps := 1000000) (disch := (first | omega | (simp only [go_sem] <;> omega) | fail)) only [go_sem, ints, bools, mat] <;> rfl)
      · have hx : ptN l x (a + 1) = a + 1 := by rw [ptN, if_neg (by omega)]
        rw [putI, h2, hx, if_pos ⟨by omega, by simpa using h⟩]
      · have hx : ptN l x (a + 1) = a + 1 := by rw [ptN, if_neg (by omega)]
        first | refine goC_call [.r] (d_spec_l01Own (l.take (a + 1)) (by simp; omega)) ?_ | refine goOC_call [.r] (d_spec_l01Own (l.take (a + 1)) (by simp; omega)) ?_
        repeat' (first | simp -implicitDefEqProofs (maxSteps := 1000000) (disch := (first | omega | (simp only [go_sem] <;> omega) | fail)) only [go_sem, ints, bools, mat] | ((first | refine goIf_b (fun h => ?_) (fun h => ?_) | refine goG_b (fun h => ?_) (fun h => ?_) | refine goTG_b (fun h => ?_) (fun h => ?_) | refine goOG_b (fun h => ?_) (fun h => ?_)) <;> ((try simp only [Bool.not_eq_true', Bool.not_eq_false'] at h); (try simp only [h]); (try simp only [decide_eq_true_eq, decide_eq_false_iff_not, bne_iff_ne, bne_eq_false_iff_eq, beq_iff_eq, beq_eq_false_iff_ne, ne_eq, Int.not_lt, Int.not_le, Bool.and_eq_true, Bool.and_eq_false_iff, Bool.or_eq_true, Bool.or_eq_false_iff] at h)) <;> (try (exfalso; omega))))
        rw [putI, h2, hx, if_neg (fun hc => h (by simpa using hc.2))]
/-- All are words. -/
abbrev inC (l c : List Int) : Prop := ∀ u, u ∈ c → 0 ≤ u ∧ u < prodM l
theorem inC_get {l c : List Int} (h : inC l c) : ∀ j, j < c.length → 0 ≤ c.getD j 0 ∧ c.getD j 0 < prodM l := fun j hj => h _ (mem_getD hj)
theorem inC_big {l c : List Int} (hs : isSpaceM l = true) (h : inC l c) : ∀ j, j < c.length → 0 ≤ c.getD j 0 ∧ c.getD j 0 < 1000000000000 := fun j hj => by
  have := inC_get h j hj; have := isSpaceM_prod hs; omega
/-- A shifted code. -/
abbrev shM (l c : List Int) (w : Int) : List Int := setI (c.map fun u => sumW l u w)
theorem shM_in {l : List Int} (hs : isSpaceM l = true) (c : List Int) (w : Int) : inC l (shM l c w) := fun u hu => by
  rw [setI_mem, List.mem_map] at hu
  obtain ⟨v, _, rfl⟩ := hu
  exact sumW_bnd hs v w
theorem d_spec_l01Shifted (l c : List Int) (hs : isSpaceM l = true) (hc : c.length < 1048577) (hcw : inC l c) (w : Int) (hw : 0 ≤ w) (hw2 : w < 1000000000000) :
    Den PA f_spec_l01Shifted [.d (.agg [ints l]), .d (ints c), .d (di w)] [.any, .any, .any] (.own 1 ((shM l c w).map di)) := by
  have hb := inC_big hs hcw
  rw [show shM l c w = _ from (putsN_map c fun u => sumW l u w).symm]
  refine den_go [] l_spec_l01Shifted ?_
  repeat' (first | simp -implicitDefEqProofs (maxSteps := 1000000) (disch := (first | omega | (simp only [go_sem] <;> omega) | fail)) only [go_sem, ints, bools, mat, c_spec_l01Shifted] | ((first | refine goIf_b (fun h => ?_) (fun h => ?_) | refine goG_b (fun h => ?_) (fun h => ?_) | refine goTG_b (fun h => ?_) (fun h => ?_) | refine goOG_b (fun h => ?_) (fun h => ?_)) <;> ((try simp only [Bool.not_eq_true', Bool.not_eq_false'] at h); (try simp only [h]); (try simp only [decide_eq_true_eq, decide_eq_false_iff_not, bne_iff_ne, bne_eq_false_iff_eq, beq_iff_eq, beq_eq_false_iff_ne, ne_eq, Int.not_lt, Int.not_le, Bool.and_eq_true, Bool.and_eq_false_iff, Bool.or_eq_true, Bool.or_eq_false_iff] at h))))
  refine go_loop (fun (j : Nat) => ⟨[(1, .d (ints c)), (2, .d (di w)), (3, .ref 0 0), (7, .sl 1 0 (putsN (fun i => sumW l (c.getD i 0) w) j).length 1), (11, .d (di c.length)), (12, .d (di j))], [some (.var [ints l]), some (.dat 1 ((putsN (fun i => sumW l (c.getD i 0) w) j).map di))]⟩) (fun j => j ≤ c.length) (fun j => c.length - j) 0 ?_ ?_ ?_
  · (simp -implicitDefEqProofs (maxSteps := 1000000) (disch := (first | omega | (simp only [go_sem] <;> omega) | fail)) only [go_sem, ints, bools, mat] <;> rfl)
  · simp
  · rintro j hj J hJ
    have hpl := putsN_len (fun i => sumW l (c.getD i 0) w) j
    have hbj := hb j
    repeat' (first | simp -implicitDefEqProofs (maxSteps := 1000000) (disch := (first | omega | (simp only [go_sem] <;> omega) | fail)) only [go_sem, ints, bools, mat] | ((first | refine goIf_b (fun h => ?_) (fun h => ?_) | refine goG_b (fun h => ?_) (fun h => ?_) | refine goTG_b (fun h => ?_) (fun h => ?_) | refine goOG_b (fun h => ?_) (fun h => ?_)) <;> ((try simp only [Bool.not_eq_true', Bool.not_eq_false'] at h); (try simp only [h]); (try simp only [decide_eq_true_eq, decide_eq_false_iff_not, bne_iff_ne, bne_eq_false_iff_eq, beq_iff_eq, beq_eq_false_iff_ne, ne_eq, Int.not_lt, Int.not_le, Bool.and_eq_true, Bool.and_eq_false_iff, Bool.or_eq_true, Bool.or_eq_false_iff] at h))))
    · first | refine goC_call [.r, .r, .r] (d_spec_l01Sum l hs (c.getD j 0) w (by omega) (by omega) hw hw2) ?_ | refine goOC_call [.r, .r, .r] (d_spec_l01Sum l hs (c.getD j 0) w (by omega) (by omega) hw hw2) ?_
      repeat' (first | simp -implicitDefEqProofs (maxSteps := 1000000) (disch := (first | omega | (simp only [go_sem] <;> omega) | fail)) only [go_sem, ints, bools, mat] | ((first | refine goIf_b (fun h => ?_) (fun h => ?_) | refine goG_b (fun h => ?_) (fun h => ?_) | refine goTG_b (fun h => ?_) (fun h => ?_) | refine goOG_b (fun h => ?_) (fun h => ?_)) <;> ((try simp only [Bool.not_eq_true', Bool.not_eq_false'] at h); (try simp only [h]); (try simp only [decide_eq_true_eq, decide_eq_false_iff_not, bne_iff_ne, bne_eq_false_iff_eq, beq_iff_eq, beq_eq_false_iff_ne, ne_eq, Int.not_lt, Int.not_le, Bool.and_eq_true, Bool.and_eq_false_iff, Bool.or_eq_true, Bool.or_eq_false_iff] at h))))
      first | refine goC_call [.o, .r] (d_spec_l01Put (putsN (fun i => sumW l (c.getD i 0) w) j) (sumW l (c.getD j 0) w) (by omega)) ?_ | refine goOC_call [.o, .r] (d_spec_l01Put (putsN (fun i => sumW l (c.getD i 0) w) j) (sumW l (c.getD j 0) w) (by omega)) ?_
      repeat' (first | simp -implicitDefEqProofs (maxSteps := 1000000) (disch := (first | omega | (simp only [go_sem] <;> omega) | fail)) only [go_sem, ints, bools, mat] | ((first | refine goIf_b (fun h => ?_) (fun h => ?_) | refine goG_b (fun h => ?_) (fun h => ?_) | refine goTG_b (fun h => ?_) (fun h => ?_) | refine goOG_b (fun h => ?_) (fun h => ?_)) <;> ((try simp only [Bool.not_eq_true', Bool.not_eq_false'] at h); (try simp only [h]); (try simp only [decide_eq_true_eq, decide_eq_false_iff_not, bne_iff_ne, bne_eq_false_iff_eq, beq_iff_eq, beq_eq_false_iff_ne, ne_eq, Int.not_lt, Int.not_le, Bool.and_eq_true, Bool.and_eq_false_iff, Bool.or_eq_true, Bool.or_eq_false_iff] at h))))
      refine hJ (j + 1) (by omega) (by omega) _ ?_
      simp -implicitDefEqProofs (maxSteps := 1000000) (disch := (first | omega | (simp only [go_sem] <;> omega) | fail)) only [go_sem, ints, bools, mat]
      rfl
    · have : j = c.length := by omega
      subst this
      repeat' (first | simp -implicitDefEqProofs (maxSteps := 1000000) (disch := (first | omega | (simp only [go_sem] <;> omega) | fail)) only [go_sem, ints, bools, mat] | ((first | refine goIf_b (fun h => ?_) (fun h => ?_) | refine goG_b (fun h => ?_) (fun h => ?_) | refine goTG_b (fun h => ?_) (fun h => ?_) | refine goOG_b (fun h => ?_) (fun h => ?_)) <;> ((try simp only [Bool.not_eq_true', Bool.not_eq_false'] at h); (try simp only [h]); (try simp only [decide_eq_true_eq, decide_eq_false_iff_not, bne_iff_ne, bne_eq_false_iff_eq, beq_iff_eq, beq_eq_false_iff_ne, ne_eq, Int.not_lt, Int.not_le, Bool.and_eq_true, Bool.and_eq_false_iff, Bool.or_eq_true, Bool.or_eq_false_iff] at h))))
/-- The opposite of a word. -/
def oppD (l a : List Int) : List Int := (List.range l.length).map fun (i : Nat) => (l.getD i 0 - a.getD i 0) % l.getD i 0
@[go_sem] theorem oppD_len (l a : List Int) : (oppD l a).length = l.length := by simp [oppD]
theorem allW_mem' {l : List Int} (hs : isSpaceM l = true) (u : Int) : u ∈ allW l ↔ 0 ≤ u ∧ u < prodM l := by
  have := prodM_pos (isSpaceM_szs hs)
  rw [allW_mem]; omega
@[go_sem] theorem binA_shru1 {a : Int} (h : 0 ≤ a) (h' : a < 18446744073709551616) : binA .shr (.d (.v (.int .u64 a))) (.d (.v (.int .u64 1))) = some (.d (.v (.int .u64 (a / 2)))) := by
  have e : min (1 : Int).toNat 64 = 1 := rfl
  have h1 : (0 : Int) ≤ 2 ^ 1 := by decide
  simp only [binA, binI, BinOp.isShift, true_or, if_true, if_neg (show ¬ (1 : Int) < 0 by omega), IntKind.bits, e, Option.map_some, Int.fdiv_eq_ediv_of_nonneg _ h1]
  rfl
@[go_sem] theorem capA_nil : capA (.d nil) = some (.d (di 0)) := rfl
@[go_sem] theorem capA_nil' : capA (.d (.v (.slice none 0 0))) = some (.d (di 0)) := rfl
/-- The weight of a word. -/
abbrev wtM (l : List Int) (x : Int) : Int := distM l 0 x
/-- The best of the first words of a list. -/
def bstN (l L : List Int) : Nat → Int
  | 0 => L.getD 0 0
  | k + 1 => if wtM l (L.getD k 0) < wtM l (bstN l L k) then L.getD k 0 else bstN l L k
/-- The leader of the class of a word. -/
def ldW (l c : List Int) (w : Int) : Int := bstN l (shM l c w) (shM l c w).length
def kltB (l : List Int) (t w : Int) (x : Int) : Bool := decide (wtM l x < t ∨ (wtM l x = t ∧ x < w))
def ldL (l c : List Int) (t w : Int) : List Int := (allW l).map fun u => if kltB l t w (ldW l c u) then ldW l c u else -1
@[go_sem] theorem ldL_len (l c : List Int) (t w : Int) : (ldL l c t w).length = (prodM l).toNat := by simp [ldL, allW_len]
/-- Places of a list set to v. -/
def stN (X L : List Int) (v : Int) : Nat → List Int
  | 0 => X
  | k + 1 => (stN X L v k).set (L.getD k 0).toNat v
@[go_sem] theorem stN_len (X L : List Int) (v : Int) : ∀ k, (stN X L v k).length = X.length
  | 0 => rfl
  | k + 1 => by rw [stN, List.length_set, stN_len X L v k]
/-- Digits with the one at i turned. -/
def swD (d : List Int) (i : Nat) : List Int := d.set i (1 - d.getD i 0)
@[go_sem] theorem swD_len (d : List Int) (i : Nat) : (swD d i).length = d.length := by simp [swD]
theorem d_slices_IndexFunc_rows (ds : List (List Int)) (p : List Int → Bool) (g : List D → Value → Prop) (hg : ∀ i, i < ds.length → g [ints (ds.getD i [])] (.bool (p (ds.getD i [])))) (hl : ds.length < 1048577) :
    Den PA f_slices_IndexFunc_____int64___int64_ [.d (.lst 1 (ds.map ints)), .pfn g] [.any, .any] (.d (di (match ds.findIdx? p with | some j => j | none => -1))) := by
  refine den_go [] l_slices_IndexFunc_____int64___int64_ ?_
  repeat' (first | simp -implicitDefEqProofs (maxSteps := 1000000) (disch := (first | omega | (simp only [go_sem] <;> omega) | fail)) only [go_sem, ints, bools, mat, c_slices_IndexFunc_____int64___int64_] | ((first | refine goIf_b (fun h => ?_) (fun h => ?_) | refine goG_b (fun h => ?_) (fun h => ?_) | refine goTG_b (fun h => ?_) (fun h => ?_) | refine goOG_b (fun h => ?_) (fun h => ?_)) <;> ((try simp only [Bool.not_eq_true', Bool.not_eq_false'] at h); (try simp only [h]); (try simp only [decide_eq_true_eq, decide_eq_false_iff_not, bne_iff_ne, bne_eq_false_iff_eq, beq_iff_eq, beq_eq_false_iff_ne, ne_eq, Int.not_lt, Int.not_le, Bool.and_eq_true, Bool.and_eq_false_iff, Bool.or_eq_true, Bool.or_eq_false_iff] at h))))
  refine go_loop (fun (j : Nat) => ⟨[(0, .d (.lst 1 (ds.map ints))), (1, .pfn g), (7, .d (di ds.length)), (8, .d (di j))], []⟩) (fun j => j ≤ ds.length ∧ ∀ i, i < j → p (ds.getD i []) = false) (fun j => ds.length - j) 0 ?_ ?_ ?_
  · (simp -implicitDefEqProofs (maxSteps := 1000000) (disch := (first | omega | (simp only [go_sem] <;> omega) | fail)) only [go_sem, ints, bools, mat] <;> rfl)
  · simp
  · rintro j ⟨hj, hi⟩ J hJ
    repeat' (first | simp -implicitDefEqProofs (maxSteps := 1000000) (disch := (first | omega | (simp only [go_sem] <;> omega) | fail)) only [go_sem, ints, bools, mat] | ((first | refine goIf_b (fun h => ?_) (fun h => ?_) | refine goG_b (fun h => ?_) (fun h => ?_) | refine goTG_b (fun h => ?_) (fun h => ?_) | refine goOG_b (fun h => ?_) (fun h => ?_)) <;> ((try simp only [Bool.not_eq_true', Bool.not_eq_false'] at h); (try simp only [h]); (try simp only [decide_eq_true_eq, decide_eq_false_iff_not, bne_iff_ne, bne_eq_false_iff_eq, beq_iff_eq, beq_eq_false_iff_ne, ne_eq, Int.not_lt, Int.not_le, Bool.and_eq_true, Bool.and_eq_false_iff, Bool.or_eq_true, Bool.or_eq_false_iff] at h))))
    · refine goV_pfn [ints (ds.getD j [])] (.bool (p (ds.getD j []))) (by simp -implicitDefEqProofs (maxSteps := 1000000) (disch := (first | omega | (simp only [go_sem] <;> omega) | fail)) only [go_sem, ints, bools, mat]) rfl (hg j (by omega)) ?_
      repeat' (first | simp -implicitDefEqProofs (maxSteps := 1000000) (disch := (first | omega | (simp only [go_sem] <;> omega) | fail)) only [go_sem, ints, bools, mat] | ((first | refine goIf_b (fun h => ?_) (fun h => ?_) | refine goG_b (fun h => ?_) (fun h => ?_) | refine goTG_b (fun h => ?_) (fun h => ?_) | refine goOG_b (fun h => ?_) (fun h => ?_)) <;> ((try simp only [Bool.not_eq_true', Bool.not_eq_false'] at h); (try simp only [h]); (try simp only [decide_eq_true_eq, decide_eq_false_iff_not, bne_iff_ne, bne_eq_false_iff_eq, beq_iff_eq, beq_eq_false_iff_ne, ne_eq, Int.not_lt, Int.not_le, Bool.and_eq_true, Bool.and_eq_false_iff, Bool.or_eq_true, Bool.or_eq_false_iff] at h))))
      · have e : ds.findIdx? p = some j := by
          rw [List.findIdx?_eq_some_iff_getElem]
          refine ⟨by omega, by simpa [show j < ds.length by omega] using h, fun i hi' => ?_⟩
          have := hi i hi'
          simpa [show i < ds.length by omega] using this
        rw [e]
      · refine hJ (j + 1) ⟨by omega, all_ext hi h⟩ (by omega) _ (by (simp -implicitDefEqProofs (maxSteps := 1000000) (disch := (first | omega | (simp only [go_sem] <;> omega) | fail)) only [go_sem, ints, bools, mat] <;> rfl))
    · have e : ds.findIdx? p = none := by
        rw [List.findIdx?_eq_none_iff]
        intro x hx
        obtain ⟨i, hi', rfl⟩ := List.mem_iff_getElem.1 hx
        have := hi i (by omega)
        simpa [hi'] using this
      rw [e]
/-- The list while it is thinned: those of the first k that stay, then what lies there. -/
theorem thin_first (ds : List (List Int)) (p : List Int → Bool) {i : Nat} (hi : i < ds.length) (h : ∀ k, k < i → p (ds.getD k []) = false) : (ds.take i).filter (fun x => !p x) = ds.take i := by
  rw [List.filter_eq_self]
  intro x hx
  obtain ⟨k, hk, rfl⟩ := List.mem_iff_getElem.1 hx
  rw [List.length_take] at hk
  have := h k (by omega)
  simpa [show k < ds.length by omega] using this
theorem getD_setR (X : List (List Int)) (i j : Nat) (v : List Int) (h : i < X.length) : (X.set i v).getD j [] = if j = i then v else X.getD j [] := by
  simp only [List.getD_eq_getElem?_getD, List.getElem?_set]
  by_cases e : i = j
  · subst e; simp [h]
  · simp [e, show ¬ j = i from fun h => e h.symm]
theorem map_setR (X : List (List Int)) (i : Nat) (v : List Int) : (X.map ints).set i (ints v) = (X.set i v).map ints := by simp
theorem filter_take_succ (ds : List (List Int)) (p : List Int → Bool) {j : Nat} (h : j < ds.length) : (ds.take (j + 1)).filter p = (ds.take j).filter p ++ (if p (ds.getD j []) then [ds.getD j []] else []) := by
  rw [List.take_add_one, List.filter_append]
  simp only [h, List.getElem?_eq_getElem, Option.toList_some, List.getD_eq_getElem?_getD, Option.getD_some, List.filter_cons, List.filter_nil]
theorem take_setR (X : List (List Int)) {i : Nat} (v : List Int) (h : i < X.length) : (X.set i v).take (i + 1) = X.take i ++ [v] := by
  rw [List.take_add_one, List.take_set_of_le (Nat.le_refl _)]
  simp [h]
end Go.Proofs.Ytfgjfjgkoabfjaa.Va
