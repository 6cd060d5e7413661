/- Contracts of the functions that FnExactDualCounts reaches (part 1). Condition: none. -/
import Derived.Test.YtkhkcekfcjgjlaaDDualCounts0
set_option linter.all false
set_option linter.unusedSimpArgs false
set_option linter.unusedVariables false
namespace Go.Proofs.Ytkhkcekfcjgjlaa.Va
open Go
set_option maxHeartbeats 4000000
set_option maxRecDepth 100000
theorem d_spec_l05Linear (l c : List Int) (hs : isSpaceM l = true) (hcc : isCodeM l c = true) (hc : c.length < 1048577) :
    Den PA f_spec_l05Linear [.d (.agg [ints l]), .d (ints c)] [.any, .any] (.d (db (linB l c))) := by
  have hn := isSpaceM_n hs
  have hz := isSpaceM_szs hs
  have hp := isSpaceM_prod hs
  have hp1 := prodM_pos hz
  have hsl := setN_len (prodM l).toNat c c.length
  have h00 := zero_in hs hcc
  refine den_go [] l_spec_l05Linear ?_
  repeat' (first | simp -implicitDefEqProofs (maxSteps := 1000000) (disch := (first | omega | (simp only [go_sem] <;> omega) | fail)) only [go_sem, ints, bools, mat, reduceIte, Nat.reduceEqDiff, Nat.reduceAdd, Nat.reduceBEq, Nat.reduceMul, Nat.reduceLeDiff, Nat.reduceLT, Nat.reduceMod, Nat.reduceDiv, Nat.reduceSub, reduceCtorEq, c_spec_l05Linear] | ((first | refine goIf_b (fun h => ?_) (fun h => ?_) | refine goG_b (fun h => ?_) (fun h => ?_) | refine goTG_b (fun h => ?_) (fun h => ?_) | refine goOG_b (fun h => ?_) (fun h => ?_)) <;> ((try simp only [Bool.not_eq_true', Bool.not_eq_false'] at h); (try simp only [h]); (try simp only [decide_eq_true_eq, decide_eq_false_iff_not, bne_iff_ne, bne_eq_false_iff_eq, beq_iff_eq, beq_eq_false_iff_ne, ne_eq, Int.not_lt, Int.not_le, Bool.and_eq_true, Bool.and_eq_false_iff, Bool.or_eq_true, Bool.or_eq_false_iff] at h))))
  first | refine goC_call [.r] (d_spec_l05Plain l (by omega)) ?_ | refine goOC_call [.r] (d_spec_l05Plain l (by omega)) ?_
  cases hpl : plainM l with
  | false =>
    repeat' (first | simp -implicitDefEqProofs (maxSteps := 1000000) (disch := (first | omega | (simp only [go_sem] <;> omega) | fail)) only [go_sem, ints, bools, mat, reduceIte, Nat.reduceEqDiff, Nat.reduceAdd, Nat.reduceBEq, Nat.reduceMul, Nat.reduceLeDiff, Nat.reduceLT, Nat.reduceMod, Nat.reduceDiv, Nat.reduceSub, reduceCtorEq] | ((first | refine goIf_b (fun h => ?_) (fun h => ?_) | refine goG_b (fun h => ?_) (fun h => ?_) | refine goTG_b (fun h => ?_) (fun h => ?_) | refine goOG_b (fun h => ?_) (fun h => ?_)) <;> ((try simp only [Bool.not_eq_true', Bool.not_eq_false'] at h); (try simp only [h]); (try simp only [decide_eq_true_eq, decide_eq_false_iff_not, bne_iff_ne, bne_eq_false_iff_eq, beq_iff_eq, beq_eq_false_iff_ne, ne_eq, Int.not_lt, Int.not_le, Bool.and_eq_true, Bool.and_eq_false_iff, Bool.or_eq_true, Bool.or_eq_false_iff] at h)) <;> (try (exfalso; omega))))
    exact dbF fun h' => by rw [linB, hpl] at h'; cases h'
  | true =>
    by_cases hc0 : c.length = 0
    · repeat' (first | simp -implicitDefEqProofs (maxSteps := 1000000) (disch := (first | omega | (simp only [go_sem] <;> omega) | fail)) only [go_sem, ints, bools, mat, reduceIte, Nat.reduceEqDiff, Nat.reduceAdd, Nat.reduceBEq, Nat.reduceMul, Nat.reduceLeDiff, Nat.reduceLT, Nat.reduceMod, Nat.reduceDiv, Nat.reduceSub, reduceCtorEq] | ((first | refine goIf_b (fun h => ?_) (fun h => ?_) | refine goG_b (fun h => ?_) (fun h => ?_) | refine goTG_b (fun h => ?_) (fun h => ?_) | refine goOG_b (fun h => ?_) (fun h => ?_)) <;> ((try simp only [Bool.not_eq_true', Bool.not_eq_false'] at h); (try simp only [h]); (try simp only [decide_eq_true_eq, decide_eq_false_iff_not, bne_iff_ne, bne_eq_false_iff_eq, beq_iff_eq, beq_eq_false_iff_ne, ne_eq, Int.not_lt, Int.not_le, Bool.and_eq_true, Bool.and_eq_false_iff, Bool.or_eq_true, Bool.or_eq_false_iff] at h)) <;> (try (exfalso; omega))))
      exact dbF fun h' => by
        simp only [linB, Bool.and_eq_true] at h'
        exact (h00.1 h'.1.2).1 hc0
    · by_cases hz0 : c.getD 0 0 = 0
      · have h0 : (setM l c).getD 0 false = true := h00.2 ⟨hc0, hz0⟩
        have el : linB l c = closB l c := by rw [linB, hpl, h0]; rfl
        rw [el]
        have e := closB_ok l c
        repeat' (first | simp -implicitDefEqProofs (maxSteps := 1000000) (disch := (first | omega | (simp only [go_sem] <;> omega) | fail)) only [go_sem, ints, bools, mat, reduceIte, Nat.reduceEqDiff, Nat.reduceAdd, Nat.reduceBEq, Nat.reduceMul, Nat.reduceLeDiff, Nat.reduceLT, Nat.reduceMod, Nat.reduceDiv, Nat.reduceSub, reduceCtorEq] | ((first | refine goIf_b (fun h => ?_) (fun h => ?_) | refine goG_b (fun h => ?_) (fun h => ?_) | refine goTG_b (fun h => ?_) (fun h => ?_) | refine goOG_b (fun h => ?_) (fun h => ?_)) <;> ((try simp only [Bool.not_eq_true', Bool.not_eq_false'] at h); (try simp only [h]); (try simp only [decide_eq_true_eq, decide_eq_false_iff_not, bne_iff_ne, bne_eq_false_iff_eq, beq_iff_eq, beq_eq_false_iff_ne, ne_eq, Int.not_lt, Int.not_le, Bool.and_eq_true, Bool.and_eq_false_iff, Bool.or_eq_true, Bool.or_eq_false_iff] at h)) <;> (try (exfalso; omega))))
        first | refine goC_call [.r, .r] (d_spec_l05Set l c hs hc (fun j hj => isCodeM_get hcc hj)) ?_ | refine goOC_call [.r, .r] (d_spec_l05Set l c hs hc (fun j hj => isCodeM_get hcc hj)) ?_
        repeat' (first | simp -implicitDefEqProofs (maxSteps := 1000000) (disch := (first | omega | (simp only [go_sem] <;> omega) | fail)) only [go_sem, ints, bools, mat, reduceIte, Nat.reduceEqDiff, Nat.reduceAdd, Nat.reduceBEq, Nat.reduceMul, Nat.reduceLeDiff, Nat.reduceLT, Nat.reduceMod, Nat.reduceDiv, Nat.reduceSub, reduceCtorEq] | ((first | refine goIf_b (fun h => ?_) (fun h => ?_) | refine goG_b (fun h => ?_) (fun h => ?_) | refine goTG_b (fun h => ?_) (fun h => ?_) | refine goOG_b (fun h => ?_) (fun h => ?_)) <;> ((try simp only [Bool.not_eq_true', Bool.not_eq_false'] at h); (try simp only [h]); (try simp only [decide_eq_true_eq, decide_eq_false_iff_not, bne_iff_ne, bne_eq_false_iff_eq, beq_iff_eq, beq_eq_false_iff_ne, ne_eq, Int.not_lt, Int.not_le, Bool.and_eq_true, Bool.and_eq_false_iff, Bool.or_eq_true, Bool.or_eq_false_iff] at h)) <;> (try (exfalso; omega))))
        refine go_loop (fun (j : Nat) => ⟨[(1, .d (ints c)), (2, .ref 0 0), (5, .sl 1 0 (prodM l).toNat 1), (26, .d (di c.length)), (27, .d (di j))], [some (.var [ints l]), some (.dat 1 ((setM l c).map db))]⟩) (fun j => j ≤ c.length ∧ ∀ i, i < j → ∀ k, k < i + 1 → (setM l c).getD (sumW l (c.getD i 0) (c.getD k 0)).toNat false = true) (fun j => c.length - j) 0 ?_ ?_ ?_
        · (simp -implicitDefEqProofs (maxSteps := 1000000) (disch := (first | omega | (simp only [go_sem] <;> omega) | fail)) only [go_sem, ints, bools, mat, reduceIte, Nat.reduceEqDiff, Nat.reduceAdd, Nat.reduceBEq, Nat.reduceMul, Nat.reduceLeDiff, Nat.reduceLT, Nat.reduceMod, Nat.reduceDiv, Nat.reduceSub, reduceCtorEq] <;> rfl)
        · simp
        · rintro j ⟨hj, hi⟩ J hJ
          repeat' (first | simp -implicitDefEqProofs (maxSteps := 1000000) (disch := (first | omega | (simp only [go_sem] <;> omega) | fail)) only [go_sem, ints, bools, mat, reduceIte, Nat.reduceEqDiff, Nat.reduceAdd, Nat.reduceBEq, Nat.reduceMul, Nat.reduceLeDiff, Nat.reduceLT, Nat.reduceMod, Nat.reduceDiv, Nat.reduceSub, reduceCtorEq] | ((first | refine goIf_b (fun h => ?_) (fun h => ?_) | refine goG_b (fun h => ?_) (fun h => ?_) | refine goTG_b (fun h => ?_) (fun h => ?_) | refine goOG_b (fun h => ?_) (fun h => ?_)) <;> ((try simp only [Bool.not_eq_true', Bool.not_eq_false'] at h); (try simp only [h]); (try simp only [decide_eq_true_eq, decide_eq_false_iff_not, bne_iff_ne, bne_eq_false_iff_eq, beq_iff_eq, beq_eq_false_iff_ne, ne_eq, Int.not_lt, Int.not_le, Bool.and_eq_true, Bool.and_eq_false_iff, Bool.or_eq_true, Bool.or_eq_false_iff] at h)) <;> (try (exfalso; omega))))
          · refine go_loop (fun (k : Nat) => ⟨[(1, .d (ints c)), (2, .ref 0 0), (5, .sl 1 0 (prodM l).toNat 1), (6, .d (di j)), (7, .d (di k)), (26, .d (di c.length)), (27, .d (di j))], [some (.var [ints l]), some (.dat 1 ((setM l c).map db))]⟩) (fun k => k ≤ j + 1 ∧ ∀ m, m < k → (setM l c).getD (sumW l (c.getD j 0) (c.getD m 0)).toNat false = true) (fun k => j + 1 - k) 0 ?_ ?_ ?_
            · (simp -implicitDefEqProofs (maxSteps := 1000000) (disch := (first | omega | (simp only [go_sem] <;> omega) | fail)) only [go_sem, ints, bools, mat, reduceIte, Nat.reduceEqDiff, Nat.reduceAdd, Nat.reduceBEq, Nat.reduceMul, Nat.reduceLeDiff, Nat.reduceLT, Nat.reduceMod, Nat.reduceDiv, Nat.reduceSub, reduceCtorEq] <;> rfl)
            · simp
            · rintro k ⟨hk, hm⟩ K hK
              have hcj := code_small hs hcc j
              have hck := code_small hs hcc k
              repeat' (first | simp -implicitDefEqProofs (maxSteps := 1000000) (disch := (first | omega | (simp only [go_sem] <;> omega) | fail)) only [go_sem, ints, bools, mat, reduceIte, Nat.reduceEqDiff, Nat.reduceAdd, Nat.reduceBEq, Nat.reduceMul, Nat.reduceLeDiff, Nat.reduceLT, Nat.reduceMod, Nat.reduceDiv, Nat.reduceSub, reduceCtorEq] | ((first | refine goIf_b (fun h => ?_) (fun h => ?_) | refine goG_b (fun h => ?_) (fun h => ?_) | refine goTG_b (fun h => ?_) (fun h => ?_) | refine goOG_b (fun h => ?_) (fun h => ?_)) <;> ((try simp only [Bool.not_eq_true', Bool.not_eq_false'] at h); (try simp only [h]); (try simp only [decide_eq_true_eq, decide_eq_false_iff_not, bne_iff_ne, bne_eq_false_iff_eq, beq_iff_eq, beq_eq_false_iff_ne, ne_eq, Int.not_lt, Int.not_le, Bool.and_eq_true, Bool.and_eq_false_iff, Bool.or_eq_true, Bool.or_eq_false_iff] at h)) <;> (try (exfalso; omega))))
              · have hb := sumW_bnd hs (c.getD j 0) (c.getD k 0)
                first | refine goC_call [.r, .r, .r] (d_spec_l01Sum l hs (c.getD j 0) (c.getD k 0) (by omega) (by omega) (by omega) (by omega)) ?_ | refine goOC_call [.r, .r, .r] (d_spec_l01Sum l hs (c.getD j 0) (c.getD k 0) (by omega) (by omega) (by omega) (by omega)) ?_
                cases hv : (setM l c).getD (sumW l (c.getD j 0) (c.getD k 0)).toNat false with
                | false =>
                  repeat' (first | simp -implicitDefEqProofs (maxSteps := 1000000) (disch := (first | omega | (simp only [go_sem] <;> omega) | fail)) only [go_sem, ints, bools, mat, reduceIte, Nat.reduceEqDiff, Nat.reduceAdd, Nat.reduceBEq, Nat.reduceMul, Nat.reduceLeDiff, Nat.reduceLT, Nat.reduceMod, Nat.reduceDiv, Nat.reduceSub, reduceCtorEq, hv] | ((first | refine goIf_b (fun h => ?_) (fun h => ?_) | refine goG_b (fun h => ?_) (fun h => ?_) | refine goTG_b (fun h => ?_) (fun h => ?_) | refine goOG_b (fun h => ?_) (fun h => ?_)) <;> ((try simp only [Bool.not_eq_true', Bool.not_eq_false'] at h); (try simp only [h]); (try simp only [decide_eq_true_eq, decide_eq_false_iff_not, bne_iff_ne, bne_eq_false_iff_eq, beq_iff_eq, beq_eq_false_iff_ne, ne_eq, Int.not_lt, Int.not_le, Bool.and_eq_true, Bool.and_eq_false_iff, Bool.or_eq_true, Bool.or_eq_false_iff] at h)) <;> (try (exfalso; omega))))
                  exact dbF fun h' => by have := e.1 h' j (by omega) k (by omega); rw [hv] at this; cases this
                | true =>
                  repeat' (first | simp -implicitDefEqProofs (maxSteps := 1000000) (disch := (first | omega | (simp only [go_sem] <;> omega) | fail)) only [go_sem, ints, bools, mat, reduceIte, Nat.reduceEqDiff, Nat.reduceAdd, Nat.reduceBEq, Nat.reduceMul, Nat.reduceLeDiff, Nat.reduceLT, Nat.reduceMod, Nat.reduceDiv, Nat.reduceSub, reduceCtorEq, hv] | ((first | refine goIf_b (fun h => ?_) (fun h => ?_) | refine goG_b (fun h => ?_) (fun h => ?_) | refine goTG_b (fun h => ?_) (fun h => ?_) | refine goOG_b (fun h => ?_) (fun h => ?_)) <;> ((try simp only [Bool.not_eq_true', Bool.not_eq_false'] at h); (try simp only [h]); (try simp only [decide_eq_true_eq, decide_eq_false_iff_not, bne_iff_ne, bne_eq_false_iff_eq, beq_iff_eq, beq_eq_false_iff_ne, ne_eq, Int.not_lt, Int.not_le, Bool.and_eq_true, Bool.and_eq_false_iff, Bool.or_eq_true, Bool.or_eq_false_iff] at h)) <;> (try (exfalso; omega))))
                  refine hK (k + 1) ⟨by omega, all_ext hm hv⟩ (by omega) _ (by (simp -implicitDefEqProofs (maxSteps := 1000000) (disch := (first | omega | (simp only [go_sem] <;> omega) | fail)) only [go_sem, ints, bools, mat, reduceIte, Nat.reduceEqDiff, Nat.reduceAdd, Nat.reduceBEq, Nat.reduceMul, Nat.reduceLeDiff, Nat.reduceLT, Nat.reduceMod, Nat.reduceDiv, Nat.reduceSub, reduceCtorEq] <;> rfl))
              · refine hJ (j + 1) ⟨by omega, all_ext hi fun m hm' => hm m (by omega)⟩ (by omega) _ (by (simp -implicitDefEqProofs (maxSteps := 1000000) (disch := (first | omega | (simp only [go_sem] <;> omega) | fail)) only [go_sem, ints, bools, mat, reduceIte, Nat.reduceEqDiff, Nat.reduceAdd, Nat.reduceBEq, Nat.reduceMul, Nat.reduceLeDiff, Nat.reduceLT, Nat.reduceMod, Nat.reduceDiv, Nat.reduceSub, reduceCtorEq] <;> rfl))
          · exact dbT (e.2 fun i hi' => hi i (by omega))
      · repeat' (first | simp -implicitDefEqProofs (maxSteps := 1000000) (disch := (first | omega | (simp only [go_sem] <;> omega) | fail)) only [go_sem, ints, bools, mat, reduceIte, Nat.reduceEqDiff, Nat.reduceAdd, Nat.reduceBEq, Nat.reduceMul, Nat.reduceLeDiff, Nat.reduceLT, Nat.reduceMod, Nat.reduceDiv, Nat.reduceSub, reduceCtorEq] | ((first | refine goIf_b (fun h => ?_) (fun h => ?_) | refine goG_b (fun h => ?_) (fun h => ?_) | refine goTG_b (fun h => ?_) (fun h => ?_) | refine goOG_b (fun h => ?_) (fun h => ?_)) <;> ((try simp only [Bool.not_eq_true', Bool.not_eq_false'] at h); (try simp only [h]); (try simp only [decide_eq_true_eq, decide_eq_false_iff_not, bne_iff_ne, bne_eq_false_iff_eq, beq_iff_eq, beq_eq_false_iff_ne, ne_eq, Int.not_lt, Int.not_le, Bool.and_eq_true, Bool.and_eq_false_iff, Bool.or_eq_true, Bool.or_eq_false_iff] at h)) <;> (try (exfalso; omega))))
        exact dbF fun h' => by
          simp only [linB, Bool.and_eq_true] at h'
          exact hz0 (h00.1 h'.1.2).2
/-- How many of the first words of a code are within M of b, and the last of these. -/
def cntB (l c : List Int) (M b : Int) : Nat → Nat
  | 0 => 0
  | j + 1 => if distM l b (c.getD j 0) ≤ M then cntB l c M b j + 1 else cntB l c M b j
def lastB (l c : List Int) (M b : Int) : Nat → Nat
  | 0 => 0
  | j + 1 => if distM l b (c.getD j 0) ≤ M then j else lastB l c M b j
def needN (l c : List Int) (M : Int) (B : List Int) : Nat → List Bool
  | 0 => List.replicate c.length false
  | j + 1 => if cntB l c M (B.getD j 0) c.length = 1 then (needN l c M B j).set (lastB l c M (B.getD j 0) c.length) true else needN l c M B j
@[go_sem] theorem needN_len (l c : List Int) (M : Int) (B : List Int) : ∀ j, (needN l c M B j).length = c.length
  | 0 => by simp [needN]
  | j + 1 => by rw [needN]; split <;> simp [needN_len l c M B j]
@[go_sem] theorem toNat_succ (j : Nat) : ((j : Int) + 1).toNat = j + 1 := by omega
@[go_sem] theorem all_lf_digs (ds : List (List Int)) : (digs ds).all lfD = true := by
  rw [List.all_eq_true]; intro x hx
  obtain ⟨d, _, rfl⟩ := List.mem_map.1 hx
  rw [lfD, lfDs_all, List.all_eq_true]; intro y hy
  obtain ⟨i, _, rfl⟩ := List.mem_map.1 hy
  rfl
@[go_sem] theorem toNat_pred {j : Nat} : ((j : Int) - 1).toNat = j - 1 := by omega
abbrev sortI (l : List Int) : List Int := l.mergeSort (fun x y => decide (x ≤ y))
@[go_sem] theorem sortI_len (l : List Int) : (sortI l).length = l.length := List.length_mergeSort l
theorem digM_get : ∀ (l : List Int) (w : Int) (i : Nat), i < l.length → (digM l w).getD i 0 = (w / prodM (l.drop (i + 1))) % l.getD i 0
  | q :: r, w, 0, _ => by simp [digM]
  | q :: r, w, i + 1, h => by
    have := digM_get r w i (by simpa using h)
    simpa [digM] using this
theorem wordN_div {l d : List Int} (hz : szs l) (hd : ∀ i, i < l.length → 0 ≤ d.getD i 0 ∧ d.getD i 0 < l.getD i 0) : ∀ (k i : Nat), i + k = l.length → wordN l d l.length / prodM (l.drop i) = wordN l d i
  | 0, i, h => by
    have : i = l.length := by omega
    subst this; rw [List.drop_length, prodM_nil, Int.ediv_one]
  | k + 1, i, h => by
    rw [← div_step hz (show i < l.length by omega), wordN_div hz hd k (i + 1) (by omega), wordN]
    have h1 := hd i (by omega)
    rw [Int.add_comm, Int.add_mul_ediv_right _ _ (by omega), Int.ediv_eq_zero_of_lt h1.1 h1.2, Int.zero_add]
theorem digM_word {l d : List Int} (hz : szs l) (hl : d.length = l.length) (hd : ∀ i, i < l.length → 0 ≤ d.getD i 0 ∧ d.getD i 0 < l.getD i 0) : digM l (wordN l d l.length) = d := by
  apply eq_getD
  · rw [digM_len, hl]
  · intro i hi
    rw [digM_len] at hi
    rw [digM_get l _ i hi, wordN_div hz hd (l.length - (i + 1)) (i + 1) (by omega), wordN]
    have h1 := hd i hi
    rw [Int.add_comm, Int.add_mul_emod_self_right, Int.emod_eq_of_lt h1.1 h1.2]
theorem word_digM {l : List Int} {w : Int} (hz : szs l) (h0 : 0 ≤ w) (h1 : w < prodM l) : ∀ j, j ≤ l.length → wordN l (digM l w) j = w / prodM (l.drop j)
  | 0, _ => by rw [wordN, List.drop_zero, Int.ediv_eq_zero_of_lt h0 h1]
  | j + 1, h => by
    rw [wordN, word_digM hz h0 h1 j (by omega), digM_get l w j (by omega), ← div_step hz (show j < l.length by omega)]
    exact Int.ediv_mul_add_emod _ _
theorem word_eq {l : List Int} {u v : Int} (hz : szs l) (hu : 0 ≤ u ∧ u < prodM l) (hv : 0 ≤ v ∧ v < prodM l) (h : ∀ i, i < l.length → (digM l u).getD i 0 = (digM l v).getD i 0) : u = v := by
  have e : digM l u = digM l v := eq_getD (by rw [digM_len, digM_len]) (fun i hi => h i (by rw [digM_len] at hi; exact hi))
  have a := word_digM hz hu.1 hu.2 l.length (Nat.le_refl _)
  have b := word_digM hz hv.1 hv.2 l.length (Nat.le_refl _)
  rw [List.drop_length, prodM_nil, Int.ediv_one] at a b
  rw [← a, ← b, e]
theorem sumW_dig {l : List Int} (hz : szs l) (u v : Int) {i : Nat} (h : i < l.length) : (digM l (sumW l u v)).getD i 0 = ((digM l u).getD i 0 + (digM l v).getD i 0) % l.getD i 0 := by
  rw [sumW, digM_word hz (sumM_len _ _ _) (sumM_lt hz _ _), sumM_get _ _ h]
theorem sumW_comm (l : List Int) (u v : Int) : sumW l u v = sumW l v u := by
  have e : sumM l (digM l u) (digM l v) = sumM l (digM l v) (digM l u) := by
    unfold sumM; congr 1; funext i; rw [Int.add_comm]
  rw [sumW, sumW, e]
theorem lin_clo {l c : List Int} (hs : isSpaceM l = true) (hcc : isCodeM l c = true) (hl : linB l c = true) {u v : Int} (hu : u ∈ c) (hv : v ∈ c) : sumW l u v ∈ c := by
  have hcl : closB l c = true := by rw [linB, Bool.and_eq_true] at hl; exact hl.2
  have key : ∀ i, i < c.length → ∀ k, k < i + 1 → sumW l (c.getD i 0) (c.getD k 0) ∈ c := fun i hi k hk => by
    have h := (closB_ok l c).1 hcl i hi k hk
    have hb := sumW_bnd hs (c.getD i 0) (c.getD k 0)
    rw [setN_get (prodM l).toNat c (fun j hj => (isCodeM_get hcc hj).1) (by omega) c.length (Nat.le_refl _)] at h
    obtain ⟨m, hm, e⟩ := h
    rw [Int.toNat_of_nonneg hb.1] at e
    rw [← e]; exact mem_getD hm
  obtain ⟨i, hi, rfl⟩ := List.mem_iff_getElem.1 hu
  obtain ⟨k, hk, rfl⟩ := List.mem_iff_getElem.1 hv
  have e1 : c[i] = c.getD i 0 := by simp [hi]
  have e2 : c[k] = c.getD k 0 := by simp [hk]
  rw [e1, e2]
  rcases Nat.lt_or_ge k (i + 1) with h | h
  · exact key i hi k h
  · rw [sumW_comm]; exact key k hk i (by omega)
theorem code_mem {l c : List Int} (hcc : isCodeM l c = true) {u : Int} (hu : u ∈ c) : 0 ≤ u ∧ u < prodM l := by
  obtain ⟨i, hi, rfl⟩ := List.mem_iff_getElem.1 hu
  have := isCodeM_get hcc hi
  simpa [hi] using this
/-- The difference of two words of a plain space. -/
def subW (l : List Int) (u v : Int) : Int := if l.getD 0 0 = 2 then sumW l u v else sumW l (sumW l u v) v
theorem lin_plain {l c : List Int} (hl : linB l c = true) : plainM l = true := by
  rw [linB, Bool.and_eq_true, Bool.and_eq_true] at hl; exact hl.1.1
theorem dig_lt {l : List Int} (hz : szs l) (w : Int) {i : Nat} (h : i < l.length) : 0 ≤ (digM l w).getD i 0 ∧ (digM l w).getD i 0 < l.getD i 0 := by
  rw [digM_get l w i h]
  have := mod_bnd (x := w / prodM (l.drop (i + 1))) (hz i h)
  omega
theorem subW_dig {l : List Int} (hz : szs l) (hp : plainM l = true) (u v : Int) {i : Nat} (h : i < l.length) : (digM l (subW l u v)).getD i 0 = 0 ↔ (digM l u).getD i 0 = (digM l v).getD i 0 := by
  have hq := (plainM_ok l).1 hp i h
  have hz0 := hz i h
  have hu := dig_lt hz u h
  have hv := dig_lt hz v h
  unfold subW
  split
  · rename_i h2
    rw [sumW_dig hz u v h, hq.1, h2]
    rw [hq.1, h2] at hu hv
    omega
  · have h3 : l.getD i 0 = 3 := by omega
    rw [sumW_dig hz _ v h, sumW_dig hz u v h, h3]
    rw [h3] at hu hv
    omega
theorem subW_in {l c : List Int} (hs : isSpaceM l = true) (hcc : isCodeM l c = true) (hl : linB l c = true) {u v : Int} (hu : u ∈ c) (hv : v ∈ c) : subW l u v ∈ c := by
  unfold subW
  split
  · exact lin_clo hs hcc hl hu hv
  · exact lin_clo hs hcc hl (lin_clo hs hcc hl hu hv) hv
/-- i is the place of the first digit other than 0. -/
def fdB (d : List Int) (i : Nat) : Bool := (d.getD i 0 != 0) && (List.range i).all fun j => d.getD j 0 == 0
theorem fdB_ok {d : List Int} {i : Nat} : fdB d i = true ↔ d.getD i 0 ≠ 0 ∧ ∀ j, j < i → d.getD j 0 = 0 := by
  simp only [fdB, Bool.and_eq_true, bne_iff_ne, List.all_eq_true, List.mem_range, beq_iff_eq]
/-- i is the first place of one of the first j words. -/
def pvB (l c : List Int) (j i : Nat) : Bool := (List.range j).any fun k => fdB (digM l (c.getD k 0)) i
theorem pvB_step (l c : List Int) (j i : Nat) : pvB l c (j + 1) i = (pvB l c j i || fdB (digM l (c.getD j 0)) i) := by
  rw [pvB, List.range_succ, List.any_append]; simp [pvB]
theorem pvB_in {l c : List Int} {u : Int} {i : Nat} (hu : u ∈ c) (h : fdB (digM l u) i = true) : pvB l c c.length i = true := by
  obtain ⟨k, hk, rfl⟩ := List.mem_iff_getElem.1 hu
  rw [pvB, List.any_eq_true]
  refine ⟨k, List.mem_range.2 hk, ?_⟩
  rw [show c.getD k 0 = c[k] by simp [hk]]; exact h
theorem pvB_lt {l c : List Int} {j i : Nat} (h : pvB l c j i = true) : i < l.length := by
  rw [pvB, List.any_eq_true] at h
  obtain ⟨k, _, h⟩ := h
  have := (fdB_ok.1 h).1
  by_cases hi : i < l.length
  · exact hi
  · exfalso; apply this
    rw [List.getD_eq_getElem?_getD, List.getElem?_eq_none (by rw [digM_len]; omega)]; rfl
/-- A word of the code that has only zeros at the first places is 0. -/
theorem lin_zero {l c : List Int} {w : Int} (hw : w ∈ c) (h : ∀ i, pvB l c c.length i = true → (digM l w).getD i 0 = 0) : ∀ i, (digM l w).getD i 0 = 0 := by
  intro i
  induction i using Nat.strongRecOn with
  | ind i ih =>
    by_cases e : (digM l w).getD i 0 = 0
    · exact e
    · exact h i (pvB_in hw (fdB_ok.2 ⟨e, ih⟩))
/-- Of the first k places: 1 at i, 0 before it, 0 at the other first places. -/
def finB (l c : List Int) (i k : Nat) (w : Int) : Bool := ((digM l w).getD i 0 == 1) && (List.range k).all fun j => !((decide (j < i) || (pvB l c c.length j && decide (j ≠ i))) && (digM l w).getD j 0 != 0)
theorem finB_ok {l c : List Int} {i k : Nat} {w : Int} : finB l c i k w = true ↔ (digM l w).getD i 0 = 1 ∧ ∀ j, j < k → (j < i ∨ (pvB l c c.length j = true ∧ j ≠ i)) → (digM l w).getD j 0 = 0 := by
  simp only [finB, Bool.and_eq_true, beq_iff_eq, List.all_eq_true, List.mem_range, Bool.not_eq_true', Bool.and_eq_false_iff, Bool.or_eq_false_iff, decide_eq_false_iff_not, bne_eq_false_iff_eq]
  constructor
  · rintro ⟨h1, h2⟩
    refine ⟨h1, fun j hj h => ?_⟩
    rcases h2 j hj with ⟨a, b⟩ | b
    · rcases h with h | ⟨h, h'⟩
      · exact (a h).elim
      · rcases b with b | b
        · rw [h] at b; cases b
        · exact (b h').elim
    · exact b
  · rintro ⟨h1, h2⟩
    refine ⟨h1, fun j hj => ?_⟩
    by_cases h : (j < i ∨ (pvB l c c.length j = true ∧ j ≠ i))
    · exact .inr (h2 j hj h)
    · left
      refine ⟨fun h' => h (.inl h'), ?_⟩
      by_cases hp : pvB l c c.length j = true
      · exact .inr fun h' => h (.inr ⟨hp, h'⟩)
      · exact .inl (by simpa using hp)
theorem fin_uni {l c : List Int} (hs : isSpaceM l = true) (hcc : isCodeM l c = true) (hl : linB l c = true) {i : Nat} (hi : i < l.length) {u v : Int} (hu : u ∈ c) (hv : v ∈ c) (h1 : finB l c i l.length u = true) (h2 : finB l c i l.length v = true) : u = v := by
  have hz := isSpaceM_szs hs
  obtain ⟨a1, a2⟩ := finB_ok.1 h1
  obtain ⟨b1, b2⟩ := finB_ok.1 h2
  have key := lin_zero (l := l) (subW_in hs hcc hl hu hv) (fun k hk => by
    have hkl := pvB_lt hk
    rw [subW_dig hz (lin_plain hl) u v hkl]
    by_cases e : k = i
    · subst e; rw [a1, b1]
    · rw [a2 k hkl (.inr ⟨hk, e⟩), b2 k hkl (.inr ⟨hk, e⟩)])
  exact word_eq hz (code_mem hcc hu) (code_mem hcc hv) fun j hj => (subW_dig hz (lin_plain hl) u v hj).1 (key j)
theorem filter_none {α : Type} {p : α → Bool} {c : List α} (h : ∀ x, x ∈ c → p x = false) : c.filter p = [] := by
  rw [List.filter_eq_nil_iff]; intro x hx; rw [h x hx]; simp
theorem code_nodup {l c : List Int} (hcc : isCodeM l c = true) : ∀ i k, i < k → k < c.length → c.getD i 0 < c.getD k 0 := by
  intro i k hik hk
  induction k with
  | zero => omega
  | succ k ih =>
    have h1 := ((isCodeM_ok l c).1 hcc).2 k hk
    by_cases e : i = k
    · subst e; exact h1
    · have := ih (by omega) (by omega); omega
/-- The words of the least basis with their first digit at one of the first m places. -/
def bsN (l c : List Int) : Nat → List Int
  | 0 => []
  | m + 1 => bsN l c m ++ (if pvB l c c.length m then c.filter (finB l c m l.length) else [])
abbrev bsM (l c : List Int) : List Int := bsN l c l.length
/-- The word k is the only one with its first digit at m. -/
theorem fin_one {l c : List Int} (hs : isSpaceM l = true) (hcc : isCodeM l c = true) (hl : linB l c = true) {m k : Nat} (hm : m < l.length) (hk : k < c.length) (h : finB l c m l.length (c.getD k 0) = true) : c.filter (finB l c m l.length) = [c.getD k 0] := by
  have e : c = c.take k ++ (c.getD k 0 :: c.drop (k + 1)) := by rw [← drop_cons1 hk, List.take_append_drop]
  have no : ∀ x, x ∈ c → x ≠ c.getD k 0 → finB l c m l.length x = false := fun x hx hn => by
    cases hf : finB l c m l.length x with
    | false => rfl
    | true => exact (hn (fin_uni hs hcc hl hm hx (mem_getD hk) hf h)).elim
  have n1 : ∀ x, x ∈ c.take k → x ≠ c.getD k 0 := fun x hx => by
    obtain ⟨i, hi, rfl⟩ := List.mem_iff_getElem.1 hx
    simp at hi
    have := code_nodup hcc i k (by omega) hk
    rw [List.getElem_take]; rw [show c.getD i 0 = c[i] by simp [show i < c.length by omega]] at this; omega
  have n2 : ∀ x, x ∈ c.drop (k + 1) → x ≠ c.getD k 0 := fun x hx => by
    obtain ⟨i, hi, rfl⟩ := List.mem_iff_getElem.1 hx
    simp at hi
    have := code_nodup hcc k (k + 1 + i) (by omega) (by omega)
    rw [List.getElem_drop]; rw [show c.getD (k + 1 + i) 0 = c[k + 1 + i] by simp [show k + 1 + i < c.length by omega]] at this; omega
  conv => lhs; arg 2; rw [e]
  rw [List.filter_append, List.filter_cons, if_pos h, filter_none fun x hx => no x (List.mem_of_mem_take hx) (n1 x hx), filter_none fun x hx => no x (List.mem_of_mem_drop hx) (n2 x hx)]
  rfl
@[go_sem] theorem flat_dy (l : List Int) : flat (l.map dy) = l.map dy := flat_one _ l
@[go_sem] theorem all_one_dy (l : List Int) : (l.map dy).all isOne = true := by rw [List.all_map]; simp [isOne]
attribute [go_sem] slaM
/-- The place of the first digit other than 0; -1 if there is none. -/
def fdI (d : List Int) : Int := match d.findIdx? (fun x => x != 0) with | some j => j | none => -1
theorem fdI_spec (d : List Int) : (fdI d = -1 ∧ ∀ i, d.getD i 0 = 0) ∨ ∃ f : Nat, f < d.length ∧ fdI d = f ∧ fdB d f = true := by
  cases h : d.findIdx? (fun x => x != 0) with
  | none =>
    left
    rw [List.findIdx?_eq_none_iff] at h
    refine ⟨by unfold fdI; rw [List.findIdx?_eq_none_iff.2 h], fun i => ?_⟩
    by_cases hi : i < d.length
    · have := h _ (mem_getD hi); simpa using this
    · rw [List.getD_eq_getElem?_getD, List.getElem?_eq_none (by omega)]; rfl
  | some f =>
    right
    have e : fdI d = f := by unfold fdI; rw [h]
    rw [List.findIdx?_eq_some_iff_getElem] at h
    obtain ⟨hf, h1, h2⟩ := h
    refine ⟨f, hf, e, fdB_ok.2 ⟨by simpa [hf] using h1, fun j hj => ?_⟩⟩
    have := h2 j hj
    simpa [show j < d.length by omega] using this
theorem d_impl_firstDigit_1 (x : Int) : Den PA f_impl_firstDigit_1 [.d (dy x)] [.any] (.d (db (x != 0))) := by
  refine den_go [] l_impl_firstDigit_1 ?_
  repeat' (first | simp -implicitDefEqProofs (maxSteps := 1000000) (disch := (first | omega | (simp only [go_sem] <;> omega) | fail)) only [go_sem, ints, bools, mat, reduceIte, Nat.reduceEqDiff, Nat.reduceAdd, Nat.reduceBEq, Nat.reduceMul, Nat.reduceLeDiff, Nat.reduceLT, Nat.reduceMod, Nat.reduceDiv, Nat.reduceSub, reduceCtorEq, c_impl_firstDigit_1] | ((first | refine goIf_b (fun h => ?_) (fun h => ?_) | refine goG_b (fun h => ?_) (fun h => ?_) | refine goTG_b (fun h => ?_) (fun h => ?_) | refine goOG_b (fun h => ?_) (fun h => ?_)) <;> ((try simp only [Bool.not_eq_true', Bool.not_eq_false'] at h); (try simp only [h]); (try simp only [decide_eq_true_eq, decide_eq_false_iff_not, bne_iff_ne, bne_eq_false_iff_eq, beq_iff_eq, beq_eq_false_iff_ne, ne_eq, Int.not_lt, Int.not_le, Bool.and_eq_true, Bool.and_eq_false_iff, Bool.or_eq_true, Bool.or_eq_false_iff] at h))))
/-- A function on bytes that is told by p. -/
def fnY (p : Int → Bool) (ds : List D) (r : Value) : Prop := ∃ x : Int, ds = [dy x] ∧ r = .bool (p x)
theorem fnY_mk (p : Int → Bool) : ∀ x, fnY p [dy x] (.bool (p x)) := fun x => ⟨x, rfl, rfl⟩
theorem d_slices_IndexFunc_bytes (ds : List Int) (p : Int → Bool) (g : List D → Value → Prop) (hg : ∀ x, g [dy x] (.bool (p x))) (hl : ds.length < 1048577) :
    Den PA f_slices_IndexFunc___byte_byte_ [.d (.lst 1 (ds.map dy)), .pfn g] [.any, .any] (.d (di (match ds.findIdx? p with | some j => j | none => -1))) := by
  refine den_go [] l_slices_IndexFunc___byte_byte_ ?_
  repeat' (first | simp -implicitDefEqProofs (maxSteps := 1000000) (disch := (first | omega | (simp only [go_sem] <;> omega) | fail)) only [go_sem, ints, bools, mat, reduceIte, Nat.reduceEqDiff, Nat.reduceAdd, Nat.reduceBEq, Nat.reduceMul, Nat.reduceLeDiff, Nat.reduceLT, Nat.reduceMod, Nat.reduceDiv, Nat.reduceSub, reduceCtorEq, c_slices_IndexFunc___byte_byte_] | ((first | refine goIf_b (fun h => ?_) (fun h => ?_) | refine goG_b (fun h => ?_) (fun h => ?_) | refine goTG_b (fun h => ?_) (fun h => ?_) | refine goOG_b (fun h => ?_) (fun h => ?_)) <;> ((try simp only [Bool.not_eq_true', Bool.not_eq_false'] at h); (try simp only [h]); (try simp only [decide_eq_true_eq, decide_eq_false_iff_not, bne_iff_ne, bne_eq_false_iff_eq, beq_iff_eq, beq_eq_false_iff_ne, ne_eq, Int.not_lt, Int.not_le, Bool.and_eq_true, Bool.and_eq_false_iff, Bool.or_eq_true, Bool.or_eq_false_iff] at h))))
  refine go_loop (fun (j : Nat) => ⟨[(0, .d (.lst 1 (ds.map dy))), (1, .pfn g), (7, .d (di ds.length)), (8, .d (di j))], []⟩) (fun j => j ≤ ds.length ∧ ∀ i, i < j → p (ds.getD i 0) = false) (fun j => ds.length - j) 0 ?_ ?_ ?_
  · (simp -implicitDefEqProofs (maxSteps := 1000000) (disch := (first | omega | (simp only [go_sem] <;> omega) | fail)) only [go_sem, ints, bools, mat, reduceIte, Nat.reduceEqDiff, Nat.reduceAdd, Nat.reduceBEq, Nat.reduceMul, Nat.reduceLeDiff, Nat.reduceLT, Nat.reduceMod, Nat.reduceDiv, Nat.reduceSub, reduceCtorEq] <;> rfl)
  · simp
  · rintro j ⟨hj, hi⟩ J hJ
    repeat' (first | simp -implicitDefEqProofs (maxSteps := 1000000) (disch := (first | omega | (simp only [go_sem] <;> omega) | fail)) only [go_sem, ints, bools, mat, reduceIte, Nat.reduceEqDiff, Nat.reduceAdd, Nat.reduceBEq, Nat.reduceMul, Nat.reduceLeDiff, Nat.reduceLT, Nat.reduceMod, Nat.reduceDiv, Nat.reduceSub, reduceCtorEq] | ((first | refine goIf_b (fun h => ?_) (fun h => ?_) | refine goG_b (fun h => ?_) (fun h => ?_) | refine goTG_b (fun h => ?_) (fun h => ?_) | refine goOG_b (fun h => ?_) (fun h => ?_)) <;> ((try simp only [Bool.not_eq_true', Bool.not_eq_false'] at h); (try simp only [h]); (try simp only [decide_eq_true_eq, decide_eq_false_iff_not, bne_iff_ne, bne_eq_false_iff_eq, beq_iff_eq, beq_eq_false_iff_ne, ne_eq, Int.not_lt, Int.not_le, Bool.and_eq_true, Bool.and_eq_false_iff, Bool.or_eq_true, Bool.or_eq_false_iff] at h))))
    · refine goV_pfn [dy (ds.getD j 0)] (.bool (p (ds.getD j 0))) (by simp -implicitDefEqProofs (maxSteps := 1000000) (disch := (first | omega | (simp only [go_sem] <;> omega) | fail)) only [go_sem, ints, bools, mat, reduceIte, Nat.reduceEqDiff, Nat.reduceAdd, Nat.reduceBEq, Nat.reduceMul, Nat.reduceLeDiff, Nat.reduceLT, Nat.reduceMod, Nat.reduceDiv, Nat.reduceSub, reduceCtorEq]) rfl (hg _) ?_
      repeat' (first | simp -implicitDefEqProofs (maxSteps := 1000000) (disch := (first | omega | (simp only [go_sem] <;> omega) | fail)) only [go_sem, ints, bools, mat, reduceIte, Nat.reduceEqDiff, Nat.reduceAdd, Nat.reduceBEq, Nat.reduceMul, Nat.reduceLeDiff, Nat.reduceLT, Nat.reduceMod, Nat.reduceDiv, Nat.reduceSub, reduceCtorEq] | ((first | refine goIf_b (fun h => ?_) (fun h => ?_) | refine goG_b (fun h => ?_) (fun h => ?_) | refine goTG_b (fun h => ?_) (fun h => ?_) | refine goOG_b (fun h => ?_) (fun h => ?_)) <;> ((try simp only [Bool.not_eq_true', Bool.not_eq_false'] at h); (try simp only [h]); (try simp only [decide_eq_true_eq, decide_eq_false_iff_not, bne_iff_ne, bne_eq_false_iff_eq, beq_iff_eq, beq_eq_false_iff_ne, ne_eq, Int.not_lt, Int.not_le, Bool.and_eq_true, Bool.and_eq_false_iff, Bool.or_eq_true, Bool.or_eq_false_iff] at h))))
      · have e : ds.findIdx? p = some j := by
          rw [List.findIdx?_eq_some_iff_getElem]
          refine ⟨by omega, by simpa [show j < ds.length by omega] using h, fun i hi' => ?_⟩
          have := hi i hi'
          simpa [show i < ds.length by omega] using this
        rw [e]
      · refine hJ (j + 1) ⟨by omega, all_ext hi h⟩ (by omega) _ (by (simp -implicitDefEqProofs (maxSteps := 1000000) (disch := (first | omega | (simp only [go_sem] <;> omega) | fail)) only [go_sem, ints, bools, mat, reduceIte, Nat.reduceEqDiff, Nat.reduceAdd, Nat.reduceBEq, Nat.reduceMul, Nat.reduceLeDiff, Nat.reduceLT, Nat.reduceMod, Nat.reduceDiv, Nat.reduceSub, reduceCtorEq] <;> rfl))
    · have e : ds.findIdx? p = none := by
        rw [List.findIdx?_eq_none_iff]
        intro x hx
        obtain ⟨i, hi', rfl⟩ := List.mem_iff_getElem.1 hx
        have := hi i (by omega)
        simpa [hi'] using this
      rw [e]
theorem d_impl_firstDigit (a : List Int) : Den PA f_impl_firstDigit [.d (dig a)] [.any] (.d (di (fdI (pad8 a)))) := by
  have h8 := pad8_len a
  refine den_go [] l_impl_firstDigit ?_
  repeat' (first | simp -implicitDefEqProofs (maxSteps := 1000000) (disch := (first | omega | (simp only [go_sem] <;> omega) | fail)) only [go_sem, ints, bools, mat, reduceIte, Nat.reduceEqDiff, Nat.reduceAdd, Nat.reduceBEq, Nat.reduceMul, Nat.reduceLeDiff, Nat.reduceLT, Nat.reduceMod, Nat.reduceDiv, Nat.reduceSub, reduceCtorEq, c_impl_firstDigit] | ((first | refine goIf_b (fun h => ?_) (fun h => ?_) | refine goG_b (fun h => ?_) (fun h => ?_) | refine goTG_b (fun h => ?_) (fun h => ?_) | refine goOG_b (fun h => ?_) (fun h => ?_)) <;> ((try simp only [Bool.not_eq_true', Bool.not_eq_false'] at h); (try simp only [h]); (try simp only [decide_eq_true_eq, decide_eq_false_iff_not, bne_iff_ne, bne_eq_false_iff_eq, beq_iff_eq, beq_eq_false_iff_ne, ne_eq, Int.not_lt, Int.not_le, Bool.and_eq_true, Bool.and_eq_false_iff, Bool.or_eq_true, Bool.or_eq_false_iff] at h))))
  first | refine goC_call [.r, .g (fnY fun x => x != 0)] (d_slices_IndexFunc_bytes (pad8 a) (fun x => x != 0) _ (fnY_mk _) (by omega)) ?_ | refine goOC_call [.r, .g (fnY fun x => x != 0)] (d_slices_IndexFunc_bytes (pad8 a) (fun x => x != 0) _ (fnY_mk _) (by omega)) ?_
  repeat' (first | simp -implicitDefEqProofs (maxSteps := 1000000) (disch := (first | omega | (simp only [go_sem] <;> omega) | fail)) only [go_sem, ints, bools, mat, reduceIte, Nat.reduceEqDiff, Nat.reduceAdd, Nat.reduceBEq, Nat.reduceMul, Nat.reduceLeDiff, Nat.reduceLT, Nat.reduceMod, Nat.reduceDiv, Nat.reduceSub, reduceCtorEq] | ((first | refine goIf_b (fun h => ?_) (fun h => ?_) | refine goG_b (fun h => ?_) (fun h => ?_) | refine goTG_b (fun h => ?_) (fun h => ?_) | refine goOG_b (fun h => ?_) (fun h => ?_)) <;> ((try simp only [Bool.not_eq_true', Bool.not_eq_false'] at h); (try simp only [h]); (try simp only [decide_eq_true_eq, decide_eq_false_iff_not, bne_iff_ne, bne_eq_false_iff_eq, beq_iff_eq, beq_eq_false_iff_ne, ne_eq, Int.not_lt, Int.not_le, Bool.and_eq_true, Bool.and_eq_false_iff, Bool.or_eq_true, Bool.or_eq_false_iff] at h))))
  refine chk_intro (fnOK_mk (d_impl_firstDigit_1 0).1 [] rfl fun ds r hg => ?_) ?_
  · obtain ⟨x, rfl, rfl⟩ := hg
    exact ⟨_, d_impl_firstDigit_1 x⟩
  repeat' (first | simp -implicitDefEqProofs (maxSteps := 1000000) (disch := (first | omega | (simp only [go_sem] <;> omega) | fail)) only [go_sem, ints, bools, mat, reduceIte, Nat.reduceEqDiff, Nat.reduceAdd, Nat.reduceBEq, Nat.reduceMul, Nat.reduceLeDiff, Nat.reduceLT, Nat.reduceMod, Nat.reduceDiv, Nat.reduceSub, reduceCtorEq] | ((first | refine goIf_b (fun h => ?_) (fun h => ?_) | refine goG_b (fun h => ?_) (fun h => ?_) | refine goTG_b (fun h => ?_) (fun h => ?_) | refine goOG_b (fun h => ?_) (fun h => ?_)) <;> ((try simp only [Bool.not_eq_true', Bool.not_eq_false'] at h); (try simp only [h]); (try simp only [decide_eq_true_eq, decide_eq_false_iff_not, bne_iff_ne, bne_eq_false_iff_eq, beq_iff_eq, beq_eq_false_iff_ne, ne_eq, Int.not_lt, Int.not_le, Bool.and_eq_true, Bool.and_eq_false_iff, Bool.or_eq_true, Bool.or_eq_false_iff] at h))))
  rfl
abbrev lnM (l c : List Int) : Int := if ggM l c = 0 then (if linB l c = true then 0 else 5) else ggM l c
theorem lnM_ok {l c : List Int} (h : lnM l c = 0) : isSpaceM l = true ∧ isCodeM l c = true ∧ linB l c = true := by
  by_cases h1 : ggM l c = 0
  · by_cases h2 : linB l c = true
    · exact ⟨(ggM_ok h1).1, (ggM_ok h1).2, h2⟩
    · rw [lnM, if_pos h1, if_neg h2] at h; exact absurd h (by decide)
  · rw [lnM, if_neg h1] at h; exact absurd h h1
theorem d_impl_linearCode0 (l c : List Int) (hl : l.length < 1048577) (hc : c.length < 1048577) : Den PA f_impl_linearCode [.d (.agg [ints l]), .d (ints c), .d nil] [.any, .any, .any] (.d (di (lnM l c))) := by
  refine den_go [] l_impl_linearCode ?_
  repeat' (first | simp -implicitDefEqProofs (maxSteps := 1000000) (disch := (first | omega | (simp only [go_sem] <;> omega) | fail)) only [go_sem, ints, bools, mat, reduceIte, Nat.reduceEqDiff, Nat.reduceAdd, Nat.reduceBEq, Nat.reduceMul, Nat.reduceLeDiff, Nat.reduceLT, Nat.reduceMod, Nat.reduceDiv, Nat.reduceSub, reduceCtorEq, c_impl_linearCode] | ((first | refine goIf_b (fun h => ?_) (fun h => ?_) | refine goG_b (fun h => ?_) (fun h => ?_) | refine goTG_b (fun h => ?_) (fun h => ?_) | refine goOG_b (fun h => ?_) (fun h => ?_)) <;> ((try simp only [Bool.not_eq_true', Bool.not_eq_false'] at h); (try simp only [h]); (try simp only [decide_eq_true_eq, decide_eq_false_iff_not, bne_iff_ne, bne_eq_false_iff_eq, beq_iff_eq, beq_eq_false_iff_ne, ne_eq, Int.not_lt, Int.not_le, Bool.and_eq_true, Bool.and_eq_false_iff, Bool.or_eq_true, Bool.or_eq_false_iff] at h))))
  first | refine goC_call [.r, .r, .r] (d_impl_codeCode0 l hl c hc) ?_ | refine goOC_call [.r, .r, .r] (d_impl_codeCode0 l hl c hc) ?_
  by_cases h : ggM l c = 0
  · obtain ⟨hs, hcc⟩ := ggM_ok h
    rw [lnM, if_pos h, h]
    repeat' (first | simp -implicitDefEqProofs (maxSteps := 1000000) (disch := (first | omega | (simp only [go_sem] <;> omega) | fail)) only [go_sem, ints, bools, mat, reduceIte, Nat.reduceEqDiff, Nat.reduceAdd, Nat.reduceBEq, Nat.reduceMul, Nat.reduceLeDiff, Nat.reduceLT, Nat.reduceMod, Nat.reduceDiv, Nat.reduceSub, reduceCtorEq] | ((first | refine goIf_b (fun h => ?_) (fun h => ?_) | refine goG_b (fun h => ?_) (fun h => ?_) | refine goTG_b (fun h => ?_) (fun h => ?_) | refine goOG_b (fun h => ?_) (fun h => ?_)) <;> ((try simp only [Bool.not_eq_true', Bool.not_eq_false'] at h); (try simp only [h]); (try simp only [decide_eq_true_eq, decide_eq_false_iff_not, bne_iff_ne, bne_eq_false_iff_eq, beq_iff_eq, beq_eq_false_iff_ne, ne_eq, Int.not_lt, Int.not_le, Bool.and_eq_true, Bool.and_eq_false_iff, Bool.or_eq_true, Bool.or_eq_false_iff] at h))))
    first | refine goC_call [.r, .r] (d_impl_isLinear l c hs hcc hc) ?_ | refine goOC_call [.r, .r] (d_impl_isLinear l c hs hcc hc) ?_
    cases hq : linB l c with
    | true =>
      repeat' (first | simp -implicitDefEqProofs (maxSteps := 1000000) (disch := (first | omega | (simp only [go_sem] <;> omega) | fail)) only [go_sem, ints, bools, mat, reduceIte, Nat.reduceEqDiff, Nat.reduceAdd, Nat.reduceBEq, Nat.reduceMul, Nat.reduceLeDiff, Nat.reduceLT, Nat.reduceMod, Nat.reduceDiv, Nat.reduceSub, reduceCtorEq] | ((first | refine goIf_b (fun h => ?_) (fun h => ?_) | refine goG_b (fun h => ?_) (fun h => ?_) | refine goTG_b (fun h => ?_) (fun h => ?_) | refine goOG_b (fun h => ?_) (fun h => ?_)) <;> ((try simp only [Bool.not_eq_true', Bool.not_eq_false'] at h); (try simp only [h]); (try simp only [decide_eq_true_eq, decide_eq_false_iff_not, bne_iff_ne, bne_eq_false_iff_eq, beq_iff_eq, beq_eq_false_iff_ne, ne_eq, Int.not_lt, Int.not_le, Bool.and_eq_true, Bool.and_eq_false_iff, Bool.or_eq_true, Bool.or_eq_false_iff] at h))))
    | false =>
      repeat' (first | simp -implicitDefEqProofs (maxSteps := 1000000) (disch := (first | omega | (simp only [go_sem] <;> omega) | fail)) only [go_sem, ints, bools, mat, reduceIte, Nat.reduceEqDiff, Nat.reduceAdd, Nat.reduceBEq, Nat.reduceMul, Nat.reduceLeDiff, Nat.reduceLT, Nat.reduceMod, Nat.reduceDiv, Nat.reduceSub, reduceCtorEq] | ((first | refine goIf_b (fun h => ?_) (fun h => ?_) | refine goG_b (fun h => ?_) (fun h => ?_) | refine goTG_b (fun h => ?_) (fun h => ?_) | refine goOG_b (fun h => ?_) (fun h => ?_)) <;> ((try simp only [Bool.not_eq_true', Bool.not_eq_false'] at h); (try simp only [h]); (try simp only [decide_eq_true_eq, decide_eq_false_iff_not, bne_iff_ne, bne_eq_false_iff_eq, beq_iff_eq, beq_eq_false_iff_ne, ne_eq, Int.not_lt, Int.not_le, Bool.and_eq_true, Bool.and_eq_false_iff, Bool.or_eq_true, Bool.or_eq_false_iff] at h))))
  · rw [lnM, if_neg h]
    generalize ggM l c = b at h
    repeat' (first | simp -implicitDefEqProofs (maxSteps := 1000000) (disch := (first | omega | (simp only [go_sem] <;> omega) | fail)) only [go_sem, ints, bools, mat, reduceIte, Nat.reduceEqDiff, Nat.reduceAdd, Nat.reduceBEq, Nat.reduceMul, Nat.reduceLeDiff, Nat.reduceLT, Nat.reduceMod, Nat.reduceDiv, Nat.reduceSub, reduceCtorEq] | ((first | refine goIf_b (fun h => ?_) (fun h => ?_) | refine goG_b (fun h => ?_) (fun h => ?_) | refine goTG_b (fun h => ?_) (fun h => ?_) | refine goOG_b (fun h => ?_) (fun h => ?_)) <;> ((try simp only [Bool.not_eq_true', Bool.not_eq_false'] at h); (try simp only [h]); (try simp only [decide_eq_true_eq, decide_eq_false_iff_not, bne_iff_ne, bne_eq_false_iff_eq, beq_iff_eq, beq_eq_false_iff_ne, ne_eq, Int.not_lt, Int.not_le, Bool.and_eq_true, Bool.and_eq_false_iff, Bool.or_eq_true, Bool.or_eq_false_iff] at h))))
    all_goals (exfalso; omega)
theorem d_spec_l05Given (l c : List Int) (hl : l.length < 1048577) (hc : c.length < 1048577) : Den PA f_spec_l05Given [.d (.agg [ints l]), .d (ints c)] [.any, .any] (.d (di (lnM l c))) := by
  refine den_go [] l_spec_l05Given ?_
  repeat' (first | simp -implicitDefEqProofs (maxSteps := 1000000) (disch := (first | omega | (simp only [go_sem] <;> omega) | fail)) only [go_sem, ints, bools, mat, reduceIte, Nat.reduceEqDiff, Nat.reduceAdd, Nat.reduceBEq, Nat.reduceMul, Nat.reduceLeDiff, Nat.reduceLT, Nat.reduceMod, Nat.reduceDiv, Nat.reduceSub, reduceCtorEq, c_spec_l05Given] | ((first | refine goIf_b (fun h => ?_) (fun h => ?_) | refine goG_b (fun h => ?_) (fun h => ?_) | refine goTG_b (fun h => ?_) (fun h => ?_) | refine goOG_b (fun h => ?_) (fun h => ?_)) <;> ((try simp only [Bool.not_eq_true', Bool.not_eq_false'] at h); (try simp only [h]); (try simp only [decide_eq_true_eq, decide_eq_false_iff_not, bne_iff_ne, bne_eq_false_iff_eq, beq_iff_eq, beq_eq_false_iff_ne, ne_eq, Int.not_lt, Int.not_le, Bool.and_eq_true, Bool.and_eq_false_iff, Bool.or_eq_true, Bool.or_eq_false_iff] at h))))
  first | refine goC_call [.r, .r] (d_spec_l01Given l hl c hc) ?_ | refine goOC_call [.r, .r] (d_spec_l01Given l hl c hc) ?_
  by_cases h : ggM l c = 0
  · obtain ⟨hs, hcc⟩ := ggM_ok h
    rw [lnM, if_pos h, h]
    repeat' (first | simp -implicitDefEqProofs (maxSteps := 1000000) (disch := (first | omega | (simp only [go_sem] <;> omega) | fail)) only [go_sem, ints, bools, mat, reduceIte, Nat.reduceEqDiff, Nat.reduceAdd, Nat.reduceBEq, Nat.reduceMul, Nat.reduceLeDiff, Nat.reduceLT, Nat.reduceMod, Nat.reduceDiv, Nat.reduceSub, reduceCtorEq] | ((first | refine goIf_b (fun h => ?_) (fun h => ?_) | refine goG_b (fun h => ?_) (fun h => ?_) | refine goTG_b (fun h => ?_) (fun h => ?_) | refine goOG_b (fun h => ?_) (fun h => ?_)) <;> ((try simp only [Bool.not_eq_true', Bool.not_eq_false'] at h); (try simp only [h]); (try simp only [decide_eq_true_eq, decide_eq_false_iff_not, bne_iff_ne, bne_eq_false_iff_eq, beq_iff_eq, beq_eq_false_iff_ne, ne_eq, Int.not_lt, Int.not_le, Bool.and_eq_true, Bool.and_eq_false_iff, Bool.or_eq_true, Bool.or_eq_false_iff] at h))))
    first | refine goC_call [.r, .r] (d_spec_l05Linear l c hs hcc hc) ?_ | refine goOC_call [.r, .r] (d_spec_l05Linear l c hs hcc hc) ?_
    cases hq : linB l c with
    | true =>
      repeat' (first | simp -implicitDefEqProofs (maxSteps := 1000000) (disch := (first | omega | (simp only [go_sem] <;> omega) | fail)) only [go_sem, ints, bools, mat, reduceIte, Nat.reduceEqDiff, Nat.reduceAdd, Nat.reduceBEq, Nat.reduceMul, Nat.reduceLeDiff, Nat.reduceLT, Nat.reduceMod, Nat.reduceDiv, Nat.reduceSub, reduceCtorEq] | ((first | refine goIf_b (fun h => ?_) (fun h => ?_) | refine goG_b (fun h => ?_) (fun h => ?_) | refine goTG_b (fun h => ?_) (fun h => ?_) | refine goOG_b (fun h => ?_) (fun h => ?_)) <;> ((try simp only [Bool.not_eq_true', Bool.not_eq_false'] at h); (try simp only [h]); (try simp only [decide_eq_true_eq, decide_eq_false_iff_not, bne_iff_ne, bne_eq_false_iff_eq, beq_iff_eq, beq_eq_false_iff_ne, ne_eq, Int.not_lt, Int.not_le, Bool.and_eq_true, Bool.and_eq_false_iff, Bool.or_eq_true, Bool.or_eq_false_iff] at h))))
    | false =>
      repeat' (first | simp -implicitDefEqProofs (maxSteps := 1000000) (disch := (first | omega | (simp only [go_sem] <;> omega) | fail)) only [go_sem, ints, bools, mat, reduceIte, Nat.reduceEqDiff, Nat.reduceAdd, Nat.reduceBEq, Nat.reduceMul, Nat.reduceLeDiff, Nat.reduceLT, Nat.reduceMod, Nat.reduceDiv, Nat.reduceSub, reduceCtorEq] | ((first | refine goIf_b (fun h => ?_) (fun h => ?_) | refine goG_b (fun h => ?_) (fun h => ?_) | refine goTG_b (fun h => ?_) (fun h => ?_) | refine goOG_b (fun h => ?_) (fun h => ?_)) <;> ((try simp only [Bool.not_eq_true', Bool.not_eq_false'] at h); (try simp only [h]); (try simp only [decide_eq_true_eq, decide_eq_false_iff_not, bne_iff_ne, bne_eq_false_iff_eq, beq_iff_eq, beq_eq_false_iff_ne, ne_eq, Int.not_lt, Int.not_le, Bool.and_eq_true, Bool.and_eq_false_iff, Bool.or_eq_true, Bool.or_eq_false_iff] at h))))
  · rw [lnM, if_neg h]
    generalize ggM l c = b at h
    repeat' (first | simp -implicitDefEqProofs (maxSteps := 1000000) (disch := (first | omega | (simp only [go_sem] <;> omega) | fail)) only [go_sem, ints, bools, mat, reduceIte, Nat.reduceEqDiff, Nat.reduceAdd, Nat.reduceBEq, Nat.reduceMul, Nat.reduceLeDiff, Nat.reduceLT, Nat.reduceMod, Nat.reduceDiv, Nat.reduceSub, reduceCtorEq] | ((first | refine goIf_b (fun h => ?_) (fun h => ?_) | refine goG_b (fun h => ?_) (fun h => ?_) | refine goTG_b (fun h => ?_) (fun h => ?_) | refine goOG_b (fun h => ?_) (fun h => ?_)) <;> ((try simp only [Bool.not_eq_true', Bool.not_eq_false'] at h); (try simp only [h]); (try simp only [decide_eq_true_eq, decide_eq_false_iff_not, bne_iff_ne, bne_eq_false_iff_eq, beq_iff_eq, beq_eq_false_iff_ne, ne_eq, Int.not_lt, Int.not_le, Bool.and_eq_true, Bool.and_eq_false_iff, Bool.or_eq_true, Bool.or_eq_false_iff] at h))))
    all_goals (exfalso; omega)
/-- The first places of the first j words, as a row of n marks. -/
def firN (l c : List Int) (n j : Nat) : List Bool := (List.range n).map fun i => pvB l c j i
@[go_sem] theorem firN_len (l c : List Int) (n j : Nat) : (firN l c n j).length = n := by simp [firN]
theorem firN_get (l c : List Int) {n i : Nat} (j : Nat) (h : i < n) : (firN l c n j).getD i false = pvB l c j i := by simp [firN, h]
theorem firN_same {l c : List Int} {n j : Nat} (h : ∀ i, (digM l (c.getD j 0)).getD i 0 = 0) : firN l c n (j + 1) = firN l c n j := by
  unfold firN; congr 1; funext i
  rw [pvB_step]
  have : fdB (digM l (c.getD j 0)) i = false := by
    cases e : fdB (digM l (c.getD j 0)) i with
    | false => rfl
    | true => exact ((fdB_ok.1 e).1 (h i)).elim
  rw [this, Bool.or_false]
theorem fdB_uni {d : List Int} {i f : Nat} (h1 : fdB d i = true) (h2 : fdB d f = true) : i = f := by
  obtain ⟨a1, a2⟩ := fdB_ok.1 h1
  obtain ⟨b1, b2⟩ := fdB_ok.1 h2
  rcases Nat.lt_trichotomy i f with h | h | h
  · exact (a1 (b2 i h)).elim
  · exact h
  · exact (b1 (a2 f h)).elim
theorem firN_set {l c : List Int} {n j f : Nat} (hf : f < n) (h : fdB (digM l (c.getD j 0)) f = true) : firN l c n (j + 1) = (firN l c n j).set f true := by
  apply List.ext_getElem
  · simp [firN]
  · intro i h1 h2
    rw [List.getElem_set]
    simp only [firN, List.getElem_map, List.getElem_range]
    rw [pvB_step]
    split
    · subst_vars; rw [h, Bool.or_true]
    · rename_i hne
      have : fdB (digM l (c.getD j 0)) i = false := by
        cases e : fdB (digM l (c.getD j 0)) i with
        | false => rfl
        | true => exact (hne (fdB_uni h e)).elim
      rw [this, Bool.or_false]
theorem fdB_pad {d : List Int} (h : d.length ≤ 8) (i : Nat) : fdB (pad8 d) i = fdB d i := by
  unfold fdB
  rw [pad8_get h]
  congr 1
  congr 1
  funext j
  rw [pad8_get h]
/-- What the program reckons of a word for the first place i, after k places. -/
def finI (l c : List Int) (i : Nat) (w : Int) (k : Nat) : Bool := fdB (digM l w) i && ((digM l w).getD i 0 == 1) && (List.range k).all fun j => !pvB l c c.length j || decide (j = i) || (digM l w).getD j 0 == 0
theorem finI_fin {l c : List Int} (h8 : l.length ≤ 8) {i : Nat} (w : Int) (hi : i < l.length) : finI l c i w 8 = finB l c i l.length w := by
  have hiff : finI l c i w 8 = true ↔ finB l c i l.length w = true := by
    rw [finB_ok]
    simp only [finI, Bool.and_eq_true, List.all_eq_true, List.mem_range, beq_iff_eq, Bool.or_eq_true, Bool.not_eq_true', decide_eq_true_eq]
    constructor
    · rintro ⟨⟨h1, h2⟩, h3⟩
      refine ⟨h2, fun j hj h => ?_⟩
      rcases h with h | ⟨h, h'⟩
      · exact (fdB_ok.1 h1).2 j h
      · rcases h3 j (by omega) with (a | a) | a
        · rw [h] at a; cases a
        · exact (h' a).elim
        · exact a
    · rintro ⟨h1, h2⟩
      refine ⟨⟨fdB_ok.2 ⟨by rw [h1]; decide, fun j hj => h2 j (by omega) (.inl hj)⟩, h1⟩, fun j hj => ?_⟩
      by_cases hp : pvB l c c.length j = true
      · by_cases e : j = i
        · exact .inl (.inr e)
        · exact .inr (h2 j (pvB_lt hp) (.inr ⟨hp, e⟩))
      · exact .inl (.inl (by simpa using hp))
  cases h1 : finI l c i w 8 with
  | true => exact (hiff.1 h1).symm
  | false =>
    cases h2 : finB l c i l.length w with
    | false => rfl
    | true => rw [hiff.2 h2] at h1; cases h1
theorem finI_step (l c : List Int) (i : Nat) (w : Int) (k : Nat) : finI l c i w (k + 1) = (finI l c i w k && (!pvB l c c.length k || decide (k = i) || (digM l w).getD k 0 == 0)) := by
  rw [finI, finI, List.range_succ, List.all_append]; simp [Bool.and_assoc]
theorem bsN_pad {l c : List Int} : ∀ m, l.length ≤ m → bsN l c m = bsM l c
  | 0, h => by rw [bsM, show l.length = 0 by omega]
  | m + 1, h => by
    by_cases e : l.length = m + 1
    · rw [bsM, e]
    · rw [bsN, bsN_pad m (by omega), if_neg, List.append_nil]
      intro hp; have := pvB_lt hp; omega
theorem fdI_eq {d : List Int} (h : d.length ≤ 8) (m : Nat) : (fdI (pad8 d) = (m : Int)) ↔ fdB d m = true := by
  rw [← fdB_pad h]
  rcases fdI_spec (pad8 d) with ⟨h1, h2⟩ | ⟨f, hf, h1, h2⟩
  · rw [h1]
    constructor
    · intro h; omega
    · intro h; exact ((fdB_ok.1 h).1 (h2 m)).elim
  · rw [h1]
    constructor
    · intro h; have : f = m := by omega
      rw [← this]; exact h2
    · intro h; rw [fdB_uni h2 h]
@[go_sem] theorem getB2 {l : List Bool} {j : Nat} (h : j < l.length) : (l.map db)[j]? = some (db (l.getD j false)) := by simp [h]
theorem bsN_len {l c : List Int} (hs : isSpaceM l = true) (hcc : isCodeM l c = true) (hl : linB l c = true) : ∀ m, (bsN l c m).length ≤ m
  | 0 => Nat.le_refl _
  | m + 1 => by
    have ih := bsN_len hs hcc hl m
    rw [bsN, List.length_append]
    split
    · rename_i hp
      have : (c.filter (finB l c m l.length)).length ≤ 1 := by
        cases hf : c.filter (finB l c m l.length) with
        | nil => simp
        | cons x r =>
          have hx : x ∈ c.filter (finB l c m l.length) := by rw [hf]; exact List.mem_cons_self
          obtain ⟨hx1, hx2⟩ := List.mem_filter.1 hx
          obtain ⟨k, hk, rfl⟩ := List.mem_iff_getElem.1 hx1
          have e : c[k] = c.getD k 0 := by simp [hk]
          rw [e] at hx2
          have := fin_one hs hcc hl (pvB_lt hp) hk hx2
          rw [hf] at this; rw [this]; simp
      omega
    · simp; omega
theorem d_impl_basis (l c : List Int) (hs : isSpaceM l = true) (hcc : isCodeM l c = true) (hl : linB l c = true) (hc : c.length < 1048577) : Den PA f_impl_basis [.d (.agg [ints l]), .d (ints c)] [.any, .any] (.own 1 ((bsM l c).map di)) := by
  have hn := isSpaceM_n hs
  have hz := isSpaceM_szs hs
  have hcs := code_small hs hcc
  have hd8 : ∀ w, (digM l w).length ≤ 8 := fun w => by rw [digM_len]; omega
  refine den_go [] l_impl_basis ?_
  repeat' (first | simp -implicitDefEqProofs (maxSteps := 1000000) (disch := (first | omega | (simp only [go_sem] <;> omega) | fail)) only [go_sem, ints, bools, mat, reduceIte, Nat.reduceEqDiff, Nat.reduceAdd, Nat.reduceBEq, Nat.reduceMul, Nat.reduceLeDiff, Nat.reduceLT, Nat.reduceMod, Nat.reduceDiv, Nat.reduceSub, reduceCtorEq, c_impl_basis] | ((first | refine goIf_b (fun h => ?_) (fun h => ?_) | refine goG_b (fun h => ?_) (fun h => ?_) | refine goTG_b (fun h => ?_) (fun h => ?_) | refine goOG_b (fun h => ?_) (fun h => ?_)) <;> ((try simp only [Bool.not_eq_true', Bool.not_eq_false'] at h); (try simp only [h]); (try simp only [decide_eq_true_eq, decide_eq_false_iff_not, bne_iff_ne, bne_eq_false_iff_eq, beq_iff_eq, beq_eq_false_iff_ne, ne_eq, Int.not_lt, Int.not_le, Bool.and_eq_true, Bool.and_eq_false_iff, Bool.or_eq_true, Bool.or_eq_false_iff] at h))))
  first | refine goC_call [.r, .r] (d_impl_digitsOfAll l hs c hc hcs) ?_ | refine goOC_call [.r, .r] (d_impl_digitsOfAll l hs c hc hcs) ?_
  repeat' (first | simp -implicitDefEqProofs (maxSteps := 1000000) (disch := (first | omega | (simp only [go_sem] <;> omega) | fail)) only [go_sem, ints, bools, mat, reduceIte, Nat.reduceEqDiff, Nat.reduceAdd, Nat.reduceBEq, Nat.reduceMul, Nat.reduceLeDiff, Nat.reduceLT, Nat.reduceMod, Nat.reduceDiv, Nat.reduceSub, reduceCtorEq] | ((first | refine goIf_b (fun h => ?_) (fun h => ?_) | refine goG_b (fun h => ?_) (fun h => ?_) | refine goTG_b (fun h => ?_) (fun h => ?_) | refine goOG_b (fun h => ?_) (fun h => ?_)) <;> ((try simp only [Bool.not_eq_true', Bool.not_eq_false'] at h); (try simp only [h]); (try simp only [decide_eq_true_eq, decide_eq_false_iff_not, bne_iff_ne, bne_eq_false_iff_eq, beq_iff_eq, beq_eq_false_iff_ne, ne_eq, Int.not_lt, Int.not_le, Bool.and_eq_true, Bool.and_eq_false_iff, Bool.or_eq_true, Bool.or_eq_false_iff] at h))))
  refine go_loop (fun (j : Nat) => ⟨[(1, .d (ints c)), (2, .ref 0 0), (5, .ref 1 0), (21, .sl 2 0 c.length 8), (22, .d (di c.length)), (23, .d (di j))], [some (.var [ints l]), some (.var ((firN l c 8 j).map db)), some (.dat 8 (digs (digsM l c)))]⟩) (fun j => j ≤ c.length) (fun j => c.length - j) 0 ?_ ?_ ?_
  · simp -implicitDefEqProofs (maxSteps := 1000000) (disch := (first | omega | (simp only [go_sem] <;> omega) | fail)) only [go_sem, ints, bools, mat, reduceIte, Nat.reduceEqDiff, Nat.reduceAdd, Nat.reduceBEq, Nat.reduceMul, Nat.reduceLeDiff, Nat.reduceLT, Nat.reduceMod, Nat.reduceDiv, Nat.reduceSub, reduceCtorEq]; rfl
  · simp
  · rintro j hj J hJ
    have hg := fun h => digsM_get l c (i := j) h
    repeat' (first | simp -implicitDefEqProofs (maxSteps := 1000000) (disch := (first | omega | (simp only [go_sem] <;> omega) | fail)) only [go_sem, ints, bools, mat, reduceIte, Nat.reduceEqDiff, Nat.reduceAdd, Nat.reduceBEq, Nat.reduceMul, Nat.reduceLeDiff, Nat.reduceLT, Nat.reduceMod, Nat.reduceDiv, Nat.reduceSub, reduceCtorEq] | ((first | refine goIf_b (fun h => ?_) (fun h => ?_) | refine goG_b (fun h => ?_) (fun h => ?_) | refine goTG_b (fun h => ?_) (fun h => ?_) | refine goOG_b (fun h => ?_) (fun h => ?_)) <;> ((try simp only [Bool.not_eq_true', Bool.not_eq_false'] at h); (try simp only [h]); (try simp only [decide_eq_true_eq, decide_eq_false_iff_not, bne_iff_ne, bne_eq_false_iff_eq, beq_iff_eq, beq_eq_false_iff_ne, ne_eq, Int.not_lt, Int.not_le, Bool.and_eq_true, Bool.and_eq_false_iff, Bool.or_eq_true, Bool.or_eq_false_iff] at h))))
    · rw [hg (by omega)]
      have hfs := fdI_spec (pad8 (digM l (c.getD j 0)))
      first | refine goC_call [.r] (d_impl_firstDigit (digM l (c.getD j 0))) ?_ | refine goOC_call [.r] (d_impl_firstDigit (digM l (c.getD j 0))) ?_
      rcases hfs with ⟨h1, h2⟩ | ⟨f, hf, h1, h2⟩
      · rw [h1]
        repeat' (first | simp -implicitDefEqProofs (maxSteps := 1000000) (disch := (first | omega | (simp only [go_sem] <;> omega) | fail)) only [go_sem, ints, bools, mat, reduceIte, Nat.reduceEqDiff, Nat.reduceAdd, Nat.reduceBEq, Nat.reduceMul, Nat.reduceLeDiff, Nat.reduceLT, Nat.reduceMod, Nat.reduceDiv, Nat.reduceSub, reduceCtorEq] | ((first | refine goIf_b (fun h => ?_) (fun h => ?_) | refine goG_b (fun h => ?_) (fun h => ?_) | refine goTG_b (fun h => ?_) (fun h => ?_) | refine goOG_b (fun h => ?_) (fun h => ?_)) <;> ((try simp only [Bool.not_eq_true', Bool.not_eq_false'] at h); (try simp only [h]); (try simp only [decide_eq_true_eq, decide_eq_false_iff_not, bne_iff_ne, bne_eq_false_iff_eq, beq_iff_eq, beq_eq_false_iff_ne, ne_eq, Int.not_lt, Int.not_le, Bool.and_eq_true, Bool.and_eq_false_iff, Bool.or_eq_true, Bool.or_eq_false_iff] at h)) <;> (try (exfalso; omega))))
        refine hJ (j + 1) (by omega) (by omega) _ ?_
        simp -implicitDefEqProofs (maxSteps := 1000000) (disch := (first | omega | (simp only [go_sem] <;> omega) | fail)) only [go_sem, ints, bools, mat, reduceIte, Nat.reduceEqDiff, Nat.reduceAdd, Nat.reduceBEq, Nat.reduceMul, Nat.reduceLeDiff, Nat.reduceLT, Nat.reduceMod, Nat.reduceDiv, Nat.reduceSub, reduceCtorEq]
        rw [firN_same fun i => by rw [← pad8_get (hd8 _)]; exact h2 i]
        rfl
      · rw [h1]
        rw [pad8_len] at hf
        rw [fdB_pad (hd8 _)] at h2
        have hset := firN_set (l := l) (c := c) hf h2
        repeat' (first | simp -implicitDefEqProofs (maxSteps := 1000000) (disch := (first | omega | (simp only [go_sem] <;> omega) | fail)) only [go_sem, ints, bools, mat, reduceIte, Nat.reduceEqDiff, Nat.reduceAdd, Nat.reduceBEq, Nat.reduceMul, Nat.reduceLeDiff, Nat.reduceLT, Nat.reduceMod, Nat.reduceDiv, Nat.reduceSub, reduceCtorEq] | ((first | refine goIf_b (fun h => ?_) (fun h => ?_) | refine goG_b (fun h => ?_) (fun h => ?_) | refine goTG_b (fun h => ?_) (fun h => ?_) | refine goOG_b (fun h => ?_) (fun h => ?_)) <;> ((try simp only [Bool.not_eq_true', Bool.not_eq_false'] at h); (try simp only [h]); (try simp only [decide_eq_true_eq, decide_eq_false_iff_not, bne_iff_ne, bne_eq_false_iff_eq, beq_iff_eq, beq_eq_false_iff_ne, ne_eq, Int.not_lt, Int.not_le, Bool.and_eq_true, Bool.and_eq_false_iff, Bool.or_eq_true, Bool.or_eq_false_iff] at h)) <;> (try (exfalso; omega))))
        refine hJ (j + 1) (by omega) (by omega) _ ?_
        simp -implicitDefEqProofs (maxSteps := 1000000) (disch := (first | omega | (simp only [go_sem] <;> omega) | fail)) only [go_sem, ints, bools, mat, reduceIte, Nat.reduceEqDiff, Nat.reduceAdd, Nat.reduceBEq, Nat.reduceMul, Nat.reduceLeDiff, Nat.reduceLT, Nat.reduceMod, Nat.reduceDiv, Nat.reduceSub, reduceCtorEq]
        rw [hset]; rfl
    · have : j = c.length := by omega
      subst this
      have hF := fun i h => firN_get l c (n := 8) (i := i) c.length h
      generalize hFe : firN l c 8 c.length = F at hF
      have hFl : F.length = 8 := by rw [← hFe]; exact firN_len _ _ _ _
      refine go_loop (fun (m : Nat) => ⟨[(1, .d (ints c)), (2, .ref 0 0), (5, .ref 1 0), (9, .sl 2 0 (bsN l c m).length 1), (35, .d (.agg (F.map db))), (36, .d (di m))], [some (.var [ints l]), some (.var (F.map db)), some (.dat 1 ((bsN l c m).map di))]⟩) (fun m => m ≤ 8) (fun m => 8 - m) 0 ?_ ?_ ?_
      · (simp -implicitDefEqProofs (maxSteps := 1000000) (disch := (first | omega | (simp only [go_sem] <;> omega) | fail)) only [go_sem, ints, bools, mat, reduceIte, Nat.reduceEqDiff, Nat.reduceAdd, Nat.reduceBEq, Nat.reduceMul, Nat.reduceLeDiff, Nat.reduceLT, Nat.reduceMod, Nat.reduceDiv, Nat.reduceSub, reduceCtorEq] <;> rfl)
      · simp
      · rintro m hm M hM
        have hbl := bsN_len hs hcc hl m
        repeat' (first | simp -implicitDefEqProofs (maxSteps := 1000000) (disch := (first | omega | (simp only [go_sem] <;> omega) | fail)) only [go_sem, ints, bools, mat, reduceIte, Nat.reduceEqDiff, Nat.reduceAdd, Nat.reduceBEq, Nat.reduceMul, Nat.reduceLeDiff, Nat.reduceLT, Nat.reduceMod, Nat.reduceDiv, Nat.reduceSub, reduceCtorEq] | ((first | refine goIf_b (fun h => ?_) (fun h => ?_) | refine goG_b (fun h => ?_) (fun h => ?_) | refine goTG_b (fun h => ?_) (fun h => ?_) | refine goOG_b (fun h => ?_) (fun h => ?_)) <;> ((try simp only [Bool.not_eq_true', Bool.not_eq_false'] at h); (try simp only [h]); (try simp only [decide_eq_true_eq, decide_eq_false_iff_not, bne_iff_ne, bne_eq_false_iff_eq, beq_iff_eq, beq_eq_false_iff_ne, ne_eq, Int.not_lt, Int.not_le, Bool.and_eq_true, Bool.and_eq_false_iff, Bool.or_eq_true, Bool.or_eq_false_iff] at h))))
        · have hpv : pvB l c c.length m = true := by rw [← hF m (by omega)]; assumption
          have hml := pvB_lt hpv
          have hbs : ∀ k, bsN l c m ++ (c.take k).filter (finB l c m l.length) = bsN l c m ++ (c.take k).filter (finB l c m l.length) := fun _ => rfl
          have hfl : ∀ k, ((c.take k).filter (finB l c m l.length)).length ≤ k := fun k => Nat.le_trans (List.length_filter_le _ _) (by simp; omega)
          refine go_loop (fun (k : Nat) => ⟨[(1, .d (ints c)), (2, .ref 0 0), (5, .ref 1 0), (9, .sl 2 0 (bsN l c m ++ (c.take k).filter (finB l c m l.length)).length 1), (10, .d (di m)), (35, .d (.agg (F.map db))), (36, .d (di m)), (42, .d (ints c)), (43, .d (di c.length)), (44, .d (di k))], [some (.var [ints l]), some (.var (F.map db)), some (.dat 1 ((bsN l c m ++ (c.take k).filter (finB l c m l.length)).map di))]⟩) (fun k => k ≤ c.length) (fun k => c.length - k) 0 ?_ ?_ ?_
          · simp -implicitDefEqProofs (maxSteps := 1000000) (disch := (first | omega | (simp only [go_sem] <;> omega) | fail)) only [go_sem, ints, bools, mat, reduceIte, Nat.reduceEqDiff, Nat.reduceAdd, Nat.reduceBEq, Nat.reduceMul, Nat.reduceLeDiff, Nat.reduceLT, Nat.reduceMod, Nat.reduceDiv, Nat.reduceSub, reduceCtorEq]; simp
          · simp
          · rintro k hk K hK
            have hfk := hfl k
            have hcw := hcs k
            have hfe := fdI_eq (hd8 (c.getD k 0)) m
            repeat' (first | simp -implicitDefEqProofs (maxSteps := 1000000) (disch := (first | omega | (simp only [go_sem] <;> omega) | fail)) only [go_sem, ints, bools, mat, reduceIte, Nat.reduceEqDiff, Nat.reduceAdd, Nat.reduceBEq, Nat.reduceMul, Nat.reduceLeDiff, Nat.reduceLT, Nat.reduceMod, Nat.reduceDiv, Nat.reduceSub, reduceCtorEq] | ((first | refine goIf_b (fun h => ?_) (fun h => ?_) | refine goG_b (fun h => ?_) (fun h => ?_) | refine goTG_b (fun h => ?_) (fun h => ?_) | refine goOG_b (fun h => ?_) (fun h => ?_)) <;> ((try simp only [Bool.not_eq_true', Bool.not_eq_false'] at h); (try simp only [h]); (try simp only [decide_eq_true_eq, decide_eq_false_iff_not, bne_iff_ne, bne_eq_false_iff_eq, beq_iff_eq, beq_eq_false_iff_ne, ne_eq, Int.not_lt, Int.not_le, Bool.and_eq_true, Bool.and_eq_false_iff, Bool.or_eq_true, Bool.or_eq_false_iff] at h))))
            · first | refine goC_call [.r, .r] (d_impl_digitsOf l hs (c.getD k 0) (hcw (by omega)).1 (hcw (by omega)).2) ?_ | refine goOC_call [.r, .r] (d_impl_digitsOf l hs (c.getD k 0) (hcw (by omega)).1 (hcw (by omega)).2) ?_
              repeat' (first | simp -implicitDefEqProofs (maxSteps := 1000000) (disch := (first | omega | (simp only [go_sem] <;> omega) | fail)) only [go_sem, ints, bools, mat, reduceIte, Nat.reduceEqDiff, Nat.reduceAdd, Nat.reduceBEq, Nat.reduceMul, Nat.reduceLeDiff, Nat.reduceLT, Nat.reduceMod, Nat.reduceDiv, Nat.reduceSub, reduceCtorEq] | ((first | refine goIf_b (fun h => ?_) (fun h => ?_) | refine goG_b (fun h => ?_) (fun h => ?_) | refine goTG_b (fun h => ?_) (fun h => ?_) | refine goOG_b (fun h => ?_) (fun h => ?_)) <;> ((try simp only [Bool.not_eq_true', Bool.not_eq_false'] at h); (try simp only [h]); (try simp only [decide_eq_true_eq, decide_eq_false_iff_not, bne_iff_ne, bne_eq_false_iff_eq, beq_iff_eq, beq_eq_false_iff_ne, ne_eq, Int.not_lt, Int.not_le, Bool.and_eq_true, Bool.and_eq_false_iff, Bool.or_eq_true, Bool.or_eq_false_iff] at h))))
              first | refine goC_call [.r] (d_impl_firstDigit (digM l (c.getD k 0))) ?_ | refine goOC_call [.r] (d_impl_firstDigit (digM l (c.getD k 0))) ?_
              have hpg := fun h => pad8_get (hd8 (c.getD k 0)) h
              have hfs := finI_step l c m (c.getD k 0)
              have hff := finI_fin (c := c) (by omega) (c.getD k 0) hml
              have e0 : finI l c m (c.getD k 0) 0 = (fdB (digM l (c.getD k 0)) m && ((digM l (c.getD k 0)).getD m 0 == 1)) := by simp [finI]
              have hp8 := pad8_len (digM l (c.getD k 0))
              repeat' (first | simp -implicitDefEqProofs (maxSteps := 1000000) (disch := (first | omega | (simp only [go_sem] <;> omega) | fail)) only [go_sem, ints, bools, mat, reduceIte, Nat.reduceEqDiff, Nat.reduceAdd, Nat.reduceBEq, Nat.reduceMul, Nat.reduceLeDiff, Nat.reduceLT, Nat.reduceMod, Nat.reduceDiv, Nat.reduceSub, reduceCtorEq] | ((first | refine goIf_b (fun h => ?_) (fun h => ?_) | refine goG_b (fun h => ?_) (fun h => ?_) | refine goTG_b (fun h => ?_) (fun h => ?_) | refine goOG_b (fun h => ?_) (fun h => ?_)) <;> ((try simp only [Bool.not_eq_true', Bool.not_eq_false'] at h); (try simp only [h]); (try simp only [decide_eq_true_eq, decide_eq_false_iff_not, bne_iff_ne, bne_eq_false_iff_eq, beq_iff_eq, beq_eq_false_iff_ne, ne_eq, Int.not_lt, Int.not_le, Bool.and_eq_true, Bool.and_eq_false_iff, Bool.or_eq_true, Bool.or_eq_false_iff] at h))))
              all_goals refine go_loop (fun (n : Nat) => ⟨[(1, .d (ints c)), (2, .ref 0 0), (5, .ref 1 0), (9, .sl 2 0 (bsN l c m ++ (c.take k).filter (finB l c m l.length)).length 1), (10, .d (di m)), (13, .d (di (c.getD k 0))), (14, .ref 3 0), (15, .d (db (finI l c m (c.getD k 0) n))), (35, .d (.agg (F.map db))), (36, .d (di m)), (42, .d (ints c)), (43, .d (di c.length)), (44, .d (di k)), (61, .d (.agg (F.map db))), (62, .d (di n))], [some (.var [ints l]), some (.var (F.map db)), some (.dat 1 ((bsN l c m ++ (c.take k).filter (finB l c m l.length)).map di)), some (.var ((pad8 (digM l (c.getD k 0))).map dy))]⟩) (fun n => n ≤ 8) (fun n => 8 - n) 0 ?_ (Nat.zero_le _) ?_
              · simp -implicitDefEqProofs (maxSteps := 1000000) (disch := (first | omega | (simp only [go_sem] <;> omega) | fail)) only [go_sem, ints, bools, mat, reduceIte, Nat.reduceEqDiff, Nat.reduceAdd, Nat.reduceBEq, Nat.reduceMul, Nat.reduceLeDiff, Nat.reduceLT, Nat.reduceMod, Nat.reduceDiv, Nat.reduceSub, reduceCtorEq]
                rw [e0, hfe.1 (by assumption), hpg]; rfl
              rotate_left
              · simp -implicitDefEqProofs (maxSteps := 1000000) (disch := (first | omega | (simp only [go_sem] <;> omega) | fail)) only [go_sem, ints, bools, mat, reduceIte, Nat.reduceEqDiff, Nat.reduceAdd, Nat.reduceBEq, Nat.reduceMul, Nat.reduceLeDiff, Nat.reduceLT, Nat.reduceMod, Nat.reduceDiv, Nat.reduceSub, reduceCtorEq]
                rw [e0, show fdB (digM l (c.getD k 0)) m = false from by
                  cases hq : fdB (digM l (c.getD k 0)) m with
                  | false => rfl
                  | true => exact (absurd (hfe.2 hq) (by assumption))]; rfl
              all_goals
                rintro n hn8 N hN
                have hs1 := hfs n
                have hg2 := hpg n
                by_cases hn9 : n < 8
                · have hFn := hF n hn9
                  cases hfin : finI l c m (c.getD k 0) n with
                  | false =>
                    rw [hfin, Bool.false_and] at hs1
                    repeat' (first | simp -implicitDefEqProofs (maxSteps := 1000000) (disch := (first | omega | (simp only [go_sem] <;> omega) | fail)) only [go_sem, ints, bools, mat, reduceIte, Nat.reduceEqDiff, Nat.reduceAdd, Nat.reduceBEq, Nat.reduceMul, Nat.reduceLeDiff, Nat.reduceLT, Nat.reduceMod, Nat.reduceDiv, Nat.reduceSub, reduceCtorEq, hfin] | ((first | refine goIf_b (fun h => ?_) (fun h => ?_) | refine goG_b (fun h => ?_) (fun h => ?_) | refine goTG_b (fun h => ?_) (fun h => ?_) | refine goOG_b (fun h => ?_) (fun h => ?_)) <;> ((try simp only [Bool.not_eq_true', Bool.not_eq_false'] at h); (try simp only [h]); (try simp only [decide_eq_true_eq, decide_eq_false_iff_not, bne_iff_ne, bne_eq_false_iff_eq, beq_iff_eq, beq_eq_false_iff_ne, ne_eq, Int.not_lt, Int.not_le, Bool.and_eq_true, Bool.and_eq_false_iff, Bool.or_eq_true, Bool.or_eq_false_iff] at h)) <;> (try (exfalso; omega))))
                    refine hN (n + 1) (by omega) (by omega) _ ?_
                    simp -implicitDefEqProofs (maxSteps := 1000000) (disch := (first | omega | (simp only [go_sem] <;> omega) | fail)) only [go_sem, ints, bools, mat, reduceIte, Nat.reduceEqDiff, Nat.reduceAdd, Nat.reduceBEq, Nat.reduceMul, Nat.reduceLeDiff, Nat.reduceLT, Nat.reduceMod, Nat.reduceDiv, Nat.reduceSub, reduceCtorEq]
                    rw [hs1]; rfl
                  | true =>
                    rw [hfin, Bool.true_and] at hs1
                    cases hb : F.getD n false with
                    | false =>
                      rw [← hFn, hb] at hs1
                      repeat' (first | simp -implicitDefEqProofs (maxSteps := 1000000) (disch := (first | omega | (simp only [go_sem] <;> omega) | fail)) only [go_sem, ints, bools, mat, reduceIte, Nat.reduceEqDiff, Nat.reduceAdd, Nat.reduceBEq, Nat.reduceMul, Nat.reduceLeDiff, Nat.reduceLT, Nat.reduceMod, Nat.reduceDiv, Nat.reduceSub, reduceCtorEq, hfin, hb] | ((first | refine goIf_b (fun h => ?_) (fun h => ?_) | refine goG_b (fun h => ?_) (fun h => ?_) | refine goTG_b (fun h => ?_) (fun h => ?_) | refine goOG_b (fun h => ?_) (fun h => ?_)) <;> ((try simp only [Bool.not_eq_true', Bool.not_eq_false'] at h); (try simp only [h]); (try simp only [decide_eq_true_eq, decide_eq_false_iff_not, bne_iff_ne, bne_eq_false_iff_eq, beq_iff_eq, beq_eq_false_iff_ne, ne_eq, Int.not_lt, Int.not_le, Bool.and_eq_true, Bool.and_eq_false_iff, Bool.or_eq_true, Bool.or_eq_false_iff] at h)) <;> (try (exfalso; omega))))
                      refine hN (n + 1) (by omega) (by omega) _ ?_
                      simp -implicitDefEqProofs (maxSteps := 1000000) (disch := (first | omega | (simp only [go_sem] <;> omega) | fail)) only [go_sem, ints, bools, mat, reduceIte, Nat.reduceEqDiff, Nat.reduceAdd, Nat.reduceBEq, Nat.reduceMul, Nat.reduceLeDiff, Nat.reduceLT, Nat.reduceMod, Nat.reduceDiv, Nat.reduceSub, reduceCtorEq]
                      rw [hs1]; rfl
                    | true =>
                      rw [← hFn, hb] at hs1
                      repeat' (first | simp -implicitDefEqProofs (maxSteps := 1000000) (disch := (first | omega | (simp only [go_sem] <;> omega) | fail)) only [go_sem, ints, bools, mat, reduceIte, Nat.reduceEqDiff, Nat.reduceAdd, Nat.reduceBEq, Nat.reduceMul, Nat.reduceLeDiff, Nat.reduceLT, Nat.reduceMod, Nat.reduceDiv, Nat.reduceSub, reduceCtorEq, hfin, hb] | ((first | refine goIf_b (fun h => ?_) (fun h => ?_) | refine goG_b (fun h => ?_) (fun h => ?_) | refine goTG_b (fun h => ?_) (fun h => ?_) | refine goOG_b (fun h => ?_) (fun h => ?_)) <;> ((try simp only [Bool.not_eq_true', Bool.not_eq_false'] at h); (try simp only [h]); (try simp only [decide_eq_true_eq, decide_eq_false_iff_not, bne_iff_ne, bne_eq_false_iff_eq, beq_iff_eq, beq_eq_false_iff_ne, ne_eq, Int.not_lt, Int.not_le, Bool.and_eq_true, Bool.and_eq_false_iff, Bool.or_eq_true, Bool.or_eq_false_iff] at h)) <;> (try (exfalso; omega))))
                      all_goals
                        refine hN (n + 1) (by omega) (by omega) _ ?_
                        simp -implicitDefEqProofs (maxSteps := 1000000) (disch := (first | omega | (simp only [go_sem] <;> omega) | fail)) only [go_sem, ints, bools, mat, reduceIte, Nat.reduceEqDiff, Nat.reduceAdd, Nat.reduceBEq, Nat.reduceMul, Nat.reduceLeDiff, Nat.reduceLT, Nat.reduceMod, Nat.reduceDiv, Nat.reduceSub, reduceCtorEq]
                        rw [hs1]
                        first | (rw [show decide (n = m) = true from decide_eq_true (by omega)]; rfl) | (rw [show decide (n = m) = false from decide_eq_false (by omega), hpg]; rfl)
                · have hn0 : n = 8 := by omega
                  subst hn0
                  rw [hff]
                  cases hfin : finB l c m l.length (c.getD k 0) with
                  | false =>
                    repeat' (first | simp -implicitDefEqProofs (maxSteps := 1000000) (disch := (first | omega | (simp only [go_sem] <;> omega) | fail)) only [go_sem, ints, bools, mat, reduceIte, Nat.reduceEqDiff, Nat.reduceAdd, Nat.reduceBEq, Nat.reduceMul, Nat.reduceLeDiff, Nat.reduceLT, Nat.reduceMod, Nat.reduceDiv, Nat.reduceSub, reduceCtorEq, hfin] | ((first | refine goIf_b (fun h => ?_) (fun h => ?_) | refine goG_b (fun h => ?_) (fun h => ?_) | refine goTG_b (fun h => ?_) (fun h => ?_) | refine goOG_b (fun h => ?_) (fun h => ?_)) <;> ((try simp only [Bool.not_eq_true', Bool.not_eq_false'] at h); (try simp only [h]); (try simp only [decide_eq_true_eq, decide_eq_false_iff_not, bne_iff_ne, bne_eq_false_iff_eq, beq_iff_eq, beq_eq_false_iff_ne, ne_eq, Int.not_lt, Int.not_le, Bool.and_eq_true, Bool.and_eq_false_iff, Bool.or_eq_true, Bool.or_eq_false_iff] at h)) <;> (try (exfalso; omega))))
                    refine hK (k + 1) (by omega) (by omega) _ ?_
                    simp -implicitDefEqProofs (maxSteps := 1000000) (disch := (first | omega | (simp only [go_sem] <;> omega) | fail)) only [go_sem, ints, bools, mat, reduceIte, Nat.reduceEqDiff, Nat.reduceAdd, Nat.reduceBEq, Nat.reduceMul, Nat.reduceLeDiff, Nat.reduceLT, Nat.reduceMod, Nat.reduceDiv, Nat.reduceSub, reduceCtorEq]
                    rw [take_one c (by omega), List.filter_append]; simp [hfin, -List.getD_eq_getElem?_getD]; try omega
                  | true =>
                    repeat' (first | simp -implicitDefEqProofs (maxSteps := 1000000) (disch := (first | omega | (simp only [go_sem] <;> omega) | fail)) only [go_sem, ints, bools, mat, reduceIte, Nat.reduceEqDiff, Nat.reduceAdd, Nat.reduceBEq, Nat.reduceMul, Nat.reduceLeDiff, Nat.reduceLT, Nat.reduceMod, Nat.reduceDiv, Nat.reduceSub, reduceCtorEq, hfin] | ((first | refine goIf_b (fun h => ?_) (fun h => ?_) | refine goG_b (fun h => ?_) (fun h => ?_) | refine goTG_b (fun h => ?_) (fun h => ?_) | refine goOG_b (fun h => ?_) (fun h => ?_)) <;> ((try simp only [Bool.not_eq_true', Bool.not_eq_false'] at h); (try simp only [h]); (try simp only [decide_eq_true_eq, decide_eq_false_iff_not, bne_iff_ne, bne_eq_false_iff_eq, beq_iff_eq, beq_eq_false_iff_ne, ne_eq, Int.not_lt, Int.not_le, Bool.and_eq_true, Bool.and_eq_false_iff, Bool.or_eq_true, Bool.or_eq_false_iff] at h)) <;> (try (exfalso; omega))))
                    refine hK (k + 1) (by omega) (by omega) _ ?_
                    simp -implicitDefEqProofs (maxSteps := 1000000) (disch := (first | omega | (simp only [go_sem] <;> omega) | fail)) only [go_sem, ints, bools, mat, reduceIte, Nat.reduceEqDiff, Nat.reduceAdd, Nat.reduceBEq, Nat.reduceMul, Nat.reduceLeDiff, Nat.reduceLT, Nat.reduceMod, Nat.reduceDiv, Nat.reduceSub, reduceCtorEq]
                    rw [take_one c (by omega), List.filter_append]; simp [hfin, -List.getD_eq_getElem?_getD]; try omega
            · have : k = c.length := by omega
              subst this
              refine hM (m + 1) (by omega) (by omega) _ ?_
              simp -implicitDefEqProofs (maxSteps := 1000000) (disch := (first | omega | (simp only [go_sem] <;> omega) | fail)) only [go_sem, ints, bools, mat, reduceIte, Nat.reduceEqDiff, Nat.reduceAdd, Nat.reduceBEq, Nat.reduceMul, Nat.reduceLeDiff, Nat.reduceLT, Nat.reduceMod, Nat.reduceDiv, Nat.reduceSub, reduceCtorEq]
              rw [bsN, if_pos hpv]; simp
        · have hpv : ¬ pvB l c c.length m = true := by rw [← hF m (by omega)]; simp_all
          refine hM (m + 1) (by omega) (by omega) _ ?_
          simp -implicitDefEqProofs (maxSteps := 1000000) (disch := (first | omega | (simp only [go_sem] <;> omega) | fail)) only [go_sem, ints, bools, mat, reduceIte, Nat.reduceEqDiff, Nat.reduceAdd, Nat.reduceBEq, Nat.reduceMul, Nat.reduceLeDiff, Nat.reduceLT, Nat.reduceMod, Nat.reduceDiv, Nat.reduceSub, reduceCtorEq]
          rw [bsN, if_neg hpv, List.append_nil]; rfl
        · have : m = 8 := by omega
          subst this
          rw [bsN_pad 8 (by omega)]
/-- u, and v so many times. -/
def addW (l : List Int) (u v : Int) : Nat → Int
  | 0 => u
  | m + 1 => sumW l (addW l u v m) v
theorem addW_dig {l : List Int} (hz : szs l) (u v : Int) {i : Nat} (h : i < l.length) : ∀ m : Nat, (digM l (addW l u v m)).getD i 0 = ((digM l u).getD i 0 + m * (digM l v).getD i 0) % l.getD i 0
  | 0 => by
    have := dig_lt hz u h
    rw [addW, Int.natCast_zero, Int.zero_mul, Int.add_zero, Int.emod_eq_of_lt this.1 this.2]
  | m + 1 => by
    rw [addW, sumW_dig hz _ v h, addW_dig hz u v h m, Int.emod_add_emod, Int.natCast_add, Int.natCast_one, Int.add_mul, Int.one_mul, Int.add_assoc]
theorem addW_in {l c : List Int} (hs : isSpaceM l = true) (hcc : isCodeM l c = true) (hl : linB l c = true) {u v : Int} (hu : u ∈ c) (hv : v ∈ c) : ∀ m, addW l u v m ∈ c
  | 0 => hu
  | m + 1 => lin_clo hs hcc hl (addW_in hs hcc hl hu hv m) hv
theorem pq {l c : List Int} (hs : isSpaceM l = true) (hl : linB l c = true) {i : Nat} (h : i < l.length) : l.getD i 0 = l.getD 0 0 ∧ 2 ≤ l.getD 0 0 ∧ l.getD 0 0 ≤ 3 := by
  have h1 := (plainM_ok l).1 (lin_plain hl) i h
  have h2 := isSpaceM_szs hs i h
  omega
theorem piv_one {l c : List Int} (hs : isSpaceM l = true) (hcc : isCodeM l c = true) (hl : linB l c = true) {t : Nat} (h : pvB l c c.length t = true) : ∃ b, b ∈ c ∧ (digM l b).getD t 0 = 1 ∧ ∀ j, j < t → (digM l b).getD j 0 = 0 := by
  have ht := pvB_lt h
  rw [pvB, List.any_eq_true] at h
  obtain ⟨k, hk, h⟩ := h
  have hk := List.mem_range.1 hk
  obtain ⟨h1, h2⟩ := fdB_ok.1 h
  have hu := mem_getD hk
  generalize c.getD k 0 = u at h1 h2 hu
  have hz := isSpaceM_szs hs
  have hd := dig_lt hz u ht
  have hq := pq hs hl ht
  by_cases e : (digM l u).getD t 0 = 1
  · exact ⟨u, hu, e, h2⟩
  · refine ⟨addW l u u 1, addW_in hs hcc hl hu hu 1, ?_, fun j hj => ?_⟩
    · have e2 : (digM l u).getD t 0 = 2 := by omega
      rw [addW_dig hz u u ht, e2, hq.1, show l.getD 0 0 = 3 by omega]; rfl
    · rw [addW_dig hz u u (by omega), h2 j hj, Int.mul_zero, Int.add_zero, Int.zero_emod]
/-- Taking away b so often that the digit at t becomes 0. -/
theorem kill {l c : List Int} (hs : isSpaceM l = true) (hcc : isCodeM l c = true) (hl : linB l c = true) {t : Nat} (ht : t < l.length) {u b : Int} (hu : u ∈ c) (hb : b ∈ c) (h1 : (digM l b).getD t 0 = 1) (h2 : ∀ j, j < t → (digM l b).getD j 0 = 0) :
    ∃ m : Nat, addW l u b m ∈ c ∧ (digM l (addW l u b m)).getD t 0 = 0 ∧ ∀ j, j < t → (digM l (addW l u b m)).getD j 0 = (digM l u).getD j 0 := by
  have hz := isSpaceM_szs hs
  have hd := dig_lt hz u ht
  have hq := pq hs hl ht
  refine ⟨(l.getD t 0 - (digM l u).getD t 0).toNat, addW_in hs hcc hl hu hb _, ?_, fun j hj => ?_⟩
  · rw [addW_dig hz u b ht, h1, Int.mul_one, Int.toNat_of_nonneg (by omega), show (digM l u).getD t 0 + (l.getD t 0 - (digM l u).getD t 0) = l.getD t 0 by omega, Int.emod_self]
  · rw [addW_dig hz u b (by omega), h2 j hj, Int.mul_zero, Int.add_zero]
    have := dig_lt hz u (show j < l.length by omega)
    exact Int.emod_eq_of_lt this.1 this.2
theorem fin_ex {l c : List Int} (hs : isSpaceM l = true) (hcc : isCodeM l c = true) (hl : linB l c = true) {i : Nat} (h : pvB l c c.length i = true) : ∀ k, i + 1 + k ≤ l.length →
    ∃ w, w ∈ c ∧ (digM l w).getD i 0 = 1 ∧ (∀ j, j < i → (digM l w).getD j 0 = 0) ∧ ∀ j, i < j → j < i + 1 + k → pvB l c c.length j = true → (digM l w).getD j 0 = 0
  | 0, _ => by
    obtain ⟨b, h1, h2, h3⟩ := piv_one hs hcc hl h
    exact ⟨b, h1, h2, h3, fun j a b => by omega⟩
  | k + 1, hk => by
    obtain ⟨w, h1, h2, h3, h4⟩ := fin_ex hs hcc hl h k (by omega)
    by_cases hp : pvB l c c.length (i + 1 + k) = true
    · obtain ⟨b, b1, b2, b3⟩ := piv_one hs hcc hl hp
      obtain ⟨m, m1, m2, m3⟩ := kill hs hcc hl (by omega) h1 b1 b2 b3
      refine ⟨_, m1, by rw [m3 i (by omega)]; exact h2, fun j hj => by rw [m3 j (by omega)]; exact h3 j hj, fun j hj1 hj2 hjp => ?_⟩
      by_cases e : j = i + 1 + k
      · rw [e]; exact m2
      · rw [m3 j (by omega)]; exact h4 j hj1 (by omega) hjp
    · refine ⟨w, h1, h2, h3, fun j hj1 hj2 hjp => ?_⟩
      by_cases e : j = i + 1 + k
      · rw [e] at hjp; exact (hp hjp).elim
      · exact h4 j hj1 (by omega) hjp
theorem fin_ex2 {l c : List Int} (hs : isSpaceM l = true) (hcc : isCodeM l c = true) (hl : linB l c = true) {i : Nat} (h : pvB l c c.length i = true) : ∃ w, w ∈ c ∧ finB l c i l.length w = true := by
  have hi := pvB_lt h
  obtain ⟨w, h1, h2, h3, h4⟩ := fin_ex hs hcc hl h (l.length - (i + 1)) (by omega)
  refine ⟨w, h1, finB_ok.2 ⟨h2, fun j hj hh => ?_⟩⟩
  rcases hh with hh | ⟨hh, he⟩
  · exact h3 j hh
  · by_cases hji : j < i
    · exact h3 j hji
    · exact h4 j (by omega) (by omega) hh
theorem bsN_mem {l c : List Int} {x : Int} : ∀ m, x ∈ bsN l c m ↔ ∃ i, i < m ∧ pvB l c c.length i = true ∧ x ∈ c ∧ finB l c i l.length x = true
  | 0 => by simp [bsN]
  | m + 1 => by
    rw [bsN, List.mem_append, bsN_mem m]
    constructor
    · rintro (⟨i, a, b⟩ | h)
      · exact ⟨i, by omega, b⟩
      · split at h
        · rename_i hp; obtain ⟨a, b⟩ := List.mem_filter.1 h; exact ⟨m, by omega, hp, a, b⟩
        · cases h
    · rintro ⟨i, a, b, c1, d⟩
      by_cases e : i = m
      · subst e; right; rw [if_pos b]; exact List.mem_filter.2 ⟨c1, d⟩
      · exact .inl ⟨i, by omega, b, c1, d⟩
theorem mul_mod_l (x y q : Int) : ((x % q) * y) % q = (x * y) % q := by
  rw [Int.mul_emod, Int.emod_emod, ← Int.mul_emod]
theorem sN_lin {l : List Int} (hz : szs l) (q : Int) (hq : ∀ i, i < l.length → l.getD i 0 = q) (u b : Int) (m : Nat) (d : List Int) : ∀ n, n ≤ l.length → sN (digM l (addW l u b m)) d n % q = (sN (digM l u) d n + m * sN (digM l b) d n) % q
  | 0, _ => by simp [sN]
  | n + 1, h => by
    rw [sN, sN, sN, addW_dig hz u b (by omega), hq n (by omega), Int.add_emod, sN_lin hz q hq u b m d n (by omega), mul_mod_l, ← Int.add_emod]
    congr 1
    rw [Int.add_mul, Int.mul_add, Int.mul_assoc]; omega
theorem sN_zero {a b : List Int} : ∀ n, (∀ i, i < n → a.getD i 0 = 0) → sN a b n = 0
  | 0, _ => rfl
  | n + 1, h => by rw [sN, sN_zero n fun i hi => h i (by omega), h n (by omega), Int.zero_mul, Int.add_zero]
theorem orth_all {l c : List Int} (hs : isSpaceM l = true) (hcc : isCodeM l c = true) (hl : linB l c = true) (d : List Int) (hb : ∀ t, pvB l c c.length t = true → ∃ b, b ∈ c ∧ (digM l b).getD t 0 = 1 ∧ (∀ j, j < t → (digM l b).getD j 0 = 0) ∧ sN (digM l b) d l.length % l.getD 0 0 = 0) :
    ∀ k t, t + k = l.length → ∀ u, u ∈ c → (∀ j, j < t → (digM l u).getD j 0 = 0) → sN (digM l u) d l.length % l.getD 0 0 = 0
  | 0, t, h, u, hu, hj => by rw [sN_zero _ fun i hi => hj i (by omega), Int.zero_emod]
  | k + 1, t, h, u, hu, hj => by
    by_cases e : (digM l u).getD t 0 = 0
    · exact orth_all hs hcc hl d hb k (t + 1) (by omega) u hu (fun j hj' => by
        by_cases hjt : j = t
        · rw [hjt]; exact e
        · exact hj j (by omega))
    · obtain ⟨b, b1, b2, b3, b4⟩ := hb t (pvB_in hu (fdB_ok.2 ⟨e, hj⟩))
      obtain ⟨m, m1, m2, m3⟩ := kill hs hcc hl (by omega) hu b1 b2 b3
      have ih := orth_all hs hcc hl d hb k (t + 1) (by omega) _ m1 (fun j hj' => by
        by_cases hjt : j = t
        · rw [hjt]; exact m2
        · rw [m3 j (by omega)]; exact hj j (by omega))
      rw [sN_lin (isSpaceM_szs hs) (l.getD 0 0) (fun i hi => (pq hs hl hi).1) u b m d l.length (Nat.le_refl _)] at ih
      rw [← Int.dvd_iff_emod_eq_zero] at ih b4 ⊢
      exact (Int.dvd_add_left (Int.dvd_mul_of_dvd_right b4)).1 ih
/-- The words whose products with all words of a code are 0. -/
def orB (l : List Int) (c : List Int) (w : Int) : Bool := c.all fun u => sN (digM l u) (digM l w) l.length % l.getD 0 0 == 0
abbrev duM (l c : List Int) : List Int := (allW l).filter (orB l c)
theorem orB_bs {l c : List Int} (hs : isSpaceM l = true) (hcc : isCodeM l c = true) (hl : linB l c = true) (w : Int) : orB l (bsM l c) w = orB l c w := by
  have hiff : orB l (bsM l c) w = true ↔ orB l c w = true := by
    simp only [orB, List.all_eq_true, beq_iff_eq]
    constructor
    · intro h u hu
      refine orth_all hs hcc hl (digM l w) (fun t ht => ?_) l.length 0 (by omega) u hu (fun j hj => by omega)
      obtain ⟨b, b1, b2⟩ := fin_ex2 hs hcc hl ht
      obtain ⟨e1, e2⟩ := finB_ok.1 b2
      exact ⟨b, b1, e1, fun j hj => e2 j (by have := pvB_lt ht; omega) (.inl hj), h b ((bsN_mem _).2 ⟨t, pvB_lt ht, ht, b1, b2⟩)⟩
    · intro h u hu
      obtain ⟨_, _, _, hc, _⟩ := (bsN_mem _).1 hu
      exact h u hc
  cases h1 : orB l (bsM l c) w with
  | true => exact (hiff.1 h1).symm
  | false =>
    cases h2 : orB l c w with
    | false => rfl
    | true => rw [hiff.2 h2] at h1; cases h1
theorem d_impl_dual_1_1 (l a b : List Int) (hs : isSpaceM l = true) (ha : a.length = l.length) (hb : b.length = l.length) (ha4 : in4 a) (hb4 : in4 b) :
    Den PA f_impl_dual_1_1 [.d (dig b), .box [ints l], .box ((pad8 a).map dy)] [.any, .any, .any] (.d (db (sN a b l.length % l.getD 0 0 != 0))) := by
  have hn := isSpaceM_n hs
  have ea := pad8_len a
  have eb := pad8_len b
  refine den_go [] l_impl_dual_1_1 ?_
  repeat' (first | simp -implicitDefEqProofs (maxSteps := 1000000) (disch := (first | omega | (simp only [go_sem] <;> omega) | fail)) only [go_sem, ints, bools, mat, reduceIte, Nat.reduceEqDiff, Nat.reduceAdd, Nat.reduceBEq, Nat.reduceMul, Nat.reduceLeDiff, Nat.reduceLT, Nat.reduceMod, Nat.reduceDiv, Nat.reduceSub, reduceCtorEq, c_impl_dual_1_1] | ((first | refine goIf_b (fun h => ?_) (fun h => ?_) | refine goG_b (fun h => ?_) (fun h => ?_) | refine goTG_b (fun h => ?_) (fun h => ?_) | refine goOG_b (fun h => ?_) (fun h => ?_)) <;> ((try simp only [Bool.not_eq_true', Bool.not_eq_false'] at h); (try simp only [h]); (try simp only [decide_eq_true_eq, decide_eq_false_iff_not, bne_iff_ne, bne_eq_false_iff_eq, beq_iff_eq, beq_eq_false_iff_ne, ne_eq, Int.not_lt, Int.not_le, Bool.and_eq_true, Bool.and_eq_false_iff, Bool.or_eq_true, Bool.or_eq_false_iff] at h))))
  first | refine goC_call [.r, .r, .r] (d_impl_products l a b hs (by omega) (by omega) ha4 hb4) ?_ | refine goOC_call [.r, .r, .r] (d_impl_products l a b hs (by omega) (by omega) ha4 hb4) ?_
  repeat' (first | simp -implicitDefEqProofs (maxSteps := 1000000) (disch := (first | omega | (simp only [go_sem] <;> omega) | fail)) only [go_sem, ints, bools, mat, reduceIte, Nat.reduceEqDiff, Nat.reduceAdd, Nat.reduceBEq, Nat.reduceMul, Nat.reduceLeDiff, Nat.reduceLT, Nat.reduceMod, Nat.reduceDiv, Nat.reduceSub, reduceCtorEq] | ((first | refine goIf_b (fun h => ?_) (fun h => ?_) | refine goG_b (fun h => ?_) (fun h => ?_) | refine goTG_b (fun h => ?_) (fun h => ?_) | refine goOG_b (fun h => ?_) (fun h => ?_)) <;> ((try simp only [Bool.not_eq_true', Bool.not_eq_false'] at h); (try simp only [h]); (try simp only [decide_eq_true_eq, decide_eq_false_iff_not, bne_iff_ne, bne_eq_false_iff_eq, beq_iff_eq, beq_eq_false_iff_ne, ne_eq, Int.not_lt, Int.not_le, Bool.and_eq_true, Bool.and_eq_false_iff, Bool.or_eq_true, Bool.or_eq_false_iff] at h))))
  rw [ha]
theorem d_impl_dual_1 (l a : List Int) (bs : List Int) (hs : isSpaceM l = true) (ha : a.length = l.length) (ha4 : in4 a) (hbs : bs.length < 1048577) :
    Den PA f_impl_dual_1 [.d (dig a), .box [.lst 8 (digs (digsM l bs))], .box [ints l]] [.any, .any, .any] (.d (db (!((digsM l bs).any fun b => sN a b l.length % l.getD 0 0 != 0)))) := by
  have hn := isSpaceM_n hs
  have ea := pad8_len a
  have hz := isSpaceM_szs hs
  refine den_go [] l_impl_dual_1 ?_
  repeat' (first | simp -implicitDefEqProofs (maxSteps := 1000000) (disch := (first | omega | (simp only [go_sem] <;> omega) | fail)) only [go_sem, ints, bools, mat, reduceIte, Nat.reduceEqDiff, Nat.reduceAdd, Nat.reduceBEq, Nat.reduceMul, Nat.reduceLeDiff, Nat.reduceLT, Nat.reduceMod, Nat.reduceDiv, Nat.reduceSub, reduceCtorEq, c_impl_dual_1] | ((first | refine goIf_b (fun h => ?_) (fun h => ?_) | refine goG_b (fun h => ?_) (fun h => ?_) | refine goTG_b (fun h => ?_) (fun h => ?_) | refine goOG_b (fun h => ?_) (fun h => ?_)) <;> ((try simp only [Bool.not_eq_true', Bool.not_eq_false'] at h); (try simp only [h]); (try simp only [decide_eq_true_eq, decide_eq_false_iff_not, bne_iff_ne, bne_eq_false_iff_eq, beq_iff_eq, beq_eq_false_iff_ne, ne_eq, Int.not_lt, Int.not_le, Bool.and_eq_true, Bool.and_eq_false_iff, Bool.or_eq_true, Bool.or_eq_false_iff] at h))))
  first | refine goC_call [.r, .g (fnD l.length fun b => sN a b l.length % l.getD 0 0 != 0)] (d_slices_ContainsFunc_dig (digsM l bs) (fun b => sN a b l.length % l.getD 0 0 != 0) _ (fun i hi => by rw [digsM_len] at hi; rw [digsM_get l _ hi]; exact fnD_mk hs (fun b => sN a b l.length % l.getD 0 0 != 0) _) (by rw [digsM_len]; omega)) ?_ | refine goOC_call [.r, .g (fnD l.length fun b => sN a b l.length % l.getD 0 0 != 0)] (d_slices_ContainsFunc_dig (digsM l bs) (fun b => sN a b l.length % l.getD 0 0 != 0) _ (fun i hi => by rw [digsM_len] at hi; rw [digsM_get l _ hi]; exact fnD_mk hs (fun b => sN a b l.length % l.getD 0 0 != 0) _) (by rw [digsM_len]; omega)) ?_
  repeat' (first | simp -implicitDefEqProofs (maxSteps := 1000000) (disch := (first | omega | (simp only [go_sem] <;> omega) | fail)) only [go_sem, ints, bools, mat, reduceIte, Nat.reduceEqDiff, Nat.reduceAdd, Nat.reduceBEq, Nat.reduceMul, Nat.reduceLeDiff, Nat.reduceLT, Nat.reduceMod, Nat.reduceDiv, Nat.reduceSub, reduceCtorEq] | ((first | refine goIf_b (fun h => ?_) (fun h => ?_) | refine goG_b (fun h => ?_) (fun h => ?_) | refine goTG_b (fun h => ?_) (fun h => ?_) | refine goOG_b (fun h => ?_) (fun h => ?_)) <;> ((try simp only [Bool.not_eq_true', Bool.not_eq_false'] at h); (try simp only [h]); (try simp only [decide_eq_true_eq, decide_eq_false_iff_not, bne_iff_ne, bne_eq_false_iff_eq, beq_iff_eq, beq_eq_false_iff_ne, ne_eq, Int.not_lt, Int.not_le, Bool.and_eq_true, Bool.and_eq_false_iff, Bool.or_eq_true, Bool.or_eq_false_iff] at h))))
  refine chk_intro (fnOK_mk (d_impl_dual_1_1 l a a hs ha ha ha4 ha4).1 [[ints l], (pad8 a).map dy] rfl fun ds r hgg => ?_) ?_
  · obtain ⟨b, hb, hb4, rfl, rfl⟩ := hgg
    exact ⟨_, d_impl_dual_1_1 l a b hs ha hb ha4 hb4⟩
  repeat' (first | simp -implicitDefEqProofs (maxSteps := 1000000) (disch := (first | omega | (simp only [go_sem] <;> omega) | fail)) only [go_sem, ints, bools, mat, reduceIte, Nat.reduceEqDiff, Nat.reduceAdd, Nat.reduceBEq, Nat.reduceMul, Nat.reduceLeDiff, Nat.reduceLT, Nat.reduceMod, Nat.reduceDiv, Nat.reduceSub, reduceCtorEq] | ((first | refine goIf_b (fun h => ?_) (fun h => ?_) | refine goG_b (fun h => ?_) (fun h => ?_) | refine goTG_b (fun h => ?_) (fun h => ?_) | refine goOG_b (fun h => ?_) (fun h => ?_)) <;> ((try simp only [Bool.not_eq_true', Bool.not_eq_false'] at h); (try simp only [h]); (try simp only [decide_eq_true_eq, decide_eq_false_iff_not, bne_iff_ne, bne_eq_false_iff_eq, beq_iff_eq, beq_eq_false_iff_ne, ne_eq, Int.not_lt, Int.not_le, Bool.and_eq_true, Bool.and_eq_false_iff, Bool.or_eq_true, Bool.or_eq_false_iff] at h))))
/-- Whether the products with all words of a list are 0. -/
def duP (l c a : List Int) : Bool := !((digsM l c).any fun b => sN a b l.length % l.getD 0 0 != 0)
theorem d_impl_dual_1p (l a : List Int) (bs : List Int) (hs : isSpaceM l = true) (ha : a.length = l.length) (ha4 : in4 a) (hbs : bs.length < 1048577) :
    Den PA f_impl_dual_1 [.d (dig a), .box [.lst 8 (digs (digsM l bs))], .box [ints l]] [.any, .any, .any] (.d (db (duP l bs a))) := d_impl_dual_1 l a bs hs ha ha4 hbs
theorem orB_any (l c : List Int) (w : Int) : (!((digsM l c).any fun b => sN (digM l w) b l.length % l.getD 0 0 != 0)) = orB l c w := by
  rw [Bool.eq_iff_iff]
  simp only [orB, Bool.not_eq_true', List.any_eq_false, List.all_eq_true, beq_iff_eq, bne_iff_ne, Decidable.not_not, digsM]
  constructor
  · intro h u hu
    rw [sN_comm]; exact h _ (List.mem_map.2 ⟨u, hu, rfl⟩)
  · intro h b hb
    obtain ⟨u, hu, rfl⟩ := List.mem_map.1 hb
    rw [sN_comm]; exact h u hu
theorem d_impl_dual (l c : List Int) (hs : isSpaceM l = true) (hcc : isCodeM l c = true) (hl : linB l c = true) (hc : c.length < 1048577) : Den PA f_impl_dual [.d (.agg [ints l]), .d (ints c)] [.any, .any] (.own 1 ((duM l c).map di)) := by
  have hn := isSpaceM_n hs
  have hz := isSpaceM_szs hs
  have hcs := code_small hs hcc
  have hbl : (bsM l c).length ≤ l.length := bsN_len hs hcc hl l.length
  have e : duM l c = thoseM l (duP l (bsM l c)) := by
    unfold duM thoseM
    congr 1; funext w
    rw [← orB_bs hs hcc hl]; exact (orB_any l (bsM l c) w).symm
  have hbm : ∀ j, j < (bsM l c).length → 0 ≤ (bsM l c).getD j 0 ∧ (bsM l c).getD j 0 < 1000000000000 := fun j hj => by
    obtain ⟨_, _, _, h, _⟩ := (bsN_mem _).1 (mem_getD hj)
    have h1 : 0 ≤ (bsM l c).getD j 0 ∧ (bsM l c).getD j 0 < prodM l := code_mem hcc h
    have h2 := isSpaceM_prod hs
    omega
  refine den_go [] l_impl_dual ?_
  repeat' (first | simp -implicitDefEqProofs (maxSteps := 1000000) (disch := (first | omega | (simp only [go_sem] <;> omega) | fail)) only [go_sem, ints, bools, mat, reduceIte, Nat.reduceEqDiff, Nat.reduceAdd, Nat.reduceBEq, Nat.reduceMul, Nat.reduceLeDiff, Nat.reduceLT, Nat.reduceMod, Nat.reduceDiv, Nat.reduceSub, reduceCtorEq, c_impl_dual] | ((first | refine goIf_b (fun h => ?_) (fun h => ?_) | refine goG_b (fun h => ?_) (fun h => ?_) | refine goTG_b (fun h => ?_) (fun h => ?_) | refine goOG_b (fun h => ?_) (fun h => ?_)) <;> ((try simp only [Bool.not_eq_true', Bool.not_eq_false'] at h); (try simp only [h]); (try simp only [decide_eq_true_eq, decide_eq_false_iff_not, bne_iff_ne, bne_eq_false_iff_eq, beq_iff_eq, beq_eq_false_iff_ne, ne_eq, Int.not_lt, Int.not_le, Bool.and_eq_true, Bool.and_eq_false_iff, Bool.or_eq_true, Bool.or_eq_false_iff] at h))))
  rw [goS_two]
  refine ⟨?_, ?_⟩
  · repeat' (first | simp -implicitDefEqProofs (maxSteps := 1000000) (disch := (first | omega | (simp only [go_sem] <;> omega) | fail)) only [go_sem, ints, bools, mat, reduceIte, Nat.reduceEqDiff, Nat.reduceAdd, Nat.reduceBEq, Nat.reduceMul, Nat.reduceLeDiff, Nat.reduceLT, Nat.reduceMod, Nat.reduceDiv, Nat.reduceSub, reduceCtorEq] | ((first | refine goIf_b (fun h => ?_) (fun h => ?_) | refine goG_b (fun h => ?_) (fun h => ?_) | refine goTG_b (fun h => ?_) (fun h => ?_) | refine goOG_b (fun h => ?_) (fun h => ?_)) <;> ((try simp only [Bool.not_eq_true', Bool.not_eq_false'] at h); (try simp only [h]); (try simp only [decide_eq_true_eq, decide_eq_false_iff_not, bne_iff_ne, bne_eq_false_iff_eq, beq_iff_eq, beq_eq_false_iff_ne, ne_eq, Int.not_lt, Int.not_le, Bool.and_eq_true, Bool.and_eq_false_iff, Bool.or_eq_true, Bool.or_eq_false_iff] at h))))
    first | refine goC_call [.r, .r] (d_impl_basis l c hs hcc hl hc) ?_ | refine goOC_call [.r, .r] (d_impl_basis l c hs hcc hl hc) ?_
    repeat' (first | simp -implicitDefEqProofs (maxSteps := 1000000) (disch := (first | omega | (simp only [go_sem] <;> omega) | fail)) only [go_sem, ints, bools, mat, reduceIte, Nat.reduceEqDiff, Nat.reduceAdd, Nat.reduceBEq, Nat.reduceMul, Nat.reduceLeDiff, Nat.reduceLT, Nat.reduceMod, Nat.reduceDiv, Nat.reduceSub, reduceCtorEq] | ((first | refine goIf_b (fun h => ?_) (fun h => ?_) | refine goG_b (fun h => ?_) (fun h => ?_) | refine goTG_b (fun h => ?_) (fun h => ?_) | refine goOG_b (fun h => ?_) (fun h => ?_)) <;> ((try simp only [Bool.not_eq_true', Bool.not_eq_false'] at h); (try simp only [h]); (try simp only [decide_eq_true_eq, decide_eq_false_iff_not, bne_iff_ne, bne_eq_false_iff_eq, beq_iff_eq, beq_eq_false_iff_ne, ne_eq, Int.not_lt, Int.not_le, Bool.and_eq_true, Bool.and_eq_false_iff, Bool.or_eq_true, Bool.or_eq_false_iff] at h))))
    rw [goS_two]
    refine ⟨?_, ?_⟩
    · repeat' (first | simp -implicitDefEqProofs (maxSteps := 1000000) (disch := (first | omega | (simp only [go_sem] <;> omega) | fail)) only [go_sem, ints, bools, mat, reduceIte, Nat.reduceEqDiff, Nat.reduceAdd, Nat.reduceBEq, Nat.reduceMul, Nat.reduceLeDiff, Nat.reduceLT, Nat.reduceMod, Nat.reduceDiv, Nat.reduceSub, reduceCtorEq] | ((first | refine goIf_b (fun h => ?_) (fun h => ?_) | refine goG_b (fun h => ?_) (fun h => ?_) | refine goTG_b (fun h => ?_) (fun h => ?_) | refine goOG_b (fun h => ?_) (fun h => ?_)) <;> ((try simp only [Bool.not_eq_true', Bool.not_eq_false'] at h); (try simp only [h]); (try simp only [decide_eq_true_eq, decide_eq_false_iff_not, bne_iff_ne, bne_eq_false_iff_eq, beq_iff_eq, beq_eq_false_iff_ne, ne_eq, Int.not_lt, Int.not_le, Bool.and_eq_true, Bool.and_eq_false_iff, Bool.or_eq_true, Bool.or_eq_false_iff] at h))))
      first | refine goC_call [.r, .r] (d_impl_digitsOfAll l hs (bsM l c) (by omega) hbm) ?_ | refine goOC_call [.r, .r] (d_impl_digitsOfAll l hs (bsM l c) (by omega) hbm) ?_
      repeat' (first | simp -implicitDefEqProofs (maxSteps := 1000000) (disch := (first | omega | (simp only [go_sem] <;> omega) | fail)) only [go_sem, ints, bools, mat, reduceIte, Nat.reduceEqDiff, Nat.reduceAdd, Nat.reduceBEq, Nat.reduceMul, Nat.reduceLeDiff, Nat.reduceLT, Nat.reduceMod, Nat.reduceDiv, Nat.reduceSub, reduceCtorEq] | ((first | refine goIf_b (fun h => ?_) (fun h => ?_) | refine goG_b (fun h => ?_) (fun h => ?_) | refine goTG_b (fun h => ?_) (fun h => ?_) | refine goOG_b (fun h => ?_) (fun h => ?_)) <;> ((try simp only [Bool.not_eq_true', Bool.not_eq_false'] at h); (try simp only [h]); (try simp only [decide_eq_true_eq, decide_eq_false_iff_not, bne_iff_ne, bne_eq_false_iff_eq, beq_iff_eq, beq_eq_false_iff_ne, ne_eq, Int.not_lt, Int.not_le, Bool.and_eq_true, Bool.and_eq_false_iff, Bool.or_eq_true, Bool.or_eq_false_iff] at h))))
      first | refine goC_call [.r, .g (fnD l.length (duP l (bsM l c)))] (d_impl_those l hs (duP l (bsM l c)) _ (fnD_mk hs (duP l (bsM l c)))) ?_ | refine goOC_call [.r, .g (fnD l.length (duP l (bsM l c)))] (d_impl_those l hs (duP l (bsM l c)) _ (fnD_mk hs (duP l (bsM l c)))) ?_
      repeat' (first | simp -implicitDefEqProofs (maxSteps := 1000000) (disch := (first | omega | (simp only [go_sem] <;> omega) | fail)) only [go_sem, ints, bools, mat, reduceIte, Nat.reduceEqDiff, Nat.reduceAdd, Nat.reduceBEq, Nat.reduceMul, Nat.reduceLeDiff, Nat.reduceLT, Nat.reduceMod, Nat.reduceDiv, Nat.reduceSub, reduceCtorEq] | ((first | refine goIf_b (fun h => ?_) (fun h => ?_) | refine goG_b (fun h => ?_) (fun h => ?_) | refine goTG_b (fun h => ?_) (fun h => ?_) | refine goOG_b (fun h => ?_) (fun h => ?_)) <;> ((try simp only [Bool.not_eq_true', Bool.not_eq_false'] at h); (try simp only [h]); (try simp only [decide_eq_true_eq, decide_eq_false_iff_not, bne_iff_ne, bne_eq_false_iff_eq, beq_iff_eq, beq_eq_false_iff_ne, ne_eq, Int.not_lt, Int.not_le, Bool.and_eq_true, Bool.and_eq_false_iff, Bool.or_eq_true, Bool.or_eq_false_iff] at h))))
      refine chk_intro (fnOK_mk (d_impl_dual_1 l (digM l 0) (bsM l c) hs (digM_len l 0) (digM_bnd 0 hz) (by omega)).1 [[.lst 8 (digs (digsM l (bsM l c)))], [ints l]] (by simp -implicitDefEqProofs (maxSteps := 1000000) (disch := (first | omega | (simp only [go_sem] <;> omega) | fail)) only [go_sem, ints, bools, mat, reduceIte, Nat.reduceEqDiff, Nat.reduceAdd, Nat.reduceBEq, Nat.reduceMul, Nat.reduceLeDiff, Nat.reduceLT, Nat.reduceMod, Nat.reduceDiv, Nat.reduceSub, reduceCtorEq]) fun ds r hgg => ?_) ?_
      · obtain ⟨a, ha, ha4, rfl, rfl⟩ := hgg
        exact ⟨_, d_impl_dual_1p l a (bsM l c) hs ha ha4 (by omega)⟩
      repeat' (first | simp -implicitDefEqProofs (maxSteps := 1000000) (disch := (first | omega | (simp only [go_sem] <;> omega) | fail)) only [go_sem, ints, bools, mat, reduceIte, Nat.reduceEqDiff, Nat.reduceAdd, Nat.reduceBEq, Nat.reduceMul, Nat.reduceLeDiff, Nat.reduceLT, Nat.reduceMod, Nat.reduceDiv, Nat.reduceSub, reduceCtorEq] | ((first | refine goIf_b (fun h => ?_) (fun h => ?_) | refine goG_b (fun h => ?_) (fun h => ?_) | refine goTG_b (fun h => ?_) (fun h => ?_) | refine goOG_b (fun h => ?_) (fun h => ?_)) <;> ((try simp only [Bool.not_eq_true', Bool.not_eq_false'] at h); (try simp only [h]); (try simp only [decide_eq_true_eq, decide_eq_false_iff_not, bne_iff_ne, bne_eq_false_iff_eq, beq_iff_eq, beq_eq_false_iff_ne, ne_eq, Int.not_lt, Int.not_le, Bool.and_eq_true, Bool.and_eq_false_iff, Bool.or_eq_true, Bool.or_eq_false_iff] at h))))
      rw [e]
    · repeat' (first | simp -implicitDefEqProofs (maxSteps := 1000000) (disch := (first | omega | (simp only [go_sem] <;> omega) | fail)) only [go_sem, ints, bools, mat, reduceIte, Nat.reduceEqDiff, Nat.reduceAdd, Nat.reduceBEq, Nat.reduceMul, Nat.reduceLeDiff, Nat.reduceLT, Nat.reduceMod, Nat.reduceDiv, Nat.reduceSub, reduceCtorEq] | ((first | refine goIf_b (fun h => ?_) (fun h => ?_) | refine goG_b (fun h => ?_) (fun h => ?_) | refine goTG_b (fun h => ?_) (fun h => ?_) | refine goOG_b (fun h => ?_) (fun h => ?_)) <;> ((try simp only [Bool.not_eq_true', Bool.not_eq_false'] at h); (try simp only [h]); (try simp only [decide_eq_true_eq, decide_eq_false_iff_not, bne_iff_ne, bne_eq_false_iff_eq, beq_iff_eq, beq_eq_false_iff_ne, ne_eq, Int.not_lt, Int.not_le, Bool.and_eq_true, Bool.and_eq_false_iff, Bool.or_eq_true, Bool.or_eq_false_iff] at h))))
      first | refine goC_call [.r, .r] (d_impl_digitsOfAll l hs (bsM l c) (by omega) hbm) ?_ | refine goOC_call [.r, .r] (d_impl_digitsOfAll l hs (bsM l c) (by omega) hbm) ?_
      repeat' (first | simp -implicitDefEqProofs (maxSteps := 1000000) (disch := (first | omega | (simp only [go_sem] <;> omega) | fail)) only [go_sem, ints, bools, mat, reduceIte, Nat.reduceEqDiff, Nat.reduceAdd, Nat.reduceBEq, Nat.reduceMul, Nat.reduceLeDiff, Nat.reduceLT, Nat.reduceMod, Nat.reduceDiv, Nat.reduceSub, reduceCtorEq] | ((first | refine goIf_b (fun h => ?_) (fun h => ?_) | refine goG_b (fun h => ?_) (fun h => ?_) | refine goTG_b (fun h => ?_) (fun h => ?_) | refine goOG_b (fun h => ?_) (fun h => ?_)) <;> ((try simp only [Bool.not_eq_true', Bool.not_eq_false'] at h); (try simp only [h]); (try simp only [decide_eq_true_eq, decide_eq_false_iff_not, bne_iff_ne, bne_eq_false_iff_eq, beq_iff_eq, beq_eq_false_iff_ne, ne_eq, Int.not_lt, Int.not_le, Bool.and_eq_true, Bool.and_eq_false_iff, Bool.or_eq_true, Bool.or_eq_false_iff] at h))))
      first | refine goC_call [.r, .g (fnD l.length (duP l (bsM l c)))] (d_impl_those l hs (duP l (bsM l c)) _ (fnD_mk hs (duP l (bsM l c)))) ?_ | refine goOC_call [.r, .g (fnD l.length (duP l (bsM l c)))] (d_impl_those l hs (duP l (bsM l c)) _ (fnD_mk hs (duP l (bsM l c)))) ?_
      repeat' (first | simp -implicitDefEqProofs (maxSteps := 1000000) (disch := (first | omega | (simp only [go_sem] <;> omega) | fail)) only [go_sem, ints, bools, mat, reduceIte, Nat.reduceEqDiff, Nat.reduceAdd, Nat.reduceBEq, Nat.reduceMul, Nat.reduceLeDiff, Nat.reduceLT, Nat.reduceMod, Nat.reduceDiv, Nat.reduceSub, reduceCtorEq] | ((first | refine goIf_b (fun h => ?_) (fun h => ?_) | refine goG_b (fun h => ?_) (fun h => ?_) | refine goTG_b (fun h => ?_) (fun h => ?_) | refine goOG_b (fun h => ?_) (fun h => ?_)) <;> ((try simp only [Bool.not_eq_true', Bool.not_eq_false'] at h); (try simp only [h]); (try simp only [decide_eq_true_eq, decide_eq_false_iff_not, bne_iff_ne, bne_eq_false_iff_eq, beq_iff_eq, beq_eq_false_iff_ne, ne_eq, Int.not_lt, Int.not_le, Bool.and_eq_true, Bool.and_eq_false_iff, Bool.or_eq_true, Bool.or_eq_false_iff] at h))))
      refine chk_intro (fnOK_mk (d_impl_dual_1 l (digM l 0) (bsM l c) hs (digM_len l 0) (digM_bnd 0 hz) (by omega)).1 [[.lst 8 (digs (digsM l (bsM l c)))], [ints l]] (by simp -implicitDefEqProofs (maxSteps := 1000000) (disch := (first | omega | (simp only [go_sem] <;> omega) | fail)) only [go_sem, ints, bools, mat, reduceIte, Nat.reduceEqDiff, Nat.reduceAdd, Nat.reduceBEq, Nat.reduceMul, Nat.reduceLeDiff, Nat.reduceLT, Nat.reduceMod, Nat.reduceDiv, Nat.reduceSub, reduceCtorEq]) fun ds r hgg => ?_) ?_
      · obtain ⟨a, ha, ha4, rfl, rfl⟩ := hgg
        exact ⟨_, d_impl_dual_1p l a (bsM l c) hs ha ha4 (by omega)⟩
      repeat' (first | simp -implicitDefEqProofs (maxSteps := 1000000) (disch := (first | omega | (simp only [go_sem] <;> omega) | fail)) only [go_sem, ints, bools, mat, reduceIte, Nat.reduceEqDiff, Nat.reduceAdd, Nat.reduceBEq, Nat.reduceMul, Nat.reduceLeDiff, Nat.reduceLT, Nat.reduceMod, Nat.reduceDiv, Nat.reduceSub, reduceCtorEq] | ((first | refine goIf_b (fun h => ?_) (fun h => ?_) | refine goG_b (fun h => ?_) (fun h => ?_) | refine goTG_b (fun h => ?_) (fun h => ?_) | refine goOG_b (fun h => ?_) (fun h => ?_)) <;> ((try simp only [Bool.not_eq_true', Bool.not_eq_false'] at h); (try simp only [h]); (try simp only [decide_eq_true_eq, decide_eq_false_iff_not, bne_iff_ne, bne_eq_false_iff_eq, beq_iff_eq, beq_eq_false_iff_ne, ne_eq, Int.not_lt, Int.not_le, Bool.and_eq_true, Bool.and_eq_false_iff, Bool.or_eq_true, Bool.or_eq_false_iff] at h))))
      rw [e]
  · repeat' (first | simp -implicitDefEqProofs (maxSteps := 1000000) (disch := (first | omega | (simp only [go_sem] <;> omega) | fail)) only [go_sem, ints, bools, mat, reduceIte, Nat.reduceEqDiff, Nat.reduceAdd, Nat.reduceBEq, Nat.reduceMul, Nat.reduceLeDiff, Nat.reduceLT, Nat.reduceMod, Nat.reduceDiv, Nat.reduceSub, reduceCtorEq] | ((first | refine goIf_b (fun h => ?_) (fun h => ?_) | refine goG_b (fun h => ?_) (fun h => ?_) | refine goTG_b (fun h => ?_) (fun h => ?_) | refine goOG_b (fun h => ?_) (fun h => ?_)) <;> ((try simp only [Bool.not_eq_true', Bool.not_eq_false'] at h); (try simp only [h]); (try simp only [decide_eq_true_eq, decide_eq_false_iff_not, bne_iff_ne, bne_eq_false_iff_eq, beq_iff_eq, beq_eq_false_iff_ne, ne_eq, Int.not_lt, Int.not_le, Bool.and_eq_true, Bool.and_eq_false_iff, Bool.or_eq_true, Bool.or_eq_false_iff] at h))))
    first | refine goC_call [.r, .r] (d_impl_basis l c hs hcc hl hc) ?_ | refine goOC_call [.r, .r] (d_impl_basis l c hs hcc hl hc) ?_
    repeat' (first | simp -implicitDefEqProofs (maxSteps := 1000000) (disch := (first | omega | (simp only [go_sem] <;> omega) | fail)) only [go_sem, ints, bools, mat, reduceIte, Nat.reduceEqDiff, Nat.reduceAdd, Nat.reduceBEq, Nat.reduceMul, Nat.reduceLeDiff, Nat.reduceLT, Nat.reduceMod, Nat.reduceDiv, Nat.reduceSub, reduceCtorEq] | ((first | refine goIf_b (fun h => ?_) (fun h => ?_) | refine goG_b (fun h => ?_) (fun h => ?_) | refine goTG_b (fun h => ?_) (fun h => ?_) | refine goOG_b (fun h => ?_) (fun h => ?_)) <;> ((try simp only [Bool.not_eq_true', Bool.not_eq_false'] at h); (try simp only [h]); (try simp only [decide_eq_true_eq, decide_eq_false_iff_not, bne_iff_ne, bne_eq_false_iff_eq, beq_iff_eq, beq_eq_false_iff_ne, ne_eq, Int.not_lt, Int.not_le, Bool.and_eq_true, Bool.and_eq_false_iff, Bool.or_eq_true, Bool.or_eq_false_iff] at h))))
    first | refine goC_call [.r, .r] (d_impl_digitsOfAll l hs (bsM l c) (by omega) hbm) ?_ | refine goOC_call [.r, .r] (d_impl_digitsOfAll l hs (bsM l c) (by omega) hbm) ?_
    repeat' (first | simp -implicitDefEqProofs (maxSteps := 1000000) (disch := (first | omega | (simp only [go_sem] <;> omega) | fail)) only [go_sem, ints, bools, mat, reduceIte, Nat.reduceEqDiff, Nat.reduceAdd, Nat.reduceBEq, Nat.reduceMul, Nat.reduceLeDiff, Nat.reduceLT, Nat.reduceMod, Nat.reduceDiv, Nat.reduceSub, reduceCtorEq] | ((first | refine goIf_b (fun h => ?_) (fun h => ?_) | refine goG_b (fun h => ?_) (fun h => ?_) | refine goTG_b (fun h => ?_) (fun h => ?_) | refine goOG_b (fun h => ?_) (fun h => ?_)) <;> ((try simp only [Bool.not_eq_true', Bool.not_eq_false'] at h); (try simp only [h]); (try simp only [decide_eq_true_eq, decide_eq_false_iff_not, bne_iff_ne, bne_eq_false_iff_eq, beq_iff_eq, beq_eq_false_iff_ne, ne_eq, Int.not_lt, Int.not_le, Bool.and_eq_true, Bool.and_eq_false_iff, Bool.or_eq_true, Bool.or_eq_false_iff] at h))))
    first | refine goC_call [.r, .g (fnD l.length (duP l (bsM l c)))] (d_impl_those l hs (duP l (bsM l c)) _ (fnD_mk hs (duP l (bsM l c)))) ?_ | refine goOC_call [.r, .g (fnD l.length (duP l (bsM l c)))] (d_impl_those l hs (duP l (bsM l c)) _ (fnD_mk hs (duP l (bsM l c)))) ?_
    repeat' (first | simp -implicitDefEqProofs (maxSteps := 1000000) (disch := (first | omega | (simp only [go_sem] <;> omega) | fail)) only [go_sem, ints, bools, mat, reduceIte, Nat.reduceEqDiff, Nat.reduceAdd, Nat.reduceBEq, Nat.reduceMul, Nat.reduceLeDiff, Nat.reduceLT, Nat.reduceMod, Nat.reduceDiv, Nat.reduceSub, reduceCtorEq] | ((first | refine goIf_b (fun h => ?_) (fun h => ?_) | refine goG_b (fun h => ?_) (fun h => ?_) | refine goTG_b (fun h => ?_) (fun h => ?_) | refine goOG_b (fun h => ?_) (fun h => ?_)) <;> ((try simp only [Bool.not_eq_true', Bool.not_eq_false'] at h); (try simp only [h]); (try simp only [decide_eq_true_eq, decide_eq_false_iff_not, bne_iff_ne, bne_eq_false_iff_eq, beq_iff_eq, beq_eq_false_iff_ne, ne_eq, Int.not_lt, Int.not_le, Bool.and_eq_true, Bool.and_eq_false_iff, Bool.or_eq_true, Bool.or_eq_false_iff] at h))))
    refine chk_intro (fnOK_mk (d_impl_dual_1 l (digM l 0) (bsM l c) hs (digM_len l 0) (digM_bnd 0 hz) (by omega)).1 [[.lst 8 (digs (digsM l (bsM l c)))], [ints l]] (by simp -implicitDefEqProofs (maxSteps := 1000000) (disch := (first | omega | (simp only [go_sem] <;> omega) | fail)) only [go_sem, ints, bools, mat, reduceIte, Nat.reduceEqDiff, Nat.reduceAdd, Nat.reduceBEq, Nat.reduceMul, Nat.reduceLeDiff, Nat.reduceLT, Nat.reduceMod, Nat.reduceDiv, Nat.reduceSub, reduceCtorEq]) fun ds r hgg => ?_) ?_
    · obtain ⟨a, ha, ha4, rfl, rfl⟩ := hgg
      exact ⟨_, d_impl_dual_1p l a (bsM l c) hs ha ha4 (by omega)⟩
    repeat' (first | simp -implicitDefEqProofs (maxSteps := 1000000) (disch := (first | omega | (simp only [go_sem] <;> omega) | fail)) only [go_sem, ints, bools, mat, reduceIte, Nat.reduceEqDiff, Nat.reduceAdd, Nat.reduceBEq, Nat.reduceMul, Nat.reduceLeDiff, Nat.reduceLT, Nat.reduceMod, Nat.reduceDiv, Nat.reduceSub, reduceCtorEq] | ((first | refine goIf_b (fun h => ?_) (fun h => ?_) | refine goG_b (fun h => ?_) (fun h => ?_) | refine goTG_b (fun h => ?_) (fun h => ?_) | refine goOG_b (fun h => ?_) (fun h => ?_)) <;> ((try simp only [Bool.not_eq_true', Bool.not_eq_false'] at h); (try simp only [h]); (try simp only [decide_eq_true_eq, decide_eq_false_iff_not, bne_iff_ne, bne_eq_false_iff_eq, beq_iff_eq, beq_eq_false_iff_ne, ne_eq, Int.not_lt, Int.not_le, Bool.and_eq_true, Bool.and_eq_false_iff, Bool.or_eq_true, Bool.or_eq_false_iff] at h))))
    rw [e]
theorem inj_len : ∀ {A B : List Int}, A.Nodup → ∀ (f : Int → Int), (∀ x, x ∈ A → f x ∈ B) → (∀ x, x ∈ A → ∀ y, y ∈ A → f x = f y → x = y) → A.length ≤ B.length
  | [], _, _, _, _, _ => Nat.zero_le _
  | a :: r, B, hA, f, hf, hi => by
    obtain ⟨h1, h2⟩ := List.nodup_cons.1 hA
    have h3 := inj_len (B := B.erase (f a)) h2 f (fun x hx => (List.mem_erase_of_ne (fun e => h1 (by
      have := hi x (List.mem_cons_of_mem _ hx) a List.mem_cons_self e; rw [← this]; exact hx))).2 (hf x (List.mem_cons_of_mem _ hx))) (fun x hx y hy => hi x (List.mem_cons_of_mem _ hx) y (List.mem_cons_of_mem _ hy))
    have h4 := hf a List.mem_cons_self
    rw [List.length_erase_of_mem h4] at h3
    have h5 := List.length_pos_of_mem h4
    simp only [List.length_cons]; omega
theorem code_nd {l c : List Int} (hcc : isCodeM l c = true) : c.Nodup := by
  rw [List.Nodup, List.pairwise_iff_getElem]
  intro i j hi hj hij
  have := code_nodup hcc i j hij hj
  rw [show c.getD i 0 = c[i] by simp [hi], show c.getD j 0 = c[j] by simp [hj]] at this
  omega
theorem addW_inj {l : List Int} (hz : szs l) {u v b : Int} {m : Nat} (hu : 0 ≤ u ∧ u < prodM l) (hv : 0 ≤ v ∧ v < prodM l) (h : addW l u b m = addW l v b m) : u = v := by
  refine word_eq hz hu hv fun i hi => ?_
  have h1 := addW_dig hz u b hi m
  have h2 := addW_dig hz v b hi m
  have a := dig_lt hz u hi
  have b' := dig_lt hz v hi
  rw [h, h2] at h1
  have h3 := Int.emod_eq_emod_iff_emod_sub_eq_zero.1 h1
  rw [Int.add_sub_add_right] at h3
  have hL := hz i hi
  rcases (show l.getD i 0 = 2 ∨ l.getD i 0 = 3 ∨ l.getD i 0 = 4 by omega) with e | e | e
  · rw [e] at h3 a b'; omega
  · rw [e] at h3 a b'; omega
  · rw [e] at h3 a b'; omega
theorem lin_has0 {l c : List Int} (hs : isSpaceM l = true) (hcc : isCodeM l c = true) (hl : linB l c = true) : (0 : Int) ∈ c := by
  rw [linB, Bool.and_eq_true, Bool.and_eq_true] at hl
  obtain ⟨h1, h2⟩ := (zero_in hs hcc).1 hl.1.2
  rw [← h2]; exact mem_getD (by omega)
@[go_sem] theorem mask32 {x : Int} (h : 0 ≤ x) (h' : x < 4294967296) : binA .and (.d (.v (.int .u64 x))) (.d (.v (.int .u64 4294967295))) = some (.d (.v (.int .u64 x))) := by
  have e : (BitVec.ofInt 64 x &&& BitVec.ofInt 64 4294967295).toNat = x.toNat := by
    rw [BitVec.toNat_and, ofInt_nat h (by omega), ofInt_nat (by omega) (by omega)]
    have := Nat.and_two_pow_sub_one_eq_mod x.toNat 32
    rw [show (4294967295 : Int).toNat = 2 ^ 32 - 1 from rfl, this]
    exact Nat.mod_eq_of_lt (by omega)
  have e2 : binI .and .u64 x 4294967295 = some (.int .u64 (IntKind.wrap .u64 ((BitVec.ofInt 64 x &&& BitVec.ofInt 64 4294967295).toNat : Nat))) := rfl
  simp only [binA, e2, BinOp.isShift, or_true, if_true, e, Option.map_some]
  rw [wrap_u64 (by omega) (by omega), Int.toNat_of_nonneg h]
@[go_sem] theorem shr32 {x : Int} (h : 0 ≤ x) (h' : x < 4294967296) : binA .shr (.d (.v (.int .u64 x))) (.d (.v (.int .u64 32))) = some (.d (.v (.int .u64 0))) := by
  have e : min (32 : Int).toNat 64 = 32 := rfl
  have h1 : (0 : Int) ≤ 2 ^ 32 := by decide
  simp only [binA, binI, BinOp.isShift, true_or, if_true, if_neg (show ¬ (32 : Int) < 0 by omega), IntKind.bits, e, Option.map_some, Int.fdiv_eq_ediv_of_nonneg _ h1]
  rw [Int.ediv_eq_zero_of_lt h (by exact h')]
@[go_sem] theorem cast_one1 : ((1 : Nat) : Int) = 1 := rfl
def vecs : List Int → List (List Int)
  | [] => [[]]
  | q :: r => (List.range q.toNat).flatMap fun (d : Nat) => (vecs r).map fun v => (d : Int) :: v
theorem range_mul (b : Nat) : ∀ a : Nat, List.range (a * b) = (List.range a).flatMap fun i => (List.range b).map fun j => i * b + j
  | 0 => by simp
  | a + 1 => by
    rw [Nat.add_mul, Nat.one_mul, List.range_add, range_mul b a, List.range_succ, List.flatMap_append]
    simp
theorem digM_per : ∀ {r : List Int}, szs r → ∀ (w d : Int), digM r (w + d * prodM r) = digM r w
  | [], _, _, _ => rfl
  | q :: r, h, w, d => by
    have hp := prodM_pos (szs_tail h)
    rw [digM, digM, prodM_cons, ← Int.mul_assoc, digM_per (szs_tail h), Int.add_mul_ediv_right _ _ (by omega), Int.add_mul_emod_self_right]
theorem vecs_ok : ∀ {l : List Int}, szs l → (allW l).map (digM l) = vecs l
  | [], _ => by simp [allW, prodM_nil, vecs, digM, List.range_succ]
  | q :: r, h => by
    have hp := prodM_pos (szs_tail h)
    have hq := h 0 (by simp)
    simp at hq
    have ih := vecs_ok (szs_tail h)
    rw [vecs, ← ih]
    have e : (prodM (q :: r)).toNat = q.toNat * (prodM r).toNat := by rw [prodM_cons, Int.toNat_mul (by omega) (by omega)]
    have fc : ∀ (L : List Nat) (f g : Nat → List (List Int)), (∀ a, a ∈ L → f a = g a) → L.flatMap f = L.flatMap g := fun L f g hh => by
      induction L with
      | nil => rfl
      | cons x L ih => rw [List.flatMap_cons, List.flatMap_cons, hh x List.mem_cons_self, ih fun a ha => hh a (List.mem_cons_of_mem _ ha)]
    rw [allW, e, range_mul, List.map_flatMap, List.map_flatMap]
    refine fc _ _ _ fun d hd => ?_
    have hd := List.mem_range.1 hd
    rw [allW, List.map_map, List.map_map, List.map_map, List.map_map]
    refine List.map_congr_left fun j hj => ?_
    have hj := List.mem_range.1 hj
    simp only [Function.comp]
    have e2 : ((d * (prodM r).toNat + j : Nat) : Int) = (j : Int) + (d : Int) * prodM r := by
      rw [Int.natCast_add, Int.natCast_mul, Int.toNat_of_nonneg (by omega)]; omega
    rw [e2, digM, digM_per (szs_tail h), Int.add_mul_ediv_right _ _ (by omega), Int.ediv_eq_zero_of_lt (by omega) (by omega), Int.zero_add, Int.emod_eq_of_lt (by omega) (by omega)]
/-- How many digits are not 0. -/
def wtN : List Int → Nat
  | [] => 0
  | d :: r => (if d = 0 then 0 else 1) + wtN r
def dotN : List Int → List Int → Int
  | a :: x, b :: y => a * b + dotN x y
  | _, _ => 0
theorem sN_cons (a b : Int) (x y : List Int) : ∀ j, sN (a :: x) (b :: y) (j + 1) = a * b + sN x y j
  | 0 => by simp [sN]
  | j + 1 => by rw [sN, sN_cons a b x y j, sN, Int.add_assoc]; rfl
theorem sN_dot : ∀ (x y : List Int), x.length = y.length → sN x y x.length = dotN x y
  | [], [], _ => rfl
  | a :: x, b :: y, h => by rw [List.length_cons, sN_cons, sN_dot x y (by simpa using h)]; rfl
theorem far_wt : ∀ (l : List Int) (w : Int), distM l 0 w = wtN (digM l w)
  | [], _ => rfl
  | q :: r, w => by
    have := far_wt r w
    rw [distM] at this
    rw [distM, digM, digM, farM, wtN, this, Int.zero_ediv, Int.zero_emod]
    by_cases e : w / prodM r % q = 0
    · rw [if_pos e.symm, if_pos e]; omega
    · rw [if_neg fun e' => e e'.symm, if_neg e]; omega
/-- How many rows of digits have weight k and product t with c. -/
def cntV (q : Int) (l c : List Int) (k : Nat) (t : Int) : Nat := ((vecs l).filter fun v => wtN v == k && dotN c v % q == t).length
/-- .. with k one less; none at k = 0. -/
def dn (f : Nat → Int) (k : Nat) : Int := if k = 0 then 0 else f (k - 1)
theorem cnt_part (q : Int) (r c : List Int) (a : Int) (d : Int) (k : Nat) (t : Int) (t' : Int) (ht : ∀ x : Int, ((a * d + x) % q == t) = (x % q == t')) :
    ((((vecs r).map fun v => d :: v).filter fun v => wtN v == k && dotN (a :: c) v % q == t).length : Int) = if d = 0 then (cntV q r c k t' : Int) else dn (fun k => (cntV q r c k t' : Int)) k := by
  rw [List.filter_map, List.length_map]
  split
  · rename_i e
    subst e
    congr 1; unfold cntV; congr 1; congr 1; funext v
    simp only [Function.comp, wtN, dotN, if_true, Nat.zero_add, ht]
  · rename_i e
    unfold dn
    split
    · rename_i hk
      subst hk
      rw [List.filter_eq_nil_iff.2]
      · rfl
      · intro v _
        simp only [Function.comp, wtN, if_neg e]
        have : (1 + wtN v == 0) = false := by rw [beq_eq_false_iff_ne]; omega
        rw [this]; simp
    · rename_i hk
      congr 1; unfold cntV; congr 1; congr 1; funext v
      simp only [Function.comp, wtN, dotN, if_neg e, ht]
      congr 1
      rw [Bool.eq_iff_iff, beq_iff_eq, beq_iff_eq]; omega
theorem vecs2 (r : List Int) : vecs (2 :: r) = ((vecs r).map fun v => (0 : Int) :: v) ++ ((vecs r).map fun v => (1 : Int) :: v) := by
  simp [vecs, List.range_succ]
theorem vecs3 (r : List Int) : vecs (3 :: r) = ((vecs r).map fun v => (0 : Int) :: v) ++ ((vecs r).map fun v => (1 : Int) :: v) ++ ((vecs r).map fun v => (2 : Int) :: v) := by
  simp [vecs, List.range_succ]
theorem cnt2 (r c : List Int) (a : Int) (ha : a = 0 ∨ a = 1) (k : Nat) (t : Int) (ht : t = 0 ∨ t = 1) :
    (cntV 2 (2 :: r) (a :: c) k t : Int) = cntV 2 r c k t + dn (fun k => (cntV 2 r c k ((t - a) % 2) : Int)) k := by
  have h0 := cnt_part 2 r c a 0 k t t (fun x => by rw [Int.mul_zero, Int.zero_add])
  have h1 := cnt_part 2 r c a 1 k t ((t - a) % 2) (fun x => by rw [Bool.eq_iff_iff, beq_iff_eq, beq_iff_eq]; omega)
  rw [if_pos rfl] at h0
  rw [if_neg (by decide)] at h1
  rw [← h0, ← h1]
  rw [cntV, vecs2, List.filter_append, List.length_append]; omega
theorem cnt3 (r c : List Int) (a : Int) (ha : a = 0 ∨ a = 1 ∨ a = 2) (k : Nat) (t : Int) (ht : t = 0 ∨ t = 1 ∨ t = 2) :
    (cntV 3 (3 :: r) (a :: c) k t : Int) = cntV 3 r c k t + dn (fun k => (cntV 3 r c k ((t - a) % 3) : Int)) k + dn (fun k => (cntV 3 r c k ((t - 2 * a) % 3) : Int)) k := by
  have h0 := cnt_part 3 r c a 0 k t t (fun x => by rw [Int.mul_zero, Int.zero_add])
  have h1 := cnt_part 3 r c a 1 k t ((t - a) % 3) (fun x => by rw [Bool.eq_iff_iff, beq_iff_eq, beq_iff_eq]; omega)
  have h2 := cnt_part 3 r c a 2 k t ((t - 2 * a) % 3) (fun x => by rw [Bool.eq_iff_iff, beq_iff_eq, beq_iff_eq]; omega)
  rw [if_pos rfl] at h0
  rw [if_neg (by decide)] at h1 h2
  rw [← h0, ← h1, ← h2]
  rw [cntV, vecs3, List.filter_append, List.filter_append, List.length_append, List.length_append]; omega
/-- A row of coefficients times (1 + b x). -/
def mulB (b : Int) (f : Nat → Int) (k : Nat) : Int := f k + b * dn f k
def pol (q : Int) : List Int → Nat → Int
  | [] => fun k => if k = 0 then 1 else 0
  | a :: c => mulB (if a = 0 then q - 1 else -1) (pol q c)
theorem dn_sub (f g h : Nat → Int) (hh : ∀ k, f k - g k = h k) (k : Nat) : dn f k - dn g k = dn h k := by
  unfold dn; split
  · rfl
  · exact hh _
theorem cnt_nil (q : Int) (hq : 2 ≤ q) (k : Nat) (t : Int) (h0 : 0 ≤ t) (h1 : t < q) : (cntV q [] [] k t : Int) = if k = 0 ∧ t = 0 then 1 else 0 := by
  unfold cntV
  simp only [vecs]
  by_cases hk : k = 0
  · by_cases ht : t = 0
    · subst hk; subst ht; rw [if_pos ⟨rfl, rfl⟩]; simp [wtN, dotN]
    · rw [if_neg fun e => ht e.2, List.filter_eq_nil_iff.2]
      · rfl
      · intro v hv
        rw [List.mem_singleton] at hv; subst hv
        simp only [wtN, dotN, Int.zero_emod]
        have : ((0 : Int) == t) = false := by rw [beq_eq_false_iff_ne]; omega
        rw [this, Bool.and_false]; decide
  · rw [if_neg fun e => hk e.1, List.filter_eq_nil_iff.2]
    · rfl
    · intro v hv
      rw [List.mem_singleton] at hv; subst hv
      have : (wtN [] == k) = false := by rw [beq_eq_false_iff_ne]; simp only [wtN]; omega
      rw [this, Bool.false_and]; decide
theorem dif2 : ∀ (l c : List Int), (∀ x, x ∈ l → x = 2) → c.length = l.length → (∀ i, 0 ≤ c.getD i 0 ∧ c.getD i 0 < 2) → ∀ k, (cntV 2 l c k 0 : Int) - cntV 2 l c k 1 = pol 2 c k
  | [], [], _, _, _, k => by
    rw [cnt_nil 2 (by omega) k 0 (by omega) (by omega), cnt_nil 2 (by omega) k 1 (by omega) (by omega), pol]
    by_cases hk : k = 0 <;> simp [hk]
  | q :: r, a :: c, hl, hc, ha, k => by
    obtain rfl : q = 2 := hl q List.mem_cons_self
    have ih := dif2 r c (fun x hx => hl x (List.mem_cons_of_mem _ hx)) (by simpa using hc) (fun i => by simpa using ha (i + 1))
    have h0 := ha 0
    simp only [List.getD_cons_zero] at h0
    rcases (show a = 0 ∨ a = 1 by omega) with rfl | rfl
    · rw [cnt2 r c 0 (by omega) k 0 (by omega), cnt2 r c 0 (by omega) k 1 (by omega), pol, mulB, if_pos rfl]
      have hd := dn_sub _ _ _ ih k
      have hk := ih k
      simp only [show ((0 : Int) - 0) % 2 = 0 from rfl, show ((1 : Int) - 0) % 2 = 1 from rfl]
      omega
    · rw [cnt2 r c 1 (by omega) k 0 (by omega), cnt2 r c 1 (by omega) k 1 (by omega), pol, mulB, if_neg (by decide)]
      have hd := dn_sub _ _ _ ih k
      have hk := ih k
      simp only [show ((0 : Int) - 1) % 2 = 1 from rfl, show ((1 : Int) - 1) % 2 = 0 from rfl]
      omega
theorem dif3 : ∀ (l c : List Int), (∀ x, x ∈ l → x = 3) → c.length = l.length → (∀ i, 0 ≤ c.getD i 0 ∧ c.getD i 0 < 3) → ∀ k, (cntV 3 l c k 0 : Int) - cntV 3 l c k 1 = pol 3 c k ∧ (cntV 3 l c k 0 : Int) - cntV 3 l c k 2 = pol 3 c k
  | [], [], _, _, _, k => by
    rw [cnt_nil 3 (by omega) k 0 (by omega) (by omega), cnt_nil 3 (by omega) k 1 (by omega) (by omega), cnt_nil 3 (by omega) k 2 (by omega) (by omega), pol]
    by_cases hk : k = 0 <;> simp [hk]
  | q :: r, a :: c, hl, hc, ha, k => by
    obtain rfl : q = 3 := hl q List.mem_cons_self
    have ih := dif3 r c (fun x hx => hl x (List.mem_cons_of_mem _ hx)) (by simpa using hc) (fun i => by simpa using ha (i + 1))
    have h0 := ha 0
    simp only [List.getD_cons_zero] at h0
    have hd1 := dn_sub _ _ _ (fun k => (ih k).1) k
    have hd2 := dn_sub _ _ _ (fun k => (ih k).2) k
    have hk := ih k
    rcases (show a = 0 ∨ a = 1 ∨ a = 2 by omega) with rfl | rfl | rfl
    · rw [cnt3 r c 0 (by omega) k 0 (by omega), cnt3 r c 0 (by omega) k 1 (by omega), cnt3 r c 0 (by omega) k 2 (by omega), pol, mulB, if_pos rfl]
      simp only [show ((0 : Int) - 0) % 3 = 0 from rfl, show ((1 : Int) - 0) % 3 = 1 from rfl, show ((2 : Int) - 0) % 3 = 2 from rfl, show ((0 : Int) - 2 * 0) % 3 = 0 from rfl, show ((1 : Int) - 2 * 0) % 3 = 1 from rfl, show ((2 : Int) - 2 * 0) % 3 = 2 from rfl]
      omega
    · rw [cnt3 r c 1 (by omega) k 0 (by omega), cnt3 r c 1 (by omega) k 1 (by omega), cnt3 r c 1 (by omega) k 2 (by omega), pol, mulB, if_neg (by decide)]
      simp only [show ((0 : Int) - 1) % 3 = 2 from rfl, show ((1 : Int) - 1) % 3 = 0 from rfl, show ((2 : Int) - 1) % 3 = 1 from rfl, show ((0 : Int) - 2 * 1) % 3 = 1 from rfl, show ((1 : Int) - 2 * 1) % 3 = 2 from rfl, show ((2 : Int) - 2 * 1) % 3 = 0 from rfl]
      omega
    · rw [cnt3 r c 2 (by omega) k 0 (by omega), cnt3 r c 2 (by omega) k 1 (by omega), cnt3 r c 2 (by omega) k 2 (by omega), pol, mulB, if_neg (by decide)]
      simp only [show ((0 : Int) - 2) % 3 = 1 from rfl, show ((1 : Int) - 2) % 3 = 2 from rfl, show ((2 : Int) - 2) % 3 = 0 from rfl, show ((0 : Int) - 2 * 2) % 3 = 2 from rfl, show ((1 : Int) - 2 * 2) % 3 = 0 from rfl, show ((2 : Int) - 2 * 2) % 3 = 1 from rfl]
      omega
theorem swap_cnt {α β : Type} (p : α → β → Bool) : ∀ (A : List α) (B : List β), (A.map fun u => (B.filter (p u)).length).sum = (B.map fun v => (A.filter fun u => p u v).length).sum
  | [], B => by induction B with
    | nil => rfl
    | cons b B ih => simpa using ih
  | a :: A, B => by
    rw [List.map_cons, List.sum_cons, swap_cnt p A B]
    clear swap_cnt
    induction B with
    | nil => simp
    | cons b B ih =>
      rw [List.map_cons, List.map_cons, List.sum_cons, List.sum_cons, List.filter_cons, List.filter_cons]
      split <;> simp_all <;> omega
theorem mod_lin (X S q : Int) (m : Int) : (X + m * S) % q = (X % q + m * (S % q)) % q := by
  have h : (m * (S % q)) % q = (m * S) % q := by rw [Int.mul_comm, mul_mod_l, Int.mul_comm]
  rw [Int.add_emod (X % q), Int.emod_emod, h, ← Int.add_emod]
theorem solve2 {x y s : Int} (hx : x = 0 ∨ x = 1) (hy : y = 0 ∨ y = 1) (hs : s = 1) : ∃ m : Nat, (x + (m : Int) * s) % 2 = y := by
  subst hs
  rcases hx with rfl | rfl <;> rcases hy with rfl | rfl <;> first | exact ⟨0, by decide⟩ | exact ⟨1, by decide⟩
theorem solve3 {x y s : Int} (hx : x = 0 ∨ x = 1 ∨ x = 2) (hy : y = 0 ∨ y = 1 ∨ y = 2) (hs : s = 1 ∨ s = 2) : ∃ m : Nat, (x + (m : Int) * s) % 3 = y := by
  rcases hx with rfl | rfl | rfl <;> rcases hy with rfl | rfl | rfl <;> rcases hs with rfl | rfl <;> first | exact ⟨0, by decide⟩ | exact ⟨1, by decide⟩ | exact ⟨2, by decide⟩
theorem solveq {q x y s : Int} (hq : 2 ≤ q ∧ q ≤ 3) (hx : 0 ≤ x ∧ x < q) (hy : 0 ≤ y ∧ y < q) (hs : 0 < s ∧ s < q) : ∃ m : Nat, (x + (m : Int) * s) % q = y := by
  rcases (show q = 2 ∨ q = 3 by omega) with rfl | rfl
  · exact solve2 (by omega) (by omega) (by omega)
  · exact solve3 (by omega) (by omega) (by omega)
/-- With a word that is not of the dual code each product is as often. -/
theorem fib {l c : List Int} (hs : isSpaceM l = true) (hcc : isCodeM l c = true) (hl : linB l c = true) {w : Int} (hw : orB l c w = false) {x y : Int} (hx : 0 ≤ x ∧ x < l.getD 0 0) (hy : 0 ≤ y ∧ y < l.getD 0 0) :
    (c.filter fun u => sN (digM l u) (digM l w) l.length % l.getD 0 0 == x).length ≤ (c.filter fun u => sN (digM l u) (digM l w) l.length % l.getD 0 0 == y).length := by
  have hz := isSpaceM_szs hs
  have hn := isSpaceM_n hs
  have hq := pq hs hl (i := 0) (by omega)
  rw [orB, List.all_eq_false] at hw
  obtain ⟨u0, hu0, h0⟩ := hw
  rw [beq_iff_eq] at h0
  have h1 := Int.emod_nonneg (sN (digM l u0) (digM l w) l.length) (show l.getD 0 0 ≠ 0 by omega)
  have h2 := Int.emod_lt_of_pos (sN (digM l u0) (digM l w) l.length) (show 0 < l.getD 0 0 by omega)
  obtain ⟨m, hm⟩ := solveq hq.2 hx hy (s := sN (digM l u0) (digM l w) l.length % l.getD 0 0) ⟨by omega, h2⟩
  refine inj_len ((code_nd hcc).filter _) (fun u => addW l u u0 m) (fun u hu => ?_) (fun u hu v hv e => ?_)
  · obtain ⟨a, b⟩ := List.mem_filter.1 hu
    rw [beq_iff_eq] at b
    refine List.mem_filter.2 ⟨addW_in hs hcc hl a hu0 m, ?_⟩
    rw [beq_iff_eq, sN_lin hz (l.getD 0 0) (fun i hi => (pq hs hl hi).1) u u0 m _ l.length (Nat.le_refl _), mod_lin, b]
    exact hm
  · exact addW_inj hz (code_mem hcc (List.mem_filter.1 hu).1) (code_mem hcc (List.mem_filter.1 hv).1) e
/-- The words of weight k whose products with a code are 0. -/
def wOf (l : List Int) (k : Nat) (w : Int) : Bool := wtN (digM l w) == k
theorem cnt_words {l : List Int} (hz : szs l) (q u t : Int) (k : Nat) : cntV q l (digM l u) k t = ((allW l).filter fun w => wOf l k w && (sN (digM l u) (digM l w) l.length % q == t)).length := by
  rw [cntV, ← vecs_ok hz, List.filter_map, List.length_map]
  congr 2
  funext w
  simp only [Function.comp, wOf]
  rw [← sN_dot (digM l u) (digM l w) (by rw [digM_len, digM_len]), digM_len]
theorem sum_sub (A : List Int) (f : Int → Int) (g h : Int → Nat) (e : ∀ u, u ∈ A → f u = (g u : Int) - (h u : Int)) : (A.map f).sum = ((A.map g).sum : Int) - ((A.map h).sum : Int) := by
  induction A with
  | nil => rfl
  | cons a A ih =>
    rw [List.map_cons, List.map_cons, List.map_cons, List.sum_cons, List.sum_cons, List.sum_cons, ih fun u hu => e u (List.mem_cons_of_mem _ hu), e a List.mem_cons_self]
    omega
theorem sum_diff (B : List Int) (N : Nat) (f g : Int → Nat) (p : Int → Bool) (e : ∀ w, w ∈ B → (f w : Int) - (g w : Int) = if p w = true then (N : Int) else 0) : ((B.map f).sum : Int) - ((B.map g).sum : Int) = N * (B.filter p).length := by
  induction B with
  | nil => simp
  | cons a B ih =>
    have h1 := e a List.mem_cons_self
    have h2 := ih fun u hu => e u (List.mem_cons_of_mem _ hu)
    rw [List.map_cons, List.map_cons, List.sum_cons, List.sum_cons, List.filter_cons]
    split
    · rename_i hp
      rw [if_pos hp] at h1
      simp only [List.length_cons, Int.natCast_add, Int.natCast_one, Int.mul_add, Int.mul_one]; omega
    · rename_i hp
      rw [if_neg hp] at h1
      omega
theorem pol_cnt {l c : List Int} (hs : isSpaceM l = true) (hl : linB l c = true) (u : Int) (k : Nat) : pol (l.getD 0 0) (digM l u) k = (cntV (l.getD 0 0) l (digM l u) k 0 : Int) - cntV (l.getD 0 0) l (digM l u) k 1 := by
  have hz := isSpaceM_szs hs
  have hn := isSpaceM_n hs
  have hq := pq hs hl (i := 0) (by omega)
  have hall : ∀ x, x ∈ l → x = l.getD 0 0 := fun x hx => by
    obtain ⟨i, hi, rfl⟩ := List.mem_iff_getElem.1 hx
    have := (pq hs hl hi).1
    simpa [hi] using this
  have hd : ∀ i, 0 ≤ (digM l u).getD i 0 ∧ (digM l u).getD i 0 < l.getD 0 0 := fun i => by
    by_cases hi : i < l.length
    · have := dig_lt hz u hi; rw [(pq hs hl hi).1] at this; exact this
    · rw [List.getD_eq_getElem?_getD, List.getElem?_eq_none (by rw [digM_len]; omega)]
      exact ⟨Int.le_refl _, by simp only [Option.getD_none]; omega⟩
  generalize l.getD 0 0 = q at hall hq hd
  rcases (show q = 2 ∨ q = 3 by omega) with rfl | rfl
  · exact (dif2 l (digM l u) hall (digM_len l u) hd k).symm
  · exact (dif3 l (digM l u) hall (digM_len l u) hd k).1.symm
/-- How many words of the dual code have weight k. -/
def duW (l c : List Int) (k : Nat) : Nat := ((duM l c).filter (wOf l k)).length
/-- MacWilliams. -/
theorem mac {l c : List Int} (hs : isSpaceM l = true) (hcc : isCodeM l c = true) (hl : linB l c = true) (k : Nat) : (c.map fun u => pol (l.getD 0 0) (digM l u) k).sum = (c.length : Int) * duW l c k := by
  have hz := isSpaceM_szs hs
  have hn := isSpaceM_n hs
  have hq := pq hs hl (i := 0) (by omega)
  rw [sum_sub c _ (fun u => ((allW l).filter fun w => wOf l k w && (sN (digM l u) (digM l w) l.length % l.getD 0 0 == 0)).length) (fun u => ((allW l).filter fun w => wOf l k w && (sN (digM l u) (digM l w) l.length % l.getD 0 0 == 1)).length) (fun u _ => by rw [pol_cnt hs hl, cnt_words hz, cnt_words hz])]
  rw [swap_cnt (fun u w => wOf l k w && (sN (digM l u) (digM l w) l.length % l.getD 0 0 == 0)), swap_cnt (fun u w => wOf l k w && (sN (digM l u) (digM l w) l.length % l.getD 0 0 == 1))]
  rw [sum_diff (allW l) c.length _ _ (fun w => wOf l k w && orB l c w)]
  · congr 2
    rw [duW, duM, List.filter_filter]
  · intro w _
    cases hk : wOf l k w with
    | false =>
      simp only [Bool.false_and, Bool.false_eq_true, if_false]
      simp
    | true =>
      simp only [Bool.true_and]
      cases ho : orB l c w with
      | true =>
        rw [if_pos rfl]
        rw [orB, List.all_eq_true] at ho
        rw [List.filter_eq_self.2 ho, List.filter_eq_nil_iff.2]
        · simp
        · intro u hu
          have := ho u hu
          rw [beq_iff_eq] at this
          rw [this]; decide
      | false =>
        rw [if_neg (by decide)]
        have a := fib hs hcc hl ho (x := 0) (y := 1) (by omega) (by omega)
        have b := fib hs hcc hl ho (x := 1) (y := 0) (by omega) (by omega)
        omega
theorem getD_set (o : List Int) (i j : Nat) (v : Int) (hi : i < o.length) : (o.set i v).getD j 0 = if i = j then v else o.getD j 0 := by
  rw [List.getD_eq_getElem?_getD, List.getElem?_set]
  split
  · first | rfl | (rename_i e; subst e; simp [hi])
  · rw [List.getD_eq_getElem?_getD]
theorem hist_get {n : Nat} (ds : List Int) (h : ∀ d, d ∈ ds → 0 ≤ d ∧ d < n) {i : Nat} (hi : i < n) : ∀ j, j ≤ ds.length → (hist n (ds.take j)).getD i 0 = (((ds.take j).filter fun d => d == (i : Int)).length : Int)
  | 0, _ => by simp [hist, hi]
  | j + 1, hj => by
    have hd := h _ (mem_getD (l := ds) (j := j) (by omega))
    have hlen : (hist n (ds.take j)).length = n := by rw [hist, foldl_hist_len, List.length_replicate]
    rw [take_one ds (by omega), hist_step, getD_set _ _ _ _ (by rw [hlen]; omega), List.filter_append, List.length_append]
    have ih := hist_get ds h hi j (by omega)
    by_cases e : (ds.getD j 0).toNat = i
    · have e2 : (ds.getD j 0 == (i : Int)) = true := by rw [beq_iff_eq]; omega
      rw [if_pos e, e, ih, List.filter_cons, e2]; simp
    · have e2 : (ds.getD j 0 == (i : Int)) = false := by rw [beq_eq_false_iff_ne]; omega
      rw [if_neg e, ih, List.filter_cons, e2]; simp
/-- A list told by a function. -/
def FL (n : Nat) (f : Nat → Int) : List Int := (List.range (n + 1)).map f
@[go_sem] theorem FL_len (n : Nat) (f : Nat → Int) : (FL n f).length = n + 1 := by simp [FL]
theorem FL_get {n j : Nat} (f : Nat → Int) (h : j < n + 1) : (FL n f).getD j 0 = f j := by simp [FL, h]
theorem FL_congr {n : Nat} {f g : Nat → Int} (h : ∀ j, j < n + 1 → f j = g j) : FL n f = FL n g := List.map_congr_left fun j hj => h j (List.mem_range.1 hj)
theorem FL_set (n k : Nat) (f : Nat → Int) (v : Int) : (FL n f).set k v = FL n fun j => if j = k then v else f j := by
  apply List.ext_getElem
  · simp [FL]
  · intro i h1 h2
    rw [List.getElem_set]
    simp only [FL, List.getElem_map, List.getElem_range]
    split
    · rename_i e; rw [if_pos e.symm]
    · rename_i e; rw [if_neg fun e' => e e'.symm]
theorem FL_eq {n : Nat} {f : Nat → Int} {o : List Int} (hl : o.length = n + 1) (h : ∀ j, j < n + 1 → f j = o.getD j 0) : FL n f = o := by
  apply eq_getD
  · rw [FL_len, hl]
  · intro j hj
    rw [FL_len] at hj
    rw [FL_get f hj, h j hj]
/-- The row of coefficients for the weight w after i factors. -/
def rowN (q : Int) (w : Nat) : Nat → Nat → Int
  | 0 => fun k => if k = 0 then 1 else 0
  | i + 1 => mulB (if i < w then -1 else q - 1) (rowN q w i)
theorem rowN_zero (q : Int) (w : Nat) : ∀ i k, i < k → rowN q w i k = 0
  | 0, k, h => by show (if k = 0 then (1 : Int) else 0) = 0; rw [if_neg (by omega)]
  | i + 1, k, h => by
    have h1 := rowN_zero q w i k (by omega)
    have h2 := rowN_zero q w i (k - 1) (by omega)
    show rowN q w i k + (if i < w then -1 else q - 1) * (if k = 0 then 0 else rowN q w i (k - 1)) = 0
    rw [h1, if_neg (show ¬ k = 0 by omega), h2, Int.mul_zero]; rfl
theorem rowN_bnd {q : Int} (hq : 2 ≤ q ∧ q ≤ 3) (w : Nat) : ∀ i k, -((3 : Int) ^ i) ≤ rowN q w i k ∧ rowN q w i k ≤ (3 : Int) ^ i
  | 0, k => by show -((3 : Int) ^ 0) ≤ (if k = 0 then (1 : Int) else 0) ∧ (if k = 0 then (1 : Int) else 0) ≤ 3 ^ 0; split <;> simp
  | i + 1, k => by
    have h1 := rowN_bnd hq w i k
    have hp : (0 : Int) ≤ 3 ^ i := Int.pow_nonneg (by omega)
    have h2 : -((3 : Int) ^ i) ≤ dn (rowN q w i) k ∧ dn (rowN q w i) k ≤ (3 : Int) ^ i := by
      unfold dn; split
      · omega
      · exact rowN_bnd hq w i (k - 1)
    rw [rowN, mulB, Int.pow_succ]
    generalize dn (rowN q w i) k = y at h2
    generalize rowN q w i k = x at h1
    generalize (3 : Int) ^ i = M at *
    split
    · omega
    · rcases (show q = 2 ∨ q = 3 by omega) with rfl | rfl <;> omega
theorem mulB_comm (a b : Int) (f : Nat → Int) : mulB a (mulB b f) = mulB b (mulB a f) := by
  funext k
  simp only [mulB, dn]
  split
  · omega
  · split
    · simp only [Int.mul_zero, Int.add_zero]; omega
    · simp only [Int.mul_add]
      rw [Int.mul_left_comm]; omega
def powM (b : Int) : Nat → (Nat → Int) → Nat → Int
  | 0, f => f
  | m + 1, f => mulB b (powM b m f)
theorem powM_comm (a b : Int) (f : Nat → Int) : ∀ m, mulB a (powM b m f) = powM b m (mulB a f)
  | 0 => rfl
  | m + 1 => by rw [powM, mulB_comm, powM_comm a b f m]; rfl
abbrev del0 : Nat → Int := fun k => if k = 0 then 1 else 0
theorem rowN_lo (q : Int) (w : Nat) : ∀ i, i ≤ w → rowN q w i = powM (-1) i del0
  | 0, _ => rfl
  | i + 1, h => by rw [rowN, if_pos (by omega), rowN_lo q w i (by omega)]; rfl
theorem rowN_hi (q : Int) (w : Nat) : ∀ j, rowN q w (w + j) = powM (q - 1) j (powM (-1) w del0)
  | 0 => rowN_lo q w w (Nat.le_refl _)
  | j + 1 => by rw [← Nat.add_assoc, rowN, if_neg (by omega), rowN_hi q w j]; rfl
theorem wtN_le : ∀ c : List Int, wtN c ≤ c.length
  | [] => Nat.le_refl _
  | a :: c => by have := wtN_le c; rw [wtN, List.length_cons]; split <;> omega
theorem pol_pow (q : Int) : ∀ c : List Int, pol q c = powM (q - 1) (c.length - wtN c) (powM (-1) (wtN c) del0)
  | [] => rfl
  | a :: c => by
    have h := wtN_le c
    rw [pol, pol_pow q c, wtN, List.length_cons]
    split
    · rw [Nat.zero_add, show c.length + 1 - wtN c = (c.length - wtN c) + 1 by omega]; rfl
    · rw [powM_comm, Nat.add_comm 1, show c.length + 1 - (wtN c + 1) = c.length - wtN c by omega]; rfl
theorem pol_row (q : Int) (c : List Int) : pol q c = rowN q (wtN c) c.length := by
  have h := wtN_le c
  have := rowN_hi q (wtN c) (c.length - wtN c)
  rw [show wtN c + (c.length - wtN c) = c.length by omega] at this
  rw [this, pol_pow]
def sumTo (f : Nat → Int) : Nat → Int
  | 0 => 0
  | N + 1 => sumTo f N + f N
theorem sumTo_congr {f g : Nat → Int} : ∀ N, (∀ w, w < N → f w = g w) → sumTo f N = sumTo g N
  | 0, _ => rfl
  | N + 1, h => by rw [sumTo, sumTo, sumTo_congr N fun w hw => h w (by omega), h N (by omega)]
theorem sumTo_add (f g : Nat → Int) : ∀ N, sumTo (fun w => f w + g w) N = sumTo f N + sumTo g N
  | 0 => rfl
  | N + 1 => by rw [sumTo, sumTo, sumTo, sumTo_add f g N]; omega
theorem sumTo_one (g : Nat → Int) (d : Nat) : ∀ N, sumTo (fun w => if w = d then g w else 0) N = if d < N then g d else 0
  | 0 => by rw [sumTo, if_neg (by omega)]
  | N + 1 => by
    rw [sumTo, sumTo_one g d N]
    by_cases h : d = N
    · subst h; rw [if_neg (by omega), if_pos rfl, if_pos (by omega)]; omega
    · by_cases h2 : d < N
      · rw [if_pos h2, if_neg (by omega), if_pos (by omega)]; omega
      · rw [if_neg h2, if_neg (by omega), if_neg (by omega)]; rfl
theorem sumTo_cnt (g : Nat → Int) (N : Nat) : ∀ ds : List Nat, (∀ d, d ∈ ds → d < N) → sumTo (fun w => ((ds.filter fun d => d == w).length : Int) * g w) N = (ds.map g).sum
  | [], _ => by
    rw [sumTo_congr (g := fun _ => 0) N (fun w _ => by simp)]
    have h0 : ∀ N, sumTo (fun _ => 0) N = 0 := fun N => by
      induction N with
      | zero => rfl
      | succ N ih => rw [sumTo, ih]; rfl
    rw [h0]; rfl
  | d :: ds, h => by
    rw [List.map_cons, List.sum_cons, ← sumTo_cnt g N ds fun x hx => h x (List.mem_cons_of_mem _ hx)]
    have h1 := sumTo_one g d N
    rw [if_pos (h d List.mem_cons_self)] at h1
    rw [← h1, ← sumTo_add]
    refine sumTo_congr N fun w _ => ?_
    rw [List.filter_cons]
    by_cases e : d = w
    · subst e; simp [Int.add_mul]; omega
    · have : (d == w) = false := by rw [beq_eq_false_iff_ne]; exact e
      simp only [this, Bool.false_eq_true, if_false]
      rw [if_neg (fun e' : w = d => e e'.symm)]; simp
/-- What has been added up for the first w weights. -/
def outS (q : Int) (n : Nat) (A : List Int) (w k : Nat) : Int := sumTo (fun w => A.getD w 0 * rowN q w n k) w
theorem wc_get (l c : List Int) {w : Nat} (hw : w < l.length + 1) : (wcountM l c).getD w 0 = ((c.filter (wOf l w)).length : Int) := by
  have h := hist_get (n := l.length + 1) (c.map fun u => distM l 0 u) (fun d hd => by
    obtain ⟨u, _, rfl⟩ := List.mem_map.1 hd
    have := distM_bnd l 0 u; omega) hw (c.map fun u => distM l 0 u).length (Nat.le_refl _)
  rw [List.take_length] at h
  rw [wcountM, h, List.filter_map, List.length_map]
  congr 2
  congr 1
  funext u
  simp only [Function.comp, wOf, far_wt]
  rw [Bool.eq_iff_iff, beq_iff_eq, beq_iff_eq]; omega
theorem outS_end {l c : List Int} (hs : isSpaceM l = true) (hcc : isCodeM l c = true) (hl : linB l c = true) (k : Nat) : outS (l.getD 0 0) l.length (wcountM l c) (l.length + 1) k = (c.length : Int) * duW l c k := by
  rw [← mac hs hcc hl k, outS]
  rw [sumTo_congr (g := fun w => (((c.map fun u => wtN (digM l u)).filter fun d => d == w).length : Int) * rowN (l.getD 0 0) w l.length k) _ (fun w hw => by
    rw [wc_get l c hw, List.filter_map, List.length_map]; rfl)]
  rw [sumTo_cnt (fun w => rowN (l.getD 0 0) w l.length k) (l.length + 1) (c.map fun u => wtN (digM l u)) (fun d hd => by
    obtain ⟨u, _, rfl⟩ := List.mem_map.1 hd
    have := wtN_le (digM l u); rw [digM_len] at this; omega), List.map_map]
  congr 1
  refine List.map_congr_left fun u _ => ?_
  simp only [Function.comp]
  rw [pol_row, digM_len]
theorem duW_list (l c : List Int) : FL l.length (fun k => (duW l c k : Int)) = wcountM l (duM l c) := by
  refine FL_eq (by rw [wcountM, hist, foldl_hist_len, List.length_replicate]) fun j hj => ?_
  rw [wc_get l _ hj]; rfl
theorem mulb {A r M : Int} (hA : 0 ≤ A ∧ A ≤ 1024) (hr : -M ≤ r ∧ r ≤ M) : -(1024 * M) ≤ A * r ∧ A * r ≤ 1024 * M := by
  have hM : 0 ≤ M := by omega
  have h1 : A * r ≤ A * M := Int.mul_le_mul_of_nonneg_left hr.2 hA.1
  have h2 : A * -M ≤ A * r := Int.mul_le_mul_of_nonneg_left hr.1 hA.1
  have h3 : A * M ≤ 1024 * M := Int.mul_le_mul_of_nonneg_right hA.2 hM
  rw [Int.mul_neg] at h2
  omega
theorem outS_bnd {q : Int} (hq : 2 ≤ q ∧ q ≤ 3) {n : Nat} (hn : n ≤ 8) {A : List Int} (hA : ∀ i, 0 ≤ A.getD i 0 ∧ A.getD i 0 ≤ 1024) (k : Nat) : ∀ w : Nat, -(w * 6718464) ≤ outS q n A w k ∧ outS q n A w k ≤ w * 6718464
  | 0 => by simp [outS, sumTo]
  | w + 1 => by
    have ih := outS_bnd hq hn hA k w
    have h1 := rowN_bnd hq w n k
    have h2 : (3 : Int) ^ n ≤ 6561 := by
      have : (3 : Nat) ^ n ≤ 3 ^ 8 := Nat.pow_le_pow_right (by omega) hn
      have e : (((3 : Nat) ^ n : Nat) : Int) = (3 : Int) ^ n := by simp
      omega
    have h3 := mulb (M := 6561) (hA w) (r := rowN q w n k) ⟨by omega, by omega⟩
    have e : outS q n A (w + 1) k = outS q n A w k + A.getD w 0 * rowN q w n k := rfl
    rw [e]; omega
theorem d_impl_DualCounts (l c : List Int) (hl : l.length < 1048577) (hc : c.length < 1048577) : Den PA f_impl_DualCounts [.d (.agg [ints l]), .d (ints c)] [.any, .any] (lstR (lnM l c) (wcountM l (duM l c))) := by
  refine den_go [] l_impl_DualCounts ?_
  repeat' (first | simp -implicitDefEqProofs (maxSteps := 1000000) (disch := (first | omega | (simp only [go_sem] <;> omega) | fail)) only [go_sem, ints, bools, mat, reduceIte, Nat.reduceEqDiff, Nat.reduceAdd, Nat.reduceBEq, Nat.reduceMul, Nat.reduceLeDiff, Nat.reduceLT, Nat.reduceMod, Nat.reduceDiv, Nat.reduceSub, reduceCtorEq, c_impl_DualCounts] | ((first | refine goIf_b (fun h => ?_) (fun h => ?_) | refine goG_b (fun h => ?_) (fun h => ?_) | refine goTG_b (fun h => ?_) (fun h => ?_) | refine goOG_b (fun h => ?_) (fun h => ?_)) <;> ((try simp only [Bool.not_eq_true', Bool.not_eq_false'] at h); (try simp only [h]); (try simp only [decide_eq_true_eq, decide_eq_false_iff_not, bne_iff_ne, bne_eq_false_iff_eq, beq_iff_eq, beq_eq_false_iff_ne, ne_eq, Int.not_lt, Int.not_le, Bool.and_eq_true, Bool.and_eq_false_iff, Bool.or_eq_true, Bool.or_eq_false_iff] at h))))
  first | refine goC_call [.r, .r, .r] (d_impl_linearCode0 l c hl hc) ?_ | refine goOC_call [.r, .r, .r] (d_impl_linearCode0 l c hl hc) ?_
  by_cases h : lnM l c = 0
  · rw [lstR_ok h, h]
    obtain ⟨hs, hcc, hlin⟩ := lnM_ok h
    have hp := isSpaceM_prod hs
    have hal := allW_len l
    have hdl : (duM l c).length ≤ 1024 := filter_len_le _ _ 1024 (by omega)
    have hdb : ∀ j, j < (duM l c).length → 0 ≤ (duM l c).getD j 0 ∧ (duM l c).getD j 0 < 1000000000000 := fun j hj => by
      have h1 := (List.mem_filter.1 (mem_getD hj)).1
      obtain ⟨w, hw, e⟩ := List.mem_map.1 h1
      have := List.mem_range.1 hw
      rw [← e]; omega
    repeat' (first | simp -implicitDefEqProofs (maxSteps := 1000000) (disch := (first | omega | (simp only [go_sem] <;> omega) | fail)) only [go_sem, ints, bools, mat, reduceIte, Nat.reduceEqDiff, Nat.reduceAdd, Nat.reduceBEq, Nat.reduceMul, Nat.reduceLeDiff, Nat.reduceLT, Nat.reduceMod, Nat.reduceDiv, Nat.reduceSub, reduceCtorEq] | ((first | refine goIf_b (fun h => ?_) (fun h => ?_) | refine goG_b (fun h => ?_) (fun h => ?_) | refine goTG_b (fun h => ?_) (fun h => ?_) | refine goOG_b (fun h => ?_) (fun h => ?_)) <;> ((try simp only [Bool.not_eq_true', Bool.not_eq_false'] at h); (try simp only [h]); (try simp only [decide_eq_true_eq, decide_eq_false_iff_not, bne_iff_ne, bne_eq_false_iff_eq, beq_iff_eq, beq_eq_false_iff_ne, ne_eq, Int.not_lt, Int.not_le, Bool.and_eq_true, Bool.and_eq_false_iff, Bool.or_eq_true, Bool.or_eq_false_iff] at h))))
    first | refine goC_call [.r, .r] (d_impl_dual l c hs hcc hlin hc) ?_ | refine goOC_call [.r, .r] (d_impl_dual l c hs hcc hlin hc) ?_
    repeat' (first | simp -implicitDefEqProofs (maxSteps := 1000000) (disch := (first | omega | (simp only [go_sem] <;> omega) | fail)) only [go_sem, ints, bools, mat, reduceIte, Nat.reduceEqDiff, Nat.reduceAdd, Nat.reduceBEq, Nat.reduceMul, Nat.reduceLeDiff, Nat.reduceLT, Nat.reduceMod, Nat.reduceDiv, Nat.reduceSub, reduceCtorEq] | ((first | refine goIf_b (fun h => ?_) (fun h => ?_) | refine goG_b (fun h => ?_) (fun h => ?_) | refine goTG_b (fun h => ?_) (fun h => ?_) | refine goOG_b (fun h => ?_) (fun h => ?_)) <;> ((try simp only [Bool.not_eq_true', Bool.not_eq_false'] at h); (try simp only [h]); (try simp only [decide_eq_true_eq, decide_eq_false_iff_not, bne_iff_ne, bne_eq_false_iff_eq, beq_iff_eq, beq_eq_false_iff_ne, ne_eq, Int.not_lt, Int.not_le, Bool.and_eq_true, Bool.and_eq_false_iff, Bool.or_eq_true, Bool.or_eq_false_iff] at h))))
    first | refine goC_call [.r, .r] (d_impl_weightCounts l (duM l c) hs (by omega) hdb) ?_ | refine goOC_call [.r, .r] (d_impl_weightCounts l (duM l c) hs (by omega) hdb) ?_
    repeat' (first | simp -implicitDefEqProofs (maxSteps := 1000000) (disch := (first | omega | (simp only [go_sem] <;> omega) | fail)) only [go_sem, ints, bools, mat, reduceIte, Nat.reduceEqDiff, Nat.reduceAdd, Nat.reduceBEq, Nat.reduceMul, Nat.reduceLeDiff, Nat.reduceLT, Nat.reduceMod, Nat.reduceDiv, Nat.reduceSub, reduceCtorEq] | ((first | refine goIf_b (fun h => ?_) (fun h => ?_) | refine goG_b (fun h => ?_) (fun h => ?_) | refine goTG_b (fun h => ?_) (fun h => ?_) | refine goOG_b (fun h => ?_) (fun h => ?_)) <;> ((try simp only [Bool.not_eq_true', Bool.not_eq_false'] at h); (try simp only [h]); (try simp only [decide_eq_true_eq, decide_eq_false_iff_not, bne_iff_ne, bne_eq_false_iff_eq, beq_iff_eq, beq_eq_false_iff_ne, ne_eq, Int.not_lt, Int.not_le, Bool.and_eq_true, Bool.and_eq_false_iff, Bool.or_eq_true, Bool.or_eq_false_iff] at h))))
  · rw [lstR_no h]
    generalize lnM l c = b at h
    repeat' (first | simp -implicitDefEqProofs (maxSteps := 1000000) (disch := (first | omega | (simp only [go_sem] <;> omega) | fail)) only [go_sem, ints, bools, mat, reduceIte, Nat.reduceEqDiff, Nat.reduceAdd, Nat.reduceBEq, Nat.reduceMul, Nat.reduceLeDiff, Nat.reduceLT, Nat.reduceMod, Nat.reduceDiv, Nat.reduceSub, reduceCtorEq] | ((first | refine goIf_b (fun h => ?_) (fun h => ?_) | refine goG_b (fun h => ?_) (fun h => ?_) | refine goTG_b (fun h => ?_) (fun h => ?_) | refine goOG_b (fun h => ?_) (fun h => ?_)) <;> ((try simp only [Bool.not_eq_true', Bool.not_eq_false'] at h); (try simp only [h]); (try simp only [decide_eq_true_eq, decide_eq_false_iff_not, bne_iff_ne, bne_eq_false_iff_eq, beq_iff_eq, beq_eq_false_iff_ne, ne_eq, Int.not_lt, Int.not_le, Bool.and_eq_true, Bool.and_eq_false_iff, Bool.or_eq_true, Bool.or_eq_false_iff] at h))))
    all_goals (exfalso; omega)
theorem FL_start (q : Int) (n : Nat) (A : List Int) : List.replicate (n + 1) (0 : Int) = FL n fun t => outS q n A 0 t := by
  symm
  refine FL_eq (by simp) fun j hj => ?_
  simp [outS, sumTo, hj]
theorem FL_row (a q : Int) (n w : Nat) : (List.replicate (n + 1) (0 : Int)).set 0 a = FL n fun k => a * rowN q w 0 k := by
  symm
  refine FL_eq (by simp) fun j hj => ?_
  rw [getD_set _ _ _ _ (by simp)]
  by_cases e : j = 0
  · subst e; rw [if_pos rfl]; simp [rowN]
  · rw [if_neg fun e' => e e'.symm]; simp [rowN, e, hj]
def rowF (a q : Int) (w i k j : Nat) : Int := a * (if k < j then rowN q w (i + 1) j else rowN q w i j)
theorem rowF_start (a q : Int) (n w i : Nat) : (FL n fun k => a * rowN q w i k) = FL n (rowF a q w i (i + 1)) := by
  refine FL_congr fun j _ => ?_
  unfold rowF
  split
  · rw [rowN_zero q w i j (by omega), rowN_zero q w (i + 1) j (by omega)]
  · rfl
theorem rowF_end (a q : Int) (n w i : Nat) : FL n (rowF a q w i 0) = FL n fun k => a * rowN q w (i + 1) k := by
  refine FL_congr fun j _ => ?_
  unfold rowF
  split
  · rfl
  · have : j = 0 := by omega
    subst this
    rw [rowN, mulB, dn, if_pos rfl, Int.mul_zero, Int.add_zero]
theorem rowF_step {a q b : Int} {n w i k : Nat} (hb : b = if i < w then -1 else q - 1) (h1 : 1 ≤ k) : (FL n (rowF a q w i k)).set k (a * rowN q w i k + b * (a * rowN q w i (k - 1))) = FL n (rowF a q w i (k - 1)) := by
  rw [FL_set]
  refine FL_congr fun j _ => ?_
  split
  · rename_i e
    subst e
    have e2 : rowN q w (i + 1) j = rowN q w i j + b * rowN q w i (j - 1) := by
      show rowN q w i j + (if i < w then -1 else q - 1) * (if j = 0 then 0 else rowN q w i (j - 1)) = _
      rw [← hb, if_neg (show ¬ j = 0 by omega)]
    rw [rowF, if_pos (by omega), e2, Int.mul_add, Int.mul_left_comm]
  · rename_i e
    unfold rowF
    split
    · rw [if_pos (by omega)]
    · rw [if_neg (by omega)]
theorem b_mul {b q y M : Int} (hq : 2 ≤ q ∧ q ≤ 3) (hb : b = -1 ∨ b = q - 1) (hy : -M ≤ y ∧ y ≤ M) : -(2 * M) ≤ b * y ∧ b * y ≤ 2 * M := by
  rcases (show b = -1 ∨ b = 1 ∨ b = 2 by omega) with rfl | rfl | rfl <;> omega
theorem out_step {q : Int} {n w j : Nat} {A : List Int} (hj : j < n + 1) : (FL n fun t => if t < j then outS q n A (w + 1) t else outS q n A w t).set j (outS q n A w j + A.getD w 0 * rowN q w n j) = FL n fun t => if t < j + 1 then outS q n A (w + 1) t else outS q n A w t := by
  rw [FL_set]
  refine FL_congr fun t _ => ?_
  split
  · rename_i e; subst e; rw [if_pos (by omega)]; rfl
  · rename_i e
    by_cases h : t < j
    · rw [if_pos h, if_pos (by omega)]
    · rw [if_neg h, if_neg (by omega)]
theorem FL_all (n : Nat) (f g : Nat → Int) : (FL n fun t => if t < n + 1 then f t else g t) = FL n f := FL_congr fun t ht => by rw [if_pos ht]
theorem div_step2 {n j : Nat} {f : Nat → Nat} {g : Nat → Int} (hj : j < n + 1) : (FL n fun t => if t < j then (f t : Int) else g t).set j (f j) = FL n fun t => if t < j + 1 then (f t : Int) else g t := by
  rw [FL_set]
  refine FL_congr fun t _ => ?_
  split
  · rename_i e; subst e; rw [if_pos (by omega)]
  · rename_i e
    by_cases h : t < j
    · rw [if_pos h, if_pos (by omega)]
    · rw [if_neg h, if_neg (by omega)]
theorem d_spec_DualCounts (l c : List Int) (hl : l.length < 1048577) (hc : c.length < 1048577) : Den PA f_spec_DualCounts [.d (.agg [ints l]), .d (ints c)] [.any, .any] (lstR (lnM l c) (wcountM l (duM l c))) := by
  refine den_go [] l_spec_DualCounts ?_
  repeat' (first | simp -implicitDefEqProofs (maxSteps := 1000000) (disch := (first | omega | (simp only [go_sem] <;> omega) | fail)) only [go_sem, ints, bools, mat, reduceIte, Nat.reduceEqDiff, Nat.reduceAdd, Nat.reduceBEq, Nat.reduceMul, Nat.reduceLeDiff, Nat.reduceLT, Nat.reduceMod, Nat.reduceDiv, Nat.reduceSub, reduceCtorEq, c_spec_DualCounts] | ((first | refine goIf_b (fun h => ?_) (fun h => ?_) | refine goG_b (fun h => ?_) (fun h => ?_) | refine goTG_b (fun h => ?_) (fun h => ?_) | refine goOG_b (fun h => ?_) (fun h => ?_)) <;> ((try simp only [Bool.not_eq_true', Bool.not_eq_false'] at h); (try simp only [h]); (try simp only [decide_eq_true_eq, decide_eq_false_iff_not, bne_iff_ne, bne_eq_false_iff_eq, beq_iff_eq, beq_eq_false_iff_ne, ne_eq, Int.not_lt, Int.not_le, Bool.and_eq_true, Bool.and_eq_false_iff, Bool.or_eq_true, Bool.or_eq_false_iff] at h))))
  first | refine goC_call [.r, .r] (d_spec_l05Given l c hl hc) ?_ | refine goOC_call [.r, .r] (d_spec_l05Given l c hl hc) ?_
  by_cases h : lnM l c = 0
  · rw [lstR_ok h, h]
    obtain ⟨hs, hcc, hlin⟩ := lnM_ok h
    have hn := isSpaceM_n hs
    have hp := isSpaceM_prod hs
    have hcs := code_small hs hcc
    have hq := (pq hs hlin (i := 0) (by omega)).2
    have hcl : (c.length : Int) ≤ 1024 ∧ 1 ≤ c.length := by
      have h0 := List.length_pos_of_mem (lin_has0 hs hcc hlin)
      rcases isCodeM_len hcc with h | h <;> omega
    have hend := outS_end hs hcc hlin
    have hdu := duW_list l c
    have hA : ∀ i, 0 ≤ (wcountM l c).getD i 0 ∧ (wcountM l c).getD i 0 ≤ 1024 := fun i => by
      have := hist_bnd (l.length + 1) (c.map fun u => distM l 0 u) i
      rw [List.length_map] at this
      rw [wcountM]; omega
    have hAl : (wcountM l c).length = l.length + 1 := by rw [wcountM, hist, foldl_hist_len, List.length_replicate]
    repeat' (first | simp -implicitDefEqProofs (maxSteps := 1000000) (disch := (first | omega | (simp only [go_sem] <;> omega) | fail)) only [go_sem, ints, bools, mat, reduceIte, Nat.reduceEqDiff, Nat.reduceAdd, Nat.reduceBEq, Nat.reduceMul, Nat.reduceLeDiff, Nat.reduceLT, Nat.reduceMod, Nat.reduceDiv, Nat.reduceSub, reduceCtorEq] | ((first | refine goIf_b (fun h => ?_) (fun h => ?_) | refine goG_b (fun h => ?_) (fun h => ?_) | refine goTG_b (fun h => ?_) (fun h => ?_) | refine goOG_b (fun h => ?_) (fun h => ?_)) <;> ((try simp only [Bool.not_eq_true', Bool.not_eq_false'] at h); (try simp only [h]); (try simp only [decide_eq_true_eq, decide_eq_false_iff_not, bne_iff_ne, bne_eq_false_iff_eq, beq_iff_eq, beq_eq_false_iff_ne, ne_eq, Int.not_lt, Int.not_le, Bool.and_eq_true, Bool.and_eq_false_iff, Bool.or_eq_true, Bool.or_eq_false_iff] at h))))
    first | refine goC_call [.r, .r] (d_spec_l05Counts l c hs hc hcs) ?_ | refine goOC_call [.r, .r] (d_spec_l05Counts l c hs hc hcs) ?_
    repeat' (first | simp -implicitDefEqProofs (maxSteps := 1000000) (disch := (first | omega | (simp only [go_sem] <;> omega) | fail)) only [go_sem, ints, bools, mat, reduceIte, Nat.reduceEqDiff, Nat.reduceAdd, Nat.reduceBEq, Nat.reduceMul, Nat.reduceLeDiff, Nat.reduceLT, Nat.reduceMod, Nat.reduceDiv, Nat.reduceSub, reduceCtorEq] | ((first | refine goIf_b (fun h => ?_) (fun h => ?_) | refine goG_b (fun h => ?_) (fun h => ?_) | refine goTG_b (fun h => ?_) (fun h => ?_) | refine goOG_b (fun h => ?_) (fun h => ?_)) <;> ((try simp only [Bool.not_eq_true', Bool.not_eq_false'] at h); (try simp only [h]); (try simp only [decide_eq_true_eq, decide_eq_false_iff_not, bne_iff_ne, bne_eq_false_iff_eq, beq_iff_eq, beq_eq_false_iff_ne, ne_eq, Int.not_lt, Int.not_le, Bool.and_eq_true, Bool.and_eq_false_iff, Bool.or_eq_true, Bool.or_eq_false_iff] at h))))
    generalize wcountM l c = A at hA hAl hend
    rw [← hdu]
    generalize hqe : l.getD 0 0 = q at hq hend
    refine go_loop (fun (w : Nat) => ⟨[(1, .d (ints c)), (2, .ref 0 0), (7, .d (di l.length)), (8, .sl 1 0 (l.length + 1) 1), (9, .sl 2 0 (l.length + 1) 1), (10, .d (di w))], [some (.var [ints l]), some (.dat 1 (A.map di)), some (.dat 1 ((FL l.length fun t => outS q l.length A w t).map di))]⟩) (fun w => w ≤ l.length + 1) (fun w => l.length + 1 - w) 0 ?_ ?_ ?_
    · simp -implicitDefEqProofs (maxSteps := 1000000) (disch := (first | omega | (simp only [go_sem] <;> omega) | fail)) only [go_sem, ints, bools, mat, reduceIte, Nat.reduceEqDiff, Nat.reduceAdd, Nat.reduceBEq, Nat.reduceMul, Nat.reduceLeDiff, Nat.reduceLT, Nat.reduceMod, Nat.reduceDiv, Nat.reduceSub, reduceCtorEq]
      rw [hAl, FL_start q l.length A]
    · simp
    · rintro w hw J hJ
      have hAw := hA w
      have hB : ∀ i k, i ≤ 8 → -6718464 ≤ A.getD w 0 * rowN q w i k ∧ A.getD w 0 * rowN q w i k ≤ 6718464 := fun i k hi => by
        have h1 := rowN_bnd hq w i k
        have h2 : (3 : Int) ^ i ≤ 6561 := by
          have : (3 : Nat) ^ i ≤ 3 ^ 8 := Nat.pow_le_pow_right (by omega) hi
          have e : (((3 : Nat) ^ i : Nat) : Int) = (3 : Int) ^ i := by simp
          omega
        have := mulb (M := 6561) hAw (r := rowN q w i k) ⟨by omega, by omega⟩
        omega
      repeat' (first | simp -implicitDefEqProofs (maxSteps := 1000000) (disch := (first | omega | (simp only [go_sem] <;> omega) | fail)) only [go_sem, ints, bools, mat, reduceIte, Nat.reduceEqDiff, Nat.reduceAdd, Nat.reduceBEq, Nat.reduceMul, Nat.reduceLeDiff, Nat.reduceLT, Nat.reduceMod, Nat.reduceDiv, Nat.reduceSub, reduceCtorEq] | ((first | refine goIf_b (fun h => ?_) (fun h => ?_) | refine goG_b (fun h => ?_) (fun h => ?_) | refine goTG_b (fun h => ?_) (fun h => ?_) | refine goOG_b (fun h => ?_) (fun h => ?_)) <;> ((try simp only [Bool.not_eq_true', Bool.not_eq_false'] at h); (try simp only [h]); (try simp only [decide_eq_true_eq, decide_eq_false_iff_not, bne_iff_ne, bne_eq_false_iff_eq, beq_iff_eq, beq_eq_false_iff_ne, ne_eq, Int.not_lt, Int.not_le, Bool.and_eq_true, Bool.and_eq_false_iff, Bool.or_eq_true, Bool.or_eq_false_iff] at h)) <;> (try (exfalso; omega))))
      · refine go_loop (fun (i : Nat) => ⟨[(1, .d (ints c)), (2, .ref 0 0), (7, .d (di l.length)), (8, .sl 1 0 (l.length + 1) 1), (9, .sl 2 0 (l.length + 1) 1), (10, .d (di w)), (11, .sl 3 0 (l.length + 1) 1), (12, .d (di i))], [some (.var [ints l]), some (.dat 1 (A.map di)), some (.dat 1 ((FL l.length fun t => outS q l.length A w t).map di)), some (.dat 1 ((FL l.length fun k => A.getD w 0 * rowN q w i k).map di))]⟩) (fun i => i ≤ l.length) (fun i => l.length - i) 0 ?_ ?_ ?_
        · simp -implicitDefEqProofs (maxSteps := 1000000) (disch := (first | omega | (simp only [go_sem] <;> omega) | fail)) only [go_sem, ints, bools, mat, reduceIte, Nat.reduceEqDiff, Nat.reduceAdd, Nat.reduceBEq, Nat.reduceMul, Nat.reduceLeDiff, Nat.reduceLT, Nat.reduceMod, Nat.reduceDiv, Nat.reduceSub, reduceCtorEq]
          rw [FL_row (A.getD w 0) q l.length w]
        · simp
        · rintro i hi I hI
          obtain ⟨b, hbe, hb⟩ : ∃ b : Int, b = (if i < w then -1 else q - 1) ∧ (b = -1 ∨ b = q - 1) := by
            by_cases e : i < w
            · exact ⟨-1, by rw [if_pos e], .inl rfl⟩
            · exact ⟨q - 1, by rw [if_neg e], .inr rfl⟩
          repeat' (first | simp -implicitDefEqProofs (maxSteps := 1000000) (disch := (first | omega | (simp only [go_sem] <;> omega) | fail)) only [go_sem, ints, bools, mat, reduceIte, Nat.reduceEqDiff, Nat.reduceAdd, Nat.reduceBEq, Nat.reduceMul, Nat.reduceLeDiff, Nat.reduceLT, Nat.reduceMod, Nat.reduceDiv, Nat.reduceSub, reduceCtorEq] | ((first | refine goIf_b (fun h => ?_) (fun h => ?_) | refine goG_b (fun h => ?_) (fun h => ?_) | refine goTG_b (fun h => ?_) (fun h => ?_) | refine goOG_b (fun h => ?_) (fun h => ?_)) <;> ((try simp only [Bool.not_eq_true', Bool.not_eq_false'] at h); (try simp only [h]); (try simp only [decide_eq_true_eq, decide_eq_false_iff_not, bne_iff_ne, bne_eq_false_iff_eq, beq_iff_eq, beq_eq_false_iff_ne, ne_eq, Int.not_lt, Int.not_le, Bool.and_eq_true, Bool.and_eq_false_iff, Bool.or_eq_true, Bool.or_eq_false_iff] at h)) <;> (try (exfalso; omega))))
          rotate_right
          · have : i = l.length := by omega
            subst this
            refine go_loop (fun (j : Nat) => ⟨[(1, .d (ints c)), (2, .ref 0 0), (7, .d (di l.length)), (8, .sl 1 0 (l.length + 1) 1), (9, .sl 2 0 (l.length + 1) 1), (10, .d (di w)), (11, .sl 3 0 (l.length + 1) 1), (81, .d (di (l.length + 1 : Nat))), (82, .d (di j))], [some (.var [ints l]), some (.dat 1 (A.map di)), some (.dat 1 ((FL l.length fun t => if t < j then outS q l.length A (w + 1) t else outS q l.length A w t).map di)), some (.dat 1 ((FL l.length fun k => A.getD w 0 * rowN q w l.length k).map di))]⟩) (fun j => j ≤ l.length + 1) (fun j => l.length + 1 - j) 0 ?_ ?_ ?_
            · simp -implicitDefEqProofs (maxSteps := 1000000) (disch := (first | omega | (simp only [go_sem] <;> omega) | fail)) only [go_sem, ints, bools, mat, reduceIte, Nat.reduceEqDiff, Nat.reduceAdd, Nat.reduceBEq, Nat.reduceMul, Nat.reduceLeDiff, Nat.reduceLT, Nat.reduceMod, Nat.reduceDiv, Nat.reduceSub, reduceCtorEq]
              rfl
            · simp
            · rintro j hj N hN
              have hg1 := fun h => FL_get (n := l.length) (j := j) (fun t => if t < j then outS q l.length A (w + 1) t else outS q l.length A w t) h
              rw [if_neg (Nat.lt_irrefl j)] at hg1
              have hg2 := fun h => FL_get (n := l.length) (j := j) (fun k => A.getD w 0 * rowN q w l.length k) h
              have ho := outS_bnd hq hn.2 hA j w
              have hr := hB l.length j hn.2
              have hst := fun h => out_step (q := q) (n := l.length) (w := w) (j := j) (A := A) h
              repeat' (first | simp -implicitDefEqProofs (maxSteps := 1000000) (disch := (first | omega | (simp only [go_sem] <;> omega) | fail)) only [go_sem, ints, bools, mat, reduceIte, Nat.reduceEqDiff, Nat.reduceAdd, Nat.reduceBEq, Nat.reduceMul, Nat.reduceLeDiff, Nat.reduceLT, Nat.reduceMod, Nat.reduceDiv, Nat.reduceSub, reduceCtorEq] | ((first | refine goIf_b (fun h => ?_) (fun h => ?_) | refine goG_b (fun h => ?_) (fun h => ?_) | refine goTG_b (fun h => ?_) (fun h => ?_) | refine goOG_b (fun h => ?_) (fun h => ?_)) <;> ((try simp only [Bool.not_eq_true', Bool.not_eq_false'] at h); (try simp only [h]); (try simp only [decide_eq_true_eq, decide_eq_false_iff_not, bne_iff_ne, bne_eq_false_iff_eq, beq_iff_eq, beq_eq_false_iff_ne, ne_eq, Int.not_lt, Int.not_le, Bool.and_eq_true, Bool.and_eq_false_iff, Bool.or_eq_true, Bool.or_eq_false_iff] at h)) <;> (try (exfalso; omega))))
              · rw [hg1 (by omega), hg2 (by omega), hst (by omega)]
                refine hN (j + 1) (by omega) (by omega) _ ?_
                (simp -implicitDefEqProofs (maxSteps := 1000000) (disch := (first | omega | (simp only [go_sem] <;> omega) | fail)) only [go_sem, ints, bools, mat, reduceIte, Nat.reduceEqDiff, Nat.reduceAdd, Nat.reduceBEq, Nat.reduceMul, Nat.reduceLeDiff, Nat.reduceLT, Nat.reduceMod, Nat.reduceDiv, Nat.reduceSub, reduceCtorEq] <;> rfl)
              · have : j = l.length + 1 := by omega
                subst this
                refine hJ (w + 1) (by omega) (by omega) _ ?_
                simp -implicitDefEqProofs (maxSteps := 1000000) (disch := (first | omega | (simp only [go_sem] <;> omega) | fail)) only [go_sem, ints, bools, mat, reduceIte, Nat.reduceEqDiff, Nat.reduceAdd, Nat.reduceBEq, Nat.reduceMul, Nat.reduceLeDiff, Nat.reduceLT, Nat.reduceMod, Nat.reduceDiv, Nat.reduceSub, reduceCtorEq]
                rw [FL_all]; rfl
          all_goals refine go_loop (fun (k : Nat) => ⟨[(1, .d (ints c)), (2, .ref 0 0), (7, .d (di l.length)), (8, .sl 1 0 (l.length + 1) 1), (9, .sl 2 0 (l.length + 1) 1), (10, .d (di w)), (11, .sl 3 0 (l.length + 1) 1), (12, .d (di i)), (13, .d (di b)), (14, .d (di k))], [some (.var [ints l]), some (.dat 1 (A.map di)), some (.dat 1 ((FL l.length fun t => outS q l.length A w t).map di)), some (.dat 1 ((FL l.length (rowF (A.getD w 0) q w i k)).map di))]⟩) (fun k => k ≤ i + 1) (fun k => k) (i + 1) ?_ (Nat.le_refl _) ?_
          · simp -implicitDefEqProofs (maxSteps := 1000000) (disch := (first | omega | (simp only [go_sem] <;> omega) | fail)) only [go_sem, ints, bools, mat, reduceIte, Nat.reduceEqDiff, Nat.reduceAdd, Nat.reduceBEq, Nat.reduceMul, Nat.reduceLeDiff, Nat.reduceLT, Nat.reduceMod, Nat.reduceDiv, Nat.reduceSub, reduceCtorEq]
            rw [hbe, if_pos (by omega), rowF_start]; rfl
          rotate_left
          · simp -implicitDefEqProofs (maxSteps := 1000000) (disch := (first | omega | (simp only [go_sem] <;> omega) | fail)) only [go_sem, ints, bools, mat, reduceIte, Nat.reduceEqDiff, Nat.reduceAdd, Nat.reduceBEq, Nat.reduceMul, Nat.reduceLeDiff, Nat.reduceLT, Nat.reduceMod, Nat.reduceDiv, Nat.reduceSub, reduceCtorEq]
            try rw [hqe]
            rw [hbe, if_neg (by omega), rowF_start]; rfl
          all_goals
            rintro k hk N hN
            have hg1 := fun h => FL_get (n := l.length) (j := k) (rowF (A.getD w 0) q w i k) h
            have hg2 := fun h => FL_get (n := l.length) (j := k - 1) (rowF (A.getD w 0) q w i k) h
            have e1 : rowF (A.getD w 0) q w i k k = A.getD w 0 * rowN q w i k := by rw [rowF, if_neg (by omega)]
            have e2 : 1 ≤ k → rowF (A.getD w 0) q w i k (k - 1) = A.getD w 0 * rowN q w i (k - 1) := fun h => by rw [rowF, if_neg (by omega)]
            have hr1 := hB i k (by omega)
            have hr2 := hB i (k - 1) (by omega)
            have hbm := b_mul (M := 6718464) hq hb hr2
            have hst := fun h => rowF_step (a := A.getD w 0) (n := l.length) (k := k) hbe h
            repeat' (first | simp -implicitDefEqProofs (maxSteps := 1000000) (disch := (first | omega | (simp only [go_sem] <;> omega) | fail)) only [go_sem, ints, bools, mat, reduceIte, Nat.reduceEqDiff, Nat.reduceAdd, Nat.reduceBEq, Nat.reduceMul, Nat.reduceLeDiff, Nat.reduceLT, Nat.reduceMod, Nat.reduceDiv, Nat.reduceSub, reduceCtorEq] | ((first | refine goIf_b (fun h => ?_) (fun h => ?_) | refine goG_b (fun h => ?_) (fun h => ?_) | refine goTG_b (fun h => ?_) (fun h => ?_) | refine goOG_b (fun h => ?_) (fun h => ?_)) <;> ((try simp only [Bool.not_eq_true', Bool.not_eq_false'] at h); (try simp only [h]); (try simp only [decide_eq_true_eq, decide_eq_false_iff_not, bne_iff_ne, bne_eq_false_iff_eq, beq_iff_eq, beq_eq_false_iff_ne, ne_eq, Int.not_lt, Int.not_le, Bool.and_eq_true, Bool.and_eq_false_iff, Bool.or_eq_true, Bool.or_eq_false_iff] at h)) <;> (try (exfalso; omega))))
            · rw [hg1 (by omega), hg2 (by omega), e1, e2 (by omega)]
              rw [wrap64 (x := b * (A.getD w 0 * rowN q w i (k - 1))) (by omega) (by omega), wrap64 (by omega) (by omega)]
              refine hN (k - 1) (by omega) (by omega) _ ?_
              simp -implicitDefEqProofs (maxSteps := 1000000) (disch := (first | omega | (simp only [go_sem] <;> omega) | fail)) only [go_sem, ints, bools, mat, reduceIte, Nat.reduceEqDiff, Nat.reduceAdd, Nat.reduceBEq, Nat.reduceMul, Nat.reduceLeDiff, Nat.reduceLT, Nat.reduceMod, Nat.reduceDiv, Nat.reduceSub, reduceCtorEq]
              rw [hst (by omega)]; simp [-List.getD_eq_getElem?_getD]; omega
            · have : k = 0 := by omega
              subst this
              refine hI (i + 1) (by omega) (by omega) _ ?_
              simp -implicitDefEqProofs (maxSteps := 1000000) (disch := (first | omega | (simp only [go_sem] <;> omega) | fail)) only [go_sem, ints, bools, mat, reduceIte, Nat.reduceEqDiff, Nat.reduceAdd, Nat.reduceBEq, Nat.reduceMul, Nat.reduceLeDiff, Nat.reduceLT, Nat.reduceMod, Nat.reduceDiv, Nat.reduceSub, reduceCtorEq]
              rw [rowF_end]; rfl
      · have : w = l.length + 1 := by omega
        subst this
        refine go_loop (fun (j : Nat) => ⟨[(1, .d (ints c)), (9, .sl 0 0 (l.length + 1) 1), (99, .d (di (l.length + 1 : Nat))), (100, .d (di j))], [some (.dat 1 ((FL l.length fun t => if t < j then (duW l c t : Int) else outS q l.length A (l.length + 1) t).map di))]⟩) (fun j => j ≤ l.length + 1) (fun j => l.length + 1 - j) 0 ?_ ?_ ?_
        · simp -implicitDefEqProofs (maxSteps := 1000000) (disch := (first | omega | (simp only [go_sem] <;> omega) | fail)) only [go_sem, ints, bools, mat, reduceIte, Nat.reduceEqDiff, Nat.reduceAdd, Nat.reduceBEq, Nat.reduceMul, Nat.reduceLeDiff, Nat.reduceLT, Nat.reduceMod, Nat.reduceDiv, Nat.reduceSub, reduceCtorEq]
          rfl
        · simp
        · rintro j hj N hN
          have hg1 := fun h => FL_get (n := l.length) (j := j) (fun t => if t < j then (duW l c t : Int) else outS q l.length A (l.length + 1) t) h
          rw [if_neg (Nat.lt_irrefl j), hend] at hg1
          have hdb : duW l c j ≤ 1024 := by
            have hal := allW_len l
            have : (duM l c).length ≤ 1024 := filter_len_le _ _ 1024 (by omega)
            exact Nat.le_trans (List.length_filter_le _ _) this
          have hnn : 0 ≤ (c.length : Int) * (duW l c j : Int) := Int.mul_nonneg (by omega) (by omega)
          have hdv : (c.length : Int) * (duW l c j : Int) / (c.length : Int) = duW l c j := Int.mul_ediv_cancel_left _ (by omega)
          repeat' (first | simp -implicitDefEqProofs (maxSteps := 1000000) (disch := (first | omega | (simp only [go_sem] <;> omega) | fail)) only [go_sem, ints, bools, mat, reduceIte, Nat.reduceEqDiff, Nat.reduceAdd, Nat.reduceBEq, Nat.reduceMul, Nat.reduceLeDiff, Nat.reduceLT, Nat.reduceMod, Nat.reduceDiv, Nat.reduceSub, reduceCtorEq] | ((first | refine goIf_b (fun h => ?_) (fun h => ?_) | refine goG_b (fun h => ?_) (fun h => ?_) | refine goTG_b (fun h => ?_) (fun h => ?_) | refine goOG_b (fun h => ?_) (fun h => ?_)) <;> ((try simp only [Bool.not_eq_true', Bool.not_eq_false'] at h); (try simp only [h]); (try simp only [decide_eq_true_eq, decide_eq_false_iff_not, bne_iff_ne, bne_eq_false_iff_eq, beq_iff_eq, beq_eq_false_iff_ne, ne_eq, Int.not_lt, Int.not_le, Bool.and_eq_true, Bool.and_eq_false_iff, Bool.or_eq_true, Bool.or_eq_false_iff] at h)) <;> (try (exfalso; omega))))
          · rw [hg1 (by omega), hdv, wrap64 (by omega) (by omega)]
            refine hN (j + 1) (by omega) (by omega) _ ?_
            simp -implicitDefEqProofs (maxSteps := 1000000) (disch := (first | omega | (simp only [go_sem] <;> omega) | fail)) only [go_sem, ints, bools, mat, reduceIte, Nat.reduceEqDiff, Nat.reduceAdd, Nat.reduceBEq, Nat.reduceMul, Nat.reduceLeDiff, Nat.reduceLT, Nat.reduceMod, Nat.reduceDiv, Nat.reduceSub, reduceCtorEq]
            rw [div_step2 (f := duW l c) (by omega)]; rfl
          · have : j = l.length + 1 := by omega
            subst this
            rw [FL_all]
  · rw [lstR_no h]
    generalize lnM l c = b at h
    repeat' (first | simp -implicitDefEqProofs (maxSteps := 1000000) (disch := (first | omega | (simp only [go_sem] <;> omega) | fail)) only [go_sem, ints, bools, mat, reduceIte, Nat.reduceEqDiff, Nat.reduceAdd, Nat.reduceBEq, Nat.reduceMul, Nat.reduceLeDiff, Nat.reduceLT, Nat.reduceMod, Nat.reduceDiv, Nat.reduceSub, reduceCtorEq] | ((first | refine goIf_b (fun h => ?_) (fun h => ?_) | refine goG_b (fun h => ?_) (fun h => ?_) | refine goTG_b (fun h => ?_) (fun h => ?_) | refine goOG_b (fun h => ?_) (fun h => ?_)) <;> ((try simp only [Bool.not_eq_true', Bool.not_eq_false'] at h); (try simp only [h]); (try simp only [decide_eq_true_eq, decide_eq_false_iff_not, bne_iff_ne, bne_eq_false_iff_eq, beq_iff_eq, beq_eq_false_iff_ne, ne_eq, Int.not_lt, Int.not_le, Bool.and_eq_true, Bool.and_eq_false_iff, Bool.or_eq_true, Bool.or_eq_false_iff] at h))))
    all_goals (exfalso; omega)
theorem d_laws_FnExactDualCounts (x0 : D) (l0 : List Int) (hx0 : IsInts x0 l0) (hl0 : l0.length ≤ maxLen) (hi0 : ∀ n, n ∈ l0 → in64 n) (x1 : D) (l1 : List Int) (hx1 : IsInts x1 l1) (hl1 : l1.length ≤ maxLen) (hi1 : ∀ n, n ∈ l1 → in64 n) :
    Den PA f_laws_FnExactDualCounts [.d (.agg [x0]), .d x1] [.any, .any] (.d (db true)) := by
  have ly1 := lenA_is hx1
  refine den_go [] l_laws_FnExactDualCounts ?_
  repeat' (first | simp -implicitDefEqProofs (maxSteps := 1000000) (disch := (first | omega | (simp only [go_sem] <;> omega) | fail)) only [go_sem, ints, bools, mat, reduceIte, Nat.reduceEqDiff, Nat.reduceAdd, Nat.reduceBEq, Nat.reduceMul, Nat.reduceLeDiff, Nat.reduceLT, Nat.reduceMod, Nat.reduceDiv, Nat.reduceSub, reduceCtorEq, c_laws_FnExactDualCounts, ly1] | ((first | refine goIf_b (fun h => ?_) (fun h => ?_) | refine goG_b (fun h => ?_) (fun h => ?_) | refine goTG_b (fun h => ?_) (fun h => ?_) | refine goOG_b (fun h => ?_) (fun h => ?_)) <;> ((try simp only [Bool.not_eq_true', Bool.not_eq_false'] at h); (try simp only [h]); (try simp only [decide_eq_true_eq, decide_eq_false_iff_not, bne_iff_ne, bne_eq_false_iff_eq, beq_iff_eq, beq_eq_false_iff_ne, ne_eq, Int.not_lt, Int.not_le, Bool.and_eq_true, Bool.and_eq_false_iff, Bool.or_eq_true, Bool.or_eq_false_iff] at h))))
  first | refine goC_call [.r, .r] (d_laws_szSpace x0 l0 hx0 1048576 hl0 (by omega) (by omega)) ?_ | refine goOC_call [.r, .r] (d_laws_szSpace x0 l0 hx0 1048576 hl0 (by omega) (by omega)) ?_
  repeat' (first | simp -implicitDefEqProofs (maxSteps := 1000000) (disch := (first | omega | (simp only [go_sem] <;> omega) | fail)) only [go_sem, ints, bools, mat, reduceIte, Nat.reduceEqDiff, Nat.reduceAdd, Nat.reduceBEq, Nat.reduceMul, Nat.reduceLeDiff, Nat.reduceLT, Nat.reduceMod, Nat.reduceDiv, Nat.reduceSub, reduceCtorEq] | ((first | refine goIf_b (fun h => ?_) (fun h => ?_) | refine goG_b (fun h => ?_) (fun h => ?_) | refine goTG_b (fun h => ?_) (fun h => ?_) | refine goOG_b (fun h => ?_) (fun h => ?_)) <;> ((try simp only [Bool.not_eq_true', Bool.not_eq_false'] at h); (try simp only [h]); (try simp only [decide_eq_true_eq, decide_eq_false_iff_not, bne_iff_ne, bne_eq_false_iff_eq, beq_iff_eq, beq_eq_false_iff_ne, ne_eq, Int.not_lt, Int.not_le, Bool.and_eq_true, Bool.and_eq_false_iff, Bool.or_eq_true, Bool.or_eq_false_iff] at h))))
  have hz0 := sz_ok h
  have hsp := d_spec_DualCounts l0 l1 (by omega) (by omega)
  have him := d_impl_DualCounts l0 l1 (by omega) (by omega)
  by_cases hb : lnM l0 l1 = 0
  · rw [lstR_ok hb] at hsp him
    have hlm := lnM_ok hb
    have hsn := isSpaceM_n hlm.1
    have hv : (wcountM l0 (duM l0 l1)).length = l0.length + 1 := by rw [wcountM, hist, foldl_hist_len, List.length_replicate]
    repeat' (first | simp -implicitDefEqProofs (maxSteps := 1000000) (disch := (first | omega | (simp only [go_sem] <;> omega) | fail)) only [go_sem, ints, bools, mat, reduceIte, Nat.reduceEqDiff, Nat.reduceAdd, Nat.reduceBEq, Nat.reduceMul, Nat.reduceLeDiff, Nat.reduceLT, Nat.reduceMod, Nat.reduceDiv, Nat.reduceSub, reduceCtorEq] | ((first | refine goIf_b (fun h => ?_) (fun h => ?_) | refine goG_b (fun h => ?_) (fun h => ?_) | refine goTG_b (fun h => ?_) (fun h => ?_) | refine goOG_b (fun h => ?_) (fun h => ?_)) <;> ((try simp only [Bool.not_eq_true', Bool.not_eq_false'] at h); (try simp only [h]); (try simp only [decide_eq_true_eq, decide_eq_false_iff_not, bne_iff_ne, bne_eq_false_iff_eq, beq_iff_eq, beq_eq_false_iff_ne, ne_eq, Int.not_lt, Int.not_le, Bool.and_eq_true, Bool.and_eq_false_iff, Bool.or_eq_true, Bool.or_eq_false_iff] at h)) <;> (try (exfalso; omega))) | ((first | refine goC_call [.r] (d_laws_toSpace x0 l0 hx0 (by omega)) ?_ | refine goOC_call [.r] (d_laws_toSpace x0 l0 hx0 (by omega)) ?_); simp -implicitDefEqProofs (maxSteps := 1000000) (disch := (first | omega | (simp only [go_sem] <;> omega) | fail)) only [go_sem, ints, bools, mat, reduceIte, Nat.reduceEqDiff, Nat.reduceAdd, Nat.reduceBEq, Nat.reduceMul, Nat.reduceLeDiff, Nat.reduceLT, Nat.reduceMod, Nat.reduceDiv, Nat.reduceSub, reduceCtorEq]; fail_if_success (with_reducible show chk _ _)) | ((first | refine goC_call [.r, .r] (d_laws_eqSpace l0 l0 (by omega)) ?_ | refine goOC_call [.r, .r] (d_laws_eqSpace l0 l0 (by omega)) ?_); simp -implicitDefEqProofs (maxSteps := 1000000) (disch := (first | omega | (simp only [go_sem] <;> omega) | fail)) only [go_sem, ints, bools, mat, reduceIte, Nat.reduceEqDiff, Nat.reduceAdd, Nat.reduceBEq, Nat.reduceMul, Nat.reduceLeDiff, Nat.reduceLT, Nat.reduceMod, Nat.reduceDiv, Nat.reduceSub, reduceCtorEq]; fail_if_success (with_reducible show chk _ _)) | ((first | refine goC_call [.r] (d_laws_toInt64S x1 l1 hx1 (by omega)) ?_ | refine goOC_call [.r] (d_laws_toInt64S x1 l1 hx1 (by omega)) ?_); simp -implicitDefEqProofs (maxSteps := 1000000) (disch := (first | omega | (simp only [go_sem] <;> omega) | fail)) only [go_sem, ints, bools, mat, reduceIte, Nat.reduceEqDiff, Nat.reduceAdd, Nat.reduceBEq, Nat.reduceMul, Nat.reduceLeDiff, Nat.reduceLT, Nat.reduceMod, Nat.reduceDiv, Nat.reduceSub, reduceCtorEq]; fail_if_success (with_reducible show chk _ _)) | ((first | refine goC_call [.r, .r] (d_laws_eqInt64S l1 l1 (by omega)) ?_ | refine goOC_call [.r, .r] (d_laws_eqInt64S l1 l1 (by omega)) ?_); simp -implicitDefEqProofs (maxSteps := 1000000) (disch := (first | omega | (simp only [go_sem] <;> omega) | fail)) only [go_sem, ints, bools, mat, reduceIte, Nat.reduceEqDiff, Nat.reduceAdd, Nat.reduceBEq, Nat.reduceMul, Nat.reduceLeDiff, Nat.reduceLT, Nat.reduceMod, Nat.reduceDiv, Nat.reduceSub, reduceCtorEq]; fail_if_success (with_reducible show chk _ _)) | ((first | refine goC_call [.r, .r] (hsp) ?_ | refine goOC_call [.r, .r] (hsp) ?_); simp -implicitDefEqProofs (maxSteps := 1000000) (disch := (first | omega | (simp only [go_sem] <;> omega) | fail)) only [go_sem, ints, bools, mat, reduceIte, Nat.reduceEqDiff, Nat.reduceAdd, Nat.reduceBEq, Nat.reduceMul, Nat.reduceLeDiff, Nat.reduceLT, Nat.reduceMod, Nat.reduceDiv, Nat.reduceSub, reduceCtorEq]; fail_if_success (with_reducible show chk _ _)) | ((first | refine goC_call [.r, .r] (him) ?_ | refine goOC_call [.r, .r] (him) ?_); simp -implicitDefEqProofs (maxSteps := 1000000) (disch := (first | omega | (simp only [go_sem] <;> omega) | fail)) only [go_sem, ints, bools, mat, reduceIte, Nat.reduceEqDiff, Nat.reduceAdd, Nat.reduceBEq, Nat.reduceMul, Nat.reduceLeDiff, Nat.reduceLT, Nat.reduceMod, Nat.reduceDiv, Nat.reduceSub, reduceCtorEq]; fail_if_success (with_reducible show chk _ _)) | ((first | refine goC_call [.r, .r] (d_laws_eqInt64S (wcountM l0 (duM l0 l1)) (wcountM l0 (duM l0 l1)) (by omega)) ?_ | refine goOC_call [.r, .r] (d_laws_eqInt64S (wcountM l0 (duM l0 l1)) (wcountM l0 (duM l0 l1)) (by omega)) ?_); simp -implicitDefEqProofs (maxSteps := 1000000) (disch := (first | omega | (simp only [go_sem] <;> omega) | fail)) only [go_sem, ints, bools, mat, reduceIte, Nat.reduceEqDiff, Nat.reduceAdd, Nat.reduceBEq, Nat.reduceMul, Nat.reduceLeDiff, Nat.reduceLT, Nat.reduceMod, Nat.reduceDiv, Nat.reduceSub, reduceCtorEq]; fail_if_success (with_reducible show chk _ _)) | ((first | refine goC_call [.a [.o], .r] (d_laws_markSpace l0 (1) (by omega) (by omega) (by omega)) ?_ | refine goOC_call [.a [.o], .r] (d_laws_markSpace l0 (1) (by omega) (by omega) (by omega)) ?_); simp -implicitDefEqProofs (maxSteps := 1000000) (disch := (first | omega | (simp only [go_sem] <;> omega) | fail)) only [go_sem, ints, bools, mat, reduceIte, Nat.reduceEqDiff, Nat.reduceAdd, Nat.reduceBEq, Nat.reduceMul, Nat.reduceLeDiff, Nat.reduceLT, Nat.reduceMod, Nat.reduceDiv, Nat.reduceSub, reduceCtorEq]; fail_if_success (with_reducible show chk _ _)) | ((first | refine goC_call [.o, .r] (d_laws_markInt64S l1 (1 + l0.length) (by omega) (by omega) (by omega)) ?_ | refine goOC_call [.o, .r] (d_laws_markInt64S l1 (1 + l0.length) (by omega) (by omega) (by omega)) ?_); simp -implicitDefEqProofs (maxSteps := 1000000) (disch := (first | omega | (simp only [go_sem] <;> omega) | fail)) only [go_sem, ints, bools, mat, reduceIte, Nat.reduceEqDiff, Nat.reduceAdd, Nat.reduceBEq, Nat.reduceMul, Nat.reduceLeDiff, Nat.reduceLT, Nat.reduceMod, Nat.reduceDiv, Nat.reduceSub, reduceCtorEq]; fail_if_success (with_reducible show chk _ _)) | ((first | refine goC_call [.o, .r] (d_laws_markInt64S (wcountM l0 (duM l0 l1)) 1 (by omega) (by omega) (by omega)) ?_ | refine goOC_call [.o, .r] (d_laws_markInt64S (wcountM l0 (duM l0 l1)) 1 (by omega) (by omega) (by omega)) ?_); simp -implicitDefEqProofs (maxSteps := 1000000) (disch := (first | omega | (simp only [go_sem] <;> omega) | fail)) only [go_sem, ints, bools, mat, reduceIte, Nat.reduceEqDiff, Nat.reduceAdd, Nat.reduceBEq, Nat.reduceMul, Nat.reduceLeDiff, Nat.reduceLT, Nat.reduceMod, Nat.reduceDiv, Nat.reduceSub, reduceCtorEq]; fail_if_success (with_reducible show chk _ _)) | ((first | refine goC_call [.r, .r] (d_laws_heldInt64S (wcountM l0 (duM l0 l1)).length 1 (by omega) (by omega) (by omega)) ?_ | refine goOC_call [.r, .r] (d_laws_heldInt64S (wcountM l0 (duM l0 l1)).length 1 (by omega) (by omega) (by omega)) ?_); simp -implicitDefEqProofs (maxSteps := 1000000) (disch := (first | omega | (simp only [go_sem] <;> omega) | fail)) only [go_sem, ints, bools, mat, reduceIte, Nat.reduceEqDiff, Nat.reduceAdd, Nat.reduceBEq, Nat.reduceMul, Nat.reduceLeDiff, Nat.reduceLT, Nat.reduceMod, Nat.reduceDiv, Nat.reduceSub, reduceCtorEq]; fail_if_success (with_reducible show chk _ _)))
  · rw [lstR_no hb] at hsp him
    generalize lnM l0 l1 = bb at hsp him hb
    repeat' (first | simp -implicitDefEqProofs (maxSteps := 1000000) (disch := (first | omega | (simp only [go_sem] <;> omega) | fail)) only [go_sem, ints, bools, mat, reduceIte, Nat.reduceEqDiff, Nat.reduceAdd, Nat.reduceBEq, Nat.reduceMul, Nat.reduceLeDiff, Nat.reduceLT, Nat.reduceMod, Nat.reduceDiv, Nat.reduceSub, reduceCtorEq] | ((first | refine goIf_b (fun h => ?_) (fun h => ?_) | refine goG_b (fun h => ?_) (fun h => ?_) | refine goTG_b (fun h => ?_) (fun h => ?_) | refine goOG_b (fun h => ?_) (fun h => ?_)) <;> ((try simp only [Bool.not_eq_true', Bool.not_eq_false'] at h); (try simp only [h]); (try simp only [decide_eq_true_eq, decide_eq_false_iff_not, bne_iff_ne, bne_eq_false_iff_eq, beq_iff_eq, beq_eq_false_iff_ne, ne_eq, Int.not_lt, Int.not_le, Bool.and_eq_true, Bool.and_eq_false_iff, Bool.or_eq_true, Bool.or_eq_false_iff] at h)) <;> (try (exfalso; omega))) | ((first | refine goC_call [.r] (d_laws_toSpace x0 l0 hx0 (by omega)) ?_ | refine goOC_call [.r] (d_laws_toSpace x0 l0 hx0 (by omega)) ?_); simp -implicitDefEqProofs (maxSteps := 1000000) (disch := (first | omega | (simp only [go_sem] <;> omega) | fail)) only [go_sem, ints, bools, mat, reduceIte, Nat.reduceEqDiff, Nat.reduceAdd, Nat.reduceBEq, Nat.reduceMul, Nat.reduceLeDiff, Nat.reduceLT, Nat.reduceMod, Nat.reduceDiv, Nat.reduceSub, reduceCtorEq]; fail_if_success (with_reducible show chk _ _)) | ((first | refine goC_call [.r, .r] (d_laws_eqSpace l0 l0 (by omega)) ?_ | refine goOC_call [.r, .r] (d_laws_eqSpace l0 l0 (by omega)) ?_); simp -implicitDefEqProofs (maxSteps := 1000000) (disch := (first | omega | (simp only [go_sem] <;> omega) | fail)) only [go_sem, ints, bools, mat, reduceIte, Nat.reduceEqDiff, Nat.reduceAdd, Nat.reduceBEq, Nat.reduceMul, Nat.reduceLeDiff, Nat.reduceLT, Nat.reduceMod, Nat.reduceDiv, Nat.reduceSub, reduceCtorEq]; fail_if_success (with_reducible show chk _ _)) | ((first | refine goC_call [.r] (d_laws_toInt64S x1 l1 hx1 (by omega)) ?_ | refine goOC_call [.r] (d_laws_toInt64S x1 l1 hx1 (by omega)) ?_); simp -implicitDefEqProofs (maxSteps := 1000000) (disch := (first | omega | (simp only [go_sem] <;> omega) | fail)) only [go_sem, ints, bools, mat, reduceIte, Nat.reduceEqDiff, Nat.reduceAdd, Nat.reduceBEq, Nat.reduceMul, Nat.reduceLeDiff, Nat.reduceLT, Nat.reduceMod, Nat.reduceDiv, Nat.reduceSub, reduceCtorEq]; fail_if_success (with_reducible show chk _ _)) | ((first | refine goC_call [.r, .r] (d_laws_eqInt64S l1 l1 (by omega)) ?_ | refine goOC_call [.r, .r] (d_laws_eqInt64S l1 l1 (by omega)) ?_); simp -implicitDefEqProofs (maxSteps := 1000000) (disch := (first | omega | (simp only [go_sem] <;> omega) | fail)) only [go_sem, ints, bools, mat, reduceIte, Nat.reduceEqDiff, Nat.reduceAdd, Nat.reduceBEq, Nat.reduceMul, Nat.reduceLeDiff, Nat.reduceLT, Nat.reduceMod, Nat.reduceDiv, Nat.reduceSub, reduceCtorEq]; fail_if_success (with_reducible show chk _ _)) | ((first | refine goC_call [.r, .r] (hsp) ?_ | refine goOC_call [.r, .r] (hsp) ?_); simp -implicitDefEqProofs (maxSteps := 1000000) (disch := (first | omega | (simp only [go_sem] <;> omega) | fail)) only [go_sem, ints, bools, mat, reduceIte, Nat.reduceEqDiff, Nat.reduceAdd, Nat.reduceBEq, Nat.reduceMul, Nat.reduceLeDiff, Nat.reduceLT, Nat.reduceMod, Nat.reduceDiv, Nat.reduceSub, reduceCtorEq]; fail_if_success (with_reducible show chk _ _)) | ((first | refine goC_call [.r, .r] (him) ?_ | refine goOC_call [.r, .r] (him) ?_); simp -implicitDefEqProofs (maxSteps := 1000000) (disch := (first | omega | (simp only [go_sem] <;> omega) | fail)) only [go_sem, ints, bools, mat, reduceIte, Nat.reduceEqDiff, Nat.reduceAdd, Nat.reduceBEq, Nat.reduceMul, Nat.reduceLeDiff, Nat.reduceLT, Nat.reduceMod, Nat.reduceDiv, Nat.reduceSub, reduceCtorEq]; fail_if_success (with_reducible show chk _ _)) | ((first | refine goC_call [.r, .r] (d_laws_eqInt64S_nil) ?_ | refine goOC_call [.r, .r] (d_laws_eqInt64S_nil) ?_); simp -implicitDefEqProofs (maxSteps := 1000000) (disch := (first | omega | (simp only [go_sem] <;> omega) | fail)) only [go_sem, ints, bools, mat, reduceIte, Nat.reduceEqDiff, Nat.reduceAdd, Nat.reduceBEq, Nat.reduceMul, Nat.reduceLeDiff, Nat.reduceLT, Nat.reduceMod, Nat.reduceDiv, Nat.reduceSub, reduceCtorEq]; fail_if_success (with_reducible show chk _ _)) | ((first | refine goC_call [.a [.o], .r] (d_laws_markSpace l0 (1) (by omega) (by omega) (by omega)) ?_ | refine goOC_call [.a [.o], .r] (d_laws_markSpace l0 (1) (by omega) (by omega) (by omega)) ?_); simp -implicitDefEqProofs (maxSteps := 1000000) (disch := (first | omega | (simp only [go_sem] <;> omega) | fail)) only [go_sem, ints, bools, mat, reduceIte, Nat.reduceEqDiff, Nat.reduceAdd, Nat.reduceBEq, Nat.reduceMul, Nat.reduceLeDiff, Nat.reduceLT, Nat.reduceMod, Nat.reduceDiv, Nat.reduceSub, reduceCtorEq]; fail_if_success (with_reducible show chk _ _)) | ((first | refine goC_call [.o, .r] (d_laws_markInt64S l1 (1 + l0.length) (by omega) (by omega) (by omega)) ?_ | refine goOC_call [.o, .r] (d_laws_markInt64S l1 (1 + l0.length) (by omega) (by omega) (by omega)) ?_); simp -implicitDefEqProofs (maxSteps := 1000000) (disch := (first | omega | (simp only [go_sem] <;> omega) | fail)) only [go_sem, ints, bools, mat, reduceIte, Nat.reduceEqDiff, Nat.reduceAdd, Nat.reduceBEq, Nat.reduceMul, Nat.reduceLeDiff, Nat.reduceLT, Nat.reduceMod, Nat.reduceDiv, Nat.reduceSub, reduceCtorEq]; fail_if_success (with_reducible show chk _ _)) | ((first | refine goC_call [.o, .r] (d_laws_markInt64S_nil 1) ?_ | refine goOC_call [.o, .r] (d_laws_markInt64S_nil 1) ?_); simp -implicitDefEqProofs (maxSteps := 1000000) (disch := (first | omega | (simp only [go_sem] <;> omega) | fail)) only [go_sem, ints, bools, mat, reduceIte, Nat.reduceEqDiff, Nat.reduceAdd, Nat.reduceBEq, Nat.reduceMul, Nat.reduceLeDiff, Nat.reduceLT, Nat.reduceMod, Nat.reduceDiv, Nat.reduceSub, reduceCtorEq]; fail_if_success (with_reducible show chk _ _)) | ((first | refine goC_call [.r, .r] (d_laws_heldInt64S_nil 1) ?_ | refine goOC_call [.r, .r] (d_laws_heldInt64S_nil 1) ?_); simp -implicitDefEqProofs (maxSteps := 1000000) (disch := (first | omega | (simp only [go_sem] <;> omega) | fail)) only [go_sem, ints, bools, mat, reduceIte, Nat.reduceEqDiff, Nat.reduceAdd, Nat.reduceBEq, Nat.reduceMul, Nat.reduceLeDiff, Nat.reduceLT, Nat.reduceMod, Nat.reduceDiv, Nat.reduceSub, reduceCtorEq]; fail_if_success (with_reducible show chk _ _)))
end Go.Proofs.Ytkhkcekfcjgjlaa.Va
