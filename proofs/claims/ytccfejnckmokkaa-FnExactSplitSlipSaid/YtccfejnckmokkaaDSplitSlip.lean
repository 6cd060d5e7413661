/- Contracts of the functions that FnExactSplitSlip reaches, and the law's own. Condition: none. -/
import Derived.Test.YtccfejnckmokkaaCSplitSlip
set_option linter.all false
set_option linter.unusedSimpArgs false
set_option linter.unusedVariables false
namespace Go.Proofs.Ytccfejnckmokkaa.Va
open Go
set_option maxHeartbeats 4000000
set_option maxRecDepth 100000
attribute [go_sem_proc] reduceIte Nat.reduceEqDiff Nat.reduceAdd Nat.reduceBEq Nat.reduceMul Nat.reduceLeDiff Nat.reduceLT Nat.reduceMod Nat.reduceDiv Nat.reduceSub reduceCtorEq
theorem hnq : (∀ {b : Bool}, ((!b) = true) = (b = false)) ∧ (∀ {b : Bool}, ((!b) = false) = (b = true)) := ⟨by intro b; cases b <;> simp, by intro b; cases b <;> simp⟩
theorem hnr : (∀ {p : Prop} [Decidable p], (decide p = true) = p) ∧ (∀ {p : Prop} [Decidable p], (decide p = false) = ¬p) ∧ (∀ {α : Type} [BEq α] [LawfulBEq α] {a b : α}, ((a != b) = true) ↔ a ≠ b) ∧ (∀ {α : Type} [BEq α] [LawfulBEq α] {a b : α}, ((a != b) = false) ↔ a = b) ∧
  (∀ {α : Type} [BEq α] [LawfulBEq α] {a b : α}, ((a == b) = true) ↔ a = b) ∧ (∀ {α : Type} [BEq α] [LawfulBEq α] {a b : α}, ((a == b) = false) ↔ a ≠ b) ∧ (∀ {α : Type} {a b : α}, (a ≠ b) = ¬ a = b) ∧ (∀ {a b : Int}, ¬ a < b ↔ b ≤ a) ∧ (∀ {a b : Int}, ¬ a ≤ b ↔ b < a) ∧
  (∀ {a b : Bool}, ((a && b) = true) = (a = true ∧ b = true)) ∧ (∀ {a b : Bool}, ((a && b) = false) = (a = false ∨ b = false)) ∧ (∀ {a b : Bool}, ((a || b) = true) = (a = true ∨ b = true)) ∧ (∀ {a b : Bool}, ((a || b) = false) = (a = false ∧ b = false)) :=
  ⟨decide_eq_true_eq, decide_eq_false_iff_not .. |> propext, bne_iff_ne, bne_eq_false_iff_eq, beq_iff_eq, beq_eq_false_iff_ne, rfl, Int.not_lt, Int.not_le, by simp, by simp, by simp, by simp⟩
theorem d_spec_l01In (a lo hi : Int) : Den PA f_spec_l01In [.d (di a), .d (di lo), .d (di hi)] [.any, .any, .any] (.d (db (decide (lo ≤ a) && decide (a ≤ hi)))) := by
  refine den_go [] l_spec_l01In ?_
  repeat' (first | simp -implicitDefEqProofs (maxSteps := 1000000) (disch := (first | omega | (simp only [go_sem] <;> omega) | fail)) only [go_sem, ints, bools, mat, c_spec_l01In] | ((first | apply goIf_b | apply goG_b | apply goTG_b | apply goOG_b) <;> intro h <;> ((try simp only [hnq] at h); (try simp only [h]); (try simp only [hnr] at h))))
theorem d_laws_szInt64S (x : D) (l : List Int) (hx : IsInts x l) (left : Int) (hl : l.length ≤ maxLen) (h0 : 0 ≤ left) (h1 : left ≤ 1048576) :
    Den PA f_laws_szInt64S [.d x, .d (di left)] [.any, .any] (.d (di (if left < l.length then -1 else left - l.length))) := by
  have hm : maxLen = 9223372036854775807 := rfl
  refine den_go [] l_laws_szInt64S ?_
  rcases hx with rfl | ⟨rfl, rfl⟩
  all_goals repeat' (first | simp -implicitDefEqProofs (maxSteps := 1000000) (disch := (first | omega | (simp only [go_sem] <;> omega) | fail)) only [go_sem, ints, bools, mat, c_laws_szInt64S] | ((first | apply goIf_b | apply goG_b | apply goTG_b | apply goOG_b) <;> intro h <;> ((try simp only [hnq] at h); (try simp only [h]); (try simp only [hnr] at h))))
  · rw [if_pos (by omega)]
  · rw [if_neg (by omega)]
  · exfalso; omega
  · refine div ?_
    rw [if_neg (by simp; omega)]; rfl
theorem d_laws_eqInt64S (l m : List Int) (hl : l.length < 1048577) :
    Den PA f_laws_eqInt64S [.d (ints l), .d (ints m)] [.any, .any] (.d (db (decide (l = m)))) := by
  refine den_go [] l_laws_eqInt64S ?_
  repeat' (first | simp -implicitDefEqProofs (maxSteps := 1000000) (disch := (first | omega | (simp only [go_sem] <;> omega) | fail)) only [go_sem, ints, bools, mat, c_laws_eqInt64S] | ((first | apply goIf_b | apply goG_b | apply goTG_b | apply goOG_b) <;> intro h <;> ((try simp only [hnq] at h); (try simp only [h]); (try simp only [hnr] at h))))
  · exact dbF fun e => by have := of_decide_eq_true e; subst this; exact h rfl
  refine go_loop (fun (j : Nat) => ⟨[(0, .d (ints l)), (1, .d (ints m)), (5, .d (di j))], []⟩) (fun j => j ≤ l.length ∧ ∀ i, i < j → l.getD i 0 = m.getD i 0) (fun j => l.length - j) 0 ?_ ?_ ?_
  · simp -implicitDefEqProofs (maxSteps := 1000000) (disch := (first | omega | (simp only [go_sem] <;> omega) | fail)) only [go_sem, ints, bools, mat]; rfl
  · simp
  · rintro j ⟨hj, hi⟩ J hJ
    repeat' (first | simp -implicitDefEqProofs (maxSteps := 1000000) (disch := (first | omega | (simp only [go_sem] <;> omega) | fail)) only [go_sem, ints, bools, mat] | ((first | apply goIf_b | apply goG_b | apply goTG_b | apply goOG_b) <;> intro h <;> ((try simp only [hnq] at h); (try simp only [h]); (try simp only [hnr] at h))))
    · exact dbF fun e => by have := of_decide_eq_true e; subst this; exact h rfl
    · refine hJ (j + 1) ⟨by omega, fun i hi' => ?_⟩ (by omega) _ (by simp -implicitDefEqProofs (maxSteps := 1000000) (disch := (first | omega | (simp only [go_sem] <;> omega) | fail)) only [go_sem, ints, bools, mat]; rfl)
      rcases Nat.lt_or_ge i j with h' | h'
      · exact hi i h'
      · have : i = j := by omega
        subst this; assumption
    · exact dbT (decide_eq_true (eq_getD (by omega) fun i hi' => hi i (by omega)))
theorem d_laws_toInt64S (x : D) (l : List Int) (hx : IsInts x l) (hl : l.length < 1048577) :
    Den PA f_laws_toInt64S [.d x] [.any] (.own 1 (l.map di)) := by
  refine den_go [] l_laws_toInt64S ?_
  rcases hx with rfl | ⟨rfl, rfl⟩
  rotate_left
  · repeat' (first | simp -implicitDefEqProofs (maxSteps := 1000000) (disch := (first | omega | (simp only [go_sem] <;> omega) | fail)) only [go_sem, ints, bools, mat, c_laws_toInt64S] | ((first | apply goIf_b | apply goG_b | apply goTG_b | apply goOG_b) <;> intro h <;> ((try simp only [hnq] at h); (try simp only [h]); (try simp only [hnr] at h))))
    refine go_loop (fun (_ : Unit) => ⟨[(0, .d (.v (.slice none 0 0))), (3, .sl 0 0 0 1), (4, .d (di 0))], [some (.dat 1 [])]⟩) (fun _ => True) (fun _ => 0) () ?_ trivial ?_
    · simp -implicitDefEqProofs (maxSteps := 1000000) (disch := (first | omega | (simp only [go_sem] <;> omega) | fail)) only [go_sem, ints, bools, mat]; rfl
    · intro _ _ J _
      repeat' (first | simp -implicitDefEqProofs (maxSteps := 1000000) (disch := (first | omega | (simp only [go_sem] <;> omega) | fail)) only [go_sem, ints, bools, mat] | ((first | apply goIf_b | apply goG_b | apply goTG_b | apply goOG_b) <;> intro h <;> ((try simp only [hnq] at h); (try simp only [h]); (try simp only [hnr] at h))))
  repeat' (first | simp -implicitDefEqProofs (maxSteps := 1000000) (disch := (first | omega | (simp only [go_sem] <;> omega) | fail)) only [go_sem, ints, bools, mat, c_laws_toInt64S] | ((first | apply goIf_b | apply goG_b | apply goTG_b | apply goOG_b) <;> intro h <;> ((try simp only [hnq] at h); (try simp only [h]); (try simp only [hnr] at h))))
  refine go_loop (fun (j : Nat) => ⟨[(0, .d (ints l)), (3, .sl 0 0 l.length 1), (4, .d (di j))], [some (.dat 1 ((l.take j ++ List.replicate (l.length - j) 0).map di))]⟩) (fun j => j ≤ l.length) (fun j => l.length - j) 0 ?_ ?_ ?_
  · simp -implicitDefEqProofs (maxSteps := 1000000) (disch := (first | omega | (simp only [go_sem] <;> omega) | fail)) only [go_sem, ints, bools, mat]; rfl
  · simp
  · rintro j hj J hJ
    repeat' (first | simp -implicitDefEqProofs (maxSteps := 1000000) (disch := (first | omega | (simp only [go_sem] <;> omega) | fail)) only [go_sem, ints, bools, mat] | ((first | apply goIf_b | apply goG_b | apply goTG_b | apply goOG_b) <;> intro h <;> ((try simp only [hnq] at h); (try simp only [h]); (try simp only [hnr] at h))))
    · refine hJ (j + 1) (by omega) (by omega) _ ?_
      simp -implicitDefEqProofs (maxSteps := 1000000) (disch := (first | omega | (simp only [go_sem] <;> omega) | fail)) only [go_sem, ints, bools, mat]
      rw [fill_step l 0 0 (by omega) rfl]; rfl
    · have : j = l.length := by omega
      subst this; simp
theorem d_laws_szSpace (x : D) (l : List Int) (hx : IsInts x l) (left : Int) (hl : l.length ≤ maxLen) (h0 : 0 ≤ left) (h1 : left ≤ 1048576) :
    Den PA f_laws_szSpace [.d (.agg [x]), .d (di left)] [.any, .any] (.d (di (if left < l.length then -1 else left - l.length))) := by
  refine den_go [] l_laws_szSpace ?_
  simp -implicitDefEqProofs (maxSteps := 1000000) (disch := (first | omega | (simp only [go_sem] <;> omega) | fail)) only [go_sem, ints, bools, mat, c_laws_szSpace]
  first | refine goC_call [.r, .r] (d_laws_szInt64S x l hx left hl h0 h1) ?_ | refine goOC_call [.r, .r] (d_laws_szInt64S x l hx left hl h0 h1) ?_
  repeat' (first | simp -implicitDefEqProofs (maxSteps := 1000000) (disch := (first | omega | (simp only [go_sem] <;> omega) | fail)) only [go_sem, ints, bools, mat] | ((first | apply goIf_b | apply goG_b | apply goTG_b | apply goOG_b) <;> intro h <;> ((try simp only [hnq] at h); (try simp only [h]); (try simp only [hnr] at h))))
  by_cases hh : left < (l.length : Int)
  · rw [if_pos hh]
  · rw [if_neg hh] at h; omega
theorem d_laws_eqSpace (l m : List Int) (hl : l.length < 1048577) :
    Den PA f_laws_eqSpace [.d (.agg [ints l]), .d (.agg [ints m])] [.any, .any] (.d (db (decide (l = m)))) := by
  refine den_go [] l_laws_eqSpace ?_
  simp -implicitDefEqProofs (maxSteps := 1000000) (disch := (first | omega | (simp only [go_sem] <;> omega) | fail)) only [go_sem, ints, bools, mat, c_laws_eqSpace]
  first | refine goC_call [.r, .r] (d_laws_eqInt64S l m hl) ?_ | refine goOC_call [.r, .r] (d_laws_eqInt64S l m hl) ?_
  repeat' (first | simp -implicitDefEqProofs (maxSteps := 1000000) (disch := (first | omega | (simp only [go_sem] <;> omega) | fail)) only [go_sem, ints, bools, mat] | ((first | apply goIf_b | apply goG_b | apply goTG_b | apply goOG_b) <;> intro h <;> ((try simp only [hnq] at h); (try simp only [h]); (try simp only [hnr] at h))))
theorem d_laws_toSpace (x : D) (l : List Int) (hx : IsInts x l) (hl : l.length < 1048577) :
    Den PA f_laws_toSpace [.d (.agg [x])] [.any] (.agg [.own 1 (l.map di)]) := by
  refine den_go [] l_laws_toSpace ?_
  simp -implicitDefEqProofs (maxSteps := 1000000) (disch := (first | omega | (simp only [go_sem] <;> omega) | fail)) only [go_sem, ints, bools, mat, c_laws_toSpace]
  first | refine goC_call [.r] (d_laws_toInt64S x l hx hl) ?_ | refine goOC_call [.r] (d_laws_toInt64S x l hx hl) ?_
  repeat' (first | simp -implicitDefEqProofs (maxSteps := 1000000) (disch := (first | omega | (simp only [go_sem] <;> omega) | fail)) only [go_sem, ints, bools, mat] | ((first | apply goIf_b | apply goG_b | apply goTG_b | apply goOG_b) <;> intro h <;> ((try simp only [hnq] at h); (try simp only [h]); (try simp only [hnr] at h))))
def prodM (l : List Int) : Int := l.foldl (· * ·) 1
theorem take_one (l : List Int) {j : Nat} (h : j < l.length) : l.take (j + 1) = l.take j ++ [l.getD j 0] := by
  rw [List.take_add_one]; simp [h]
theorem prodM_step (l : List Int) {j : Nat} (h : j < l.length) : prodM (l.take (j + 1)) = prodM (l.take j) * l.getD j 0 := by
  rw [take_one l h]; simp [prodM]
theorem prodM_bnd (l : List Int) : ∀ j, j ≤ l.length → (∀ i, i < j → 2 ≤ l.getD i 0 ∧ l.getD i 0 ≤ 4) → 1 ≤ prodM (l.take j) ∧ prodM (l.take j) ≤ 4 ^ j
  | 0, _, _ => by simp [prodM]
  | j + 1, hj, h => by
    obtain ⟨h1, h2⟩ := prodM_bnd l j (by omega) (fun i hi => h i (by omega))
    obtain ⟨h3, h4⟩ := h j (by omega)
    rw [prodM_step l (by omega)]
    constructor
    · have := Int.mul_le_mul h1 (show (1 : Int) ≤ l.getD j 0 by omega) (by omega) (by omega)
      simpa using this
    · rw [Int.pow_succ]
      exact Int.mul_le_mul h2 h4 (by omega) (by omega)
theorem pow4 {j : Nat} (h : j ≤ 8) : (4 : Int) ^ j ≤ 65536 := by
  exact (by decide : ∀ j : Fin 9, (4 : Int) ^ (j : Nat) ≤ 65536) ⟨j, by omega⟩
theorem prodM_small (l : List Int) {j : Nat} (h8 : j ≤ 8) (hj : j ≤ l.length) (h : ∀ i, i < j → 2 ≤ l.getD i 0 ∧ l.getD i 0 ≤ 4) : 1 ≤ prodM (l.take j) ∧ prodM (l.take j) ≤ 65536 := by
  obtain ⟨h1, h2⟩ := prodM_bnd l j hj h
  exact ⟨h1, Int.le_trans h2 (pow4 h8)⟩
def isSpaceM (l : List Int) : Bool := decide (1 ≤ l.length) && decide (l.length ≤ 8) && l.all (fun n => decide (2 ≤ n) && decide (n ≤ 4)) && decide (prodM l ≤ 1024)
theorem isSpaceM_ok (l : List Int) : isSpaceM l = true ↔ (1 ≤ l.length ∧ l.length ≤ 8) ∧ (∀ j, j < l.length → 2 ≤ l.getD j 0 ∧ l.getD j 0 ≤ 4) ∧ prodM l ≤ 1024 := by
  simp only [isSpaceM, Bool.and_eq_true, decide_eq_true_eq, all_getD, and_assoc]
theorem d_spec_l01N (l : List Int) (h8 : l.length ≤ 8) (h : ∀ i, i < l.length → 2 ≤ l.getD i 0 ∧ l.getD i 0 ≤ 4) :
    Den PA f_spec_l01N [.d (.agg [ints l])] [.any] (.d (di (prodM l))) := by
  refine den_go [] l_spec_l01N ?_
  simp -implicitDefEqProofs (maxSteps := 1000000) (disch := (first | omega | (simp only [go_sem] <;> omega) | fail)) only [go_sem, ints, bools, mat, c_spec_l01N]
  refine go_loop (fun (j : Nat) => ⟨[(1, .ref 0 0), (3, .d (di (prodM (l.take j)))), (4, .d (di j))], [some (.var [ints l])]⟩) (fun j => j ≤ l.length) (fun j => l.length - j) 0 ?_ ?_ ?_
  · simp -implicitDefEqProofs (maxSteps := 1000000) (disch := (first | omega | (simp only [go_sem] <;> omega) | fail)) only [go_sem, ints, bools, mat]; rfl
  · simp
  · rintro j hj J hJ
    have hb := prodM_small l (j := j) (by omega) hj (fun i hi => h i (by omega))
    have hb' := fun hj' => prodM_small l (j := j + 1) (by omega) hj' (fun i hi => h i (by omega))
    have hs := fun hj' => prodM_step l (j := j) hj'
    repeat' (first | simp -implicitDefEqProofs (maxSteps := 1000000) (disch := (first | omega | (simp only [go_sem] <;> omega) | fail)) only [go_sem, ints, bools, mat] | ((first | apply goIf_b | apply goG_b | apply goTG_b | apply goOG_b) <;> intro h <;> ((try simp only [hnq] at h); (try simp only [h]); (try simp only [hnr] at h))))
    · rename_i hlt
      have hlt : j < l.length := by omega
      have h1 := hb' (by omega)
      rw [hs hlt] at h1
      refine hJ (j + 1) (by omega) (by omega) _ ?_
      simp -implicitDefEqProofs (maxSteps := 1000000) (disch := (first | omega | (simp only [go_sem] <;> omega) | fail)) only [go_sem, ints, bools, mat]
      rw [hs hlt]; rfl
theorem d_spec_l01Is (l : List Int) (hl : l.length < 1048577) :
    Den PA f_spec_l01Is [.d (.agg [ints l])] [.any] (.d (db (isSpaceM l))) := by
  have e := isSpaceM_ok l
  refine den_go [] l_spec_l01Is ?_
  simp -implicitDefEqProofs (maxSteps := 1000000) (disch := (first | omega | (simp only [go_sem] <;> omega) | fail)) only [go_sem, ints, bools, mat, c_spec_l01Is]
  first | refine goC_call [.r, .r, .r] (d_spec_l01In l.length 1 8) ?_ | refine goOC_call [.r, .r, .r] (d_spec_l01In l.length 1 8) ?_
  repeat' (first | simp -implicitDefEqProofs (maxSteps := 1000000) (disch := (first | omega | (simp only [go_sem] <;> omega) | fail)) only [go_sem, ints, bools, mat] | ((first | apply goIf_b | apply goG_b | apply goTG_b | apply goOG_b) <;> intro h <;> ((try simp only [hnq] at h); (try simp only [h]); (try simp only [hnr] at h))))
  rotate_left
  · exact dbF fun h' => by have := (e.1 h').1; omega
  refine go_loop (fun (j : Nat) => ⟨[(1, .ref 0 0), (3, .d (di j))], [some (.var [ints l])]⟩) (fun j => j ≤ l.length ∧ ∀ i, i < j → 2 ≤ l.getD i 0 ∧ l.getD i 0 ≤ 4) (fun j => l.length - j) 0 ?_ ?_ ?_
  · simp -implicitDefEqProofs (maxSteps := 1000000) (disch := (first | omega | (simp only [go_sem] <;> omega) | fail)) only [go_sem, ints, bools, mat]; rfl
  · simp
  · rintro j ⟨hj, hi⟩ J hJ
    repeat' (first | simp -implicitDefEqProofs (maxSteps := 1000000) (disch := (first | omega | (simp only [go_sem] <;> omega) | fail)) only [go_sem, ints, bools, mat] | ((first | apply goIf_b | apply goG_b | apply goTG_b | apply goOG_b) <;> intro h <;> ((try simp only [hnq] at h); (try simp only [h]); (try simp only [hnr] at h))))
    · first | refine goC_call [.r, .r, .r] (d_spec_l01In (l.getD j 0) 2 4) ?_ | refine goOC_call [.r, .r, .r] (d_spec_l01In (l.getD j 0) 2 4) ?_
      repeat' (first | simp -implicitDefEqProofs (maxSteps := 1000000) (disch := (first | omega | (simp only [go_sem] <;> omega) | fail)) only [go_sem, ints, bools, mat] | ((first | apply goIf_b | apply goG_b | apply goTG_b | apply goOG_b) <;> intro h <;> ((try simp only [hnq] at h); (try simp only [h]); (try simp only [hnr] at h))))
      · refine hJ (j + 1) ⟨by omega, fun i hi' => ?_⟩ (by omega) _ (by simp -implicitDefEqProofs (maxSteps := 1000000) (disch := (first | omega | (simp only [go_sem] <;> omega) | fail)) only [go_sem, ints, bools, mat]; rfl)
        rcases Nat.lt_or_ge i j with h' | h'
        · exact hi i h'
        · have : i = j := by omega
          subst this; assumption
      · exact dbF fun h' => by have := (e.1 h').2.1 j (by omega); omega
    · have hj' : j = l.length := by omega
      subst hj'
      first | refine goC_call [.r] (d_spec_l01N l (by omega) hi) ?_ | refine goOC_call [.r] (d_spec_l01N l (by omega) hi) ?_
      repeat' (first | simp -implicitDefEqProofs (maxSteps := 1000000) (disch := (first | omega | (simp only [go_sem] <;> omega) | fail)) only [go_sem, ints, bools, mat] | ((first | apply goIf_b | apply goG_b | apply goTG_b | apply goOG_b) <;> intro h <;> ((try simp only [hnq] at h); (try simp only [h]); (try simp only [hnr] at h))))
      refine dbv ?_
      cases hm : isSpaceM l with
      | true => exact decide_eq_true (e.1 hm).2.2
      | false =>
        refine decide_eq_false fun hp => ?_
        have := e.2 ⟨by omega, hi, hp⟩
        rw [hm] at this; cases this
theorem d_impl_IsSpace (l : List Int) (hl : l.length < 1048577) :
    Den PA f_impl_IsSpace [.d (.agg [ints l])] [.any] (.d (db (isSpaceM l))) := by
  have e := isSpaceM_ok l
  refine den_go [] l_impl_IsSpace ?_
  repeat' (first | simp -implicitDefEqProofs (maxSteps := 1000000) (disch := (first | omega | (simp only [go_sem] <;> omega) | fail)) only [go_sem, ints, bools, mat, c_impl_IsSpace] | ((first | apply goIf_b | apply goG_b | apply goTG_b | apply goOG_b) <;> intro h <;> ((try simp only [hnq] at h); (try simp only [h]); (try simp only [hnr] at h))))
  · exact dbF fun h' => by have := (e.1 h').1; omega
  · refine go_loop (fun (j : Nat) => ⟨[(3, .d (di (prodM (l.take j)))), (17, .d (ints l)), (18, .d (di l.length)), (19, .d (di j))], []⟩) (fun j => j ≤ l.length ∧ ∀ i, i < j → 2 ≤ l.getD i 0 ∧ l.getD i 0 ≤ 4) (fun j => l.length - j) 0 ?_ ?_ ?_
    · simp -implicitDefEqProofs (maxSteps := 1000000) (disch := (first | omega | (simp only [go_sem] <;> omega) | fail)) only [go_sem, ints, bools, mat]; rfl
    · simp
    · rintro j ⟨hj, hi⟩ J hJ
      have hb := prodM_small l (j := j) (by omega) hj hi
      repeat' (first | simp -implicitDefEqProofs (maxSteps := 1000000) (disch := (first | omega | (simp only [go_sem] <;> omega) | fail)) only [go_sem, ints, bools, mat] | ((first | apply goIf_b | apply goG_b | apply goTG_b | apply goOG_b) <;> intro h <;> ((try simp only [hnq] at h); (try simp only [h]); (try simp only [hnr] at h))))
      · exact dbF fun h' => by have := (e.1 h').2.1 j (by omega); omega
      · have hi' : ∀ i, i < j + 1 → 2 ≤ l.getD i 0 ∧ l.getD i 0 ≤ 4 := fun i hi' => by
          rcases Nat.lt_or_ge i j with h' | h'
          · exact hi i h'
          · have : i = j := by omega
            subst this; exact ⟨by assumption, by assumption⟩
        have hb' := prodM_small l (j := j + 1) (by omega) (by omega) hi'
        have hs := prodM_step l (j := j) (by omega)
        rw [hs] at hb'
        refine hJ (j + 1) ⟨by omega, hi'⟩ (by omega) _ ?_
        simp -implicitDefEqProofs (maxSteps := 1000000) (disch := (first | omega | (simp only [go_sem] <;> omega) | fail)) only [go_sem, ints, bools, mat]
        rw [hs]; rfl
      · exact dbF fun h' => by have := (e.1 h').2.1 j (by omega); omega
      · have hj' : j = l.length := by omega
        subst hj'
        refine dbv ?_
        cases hm : isSpaceM l with
        | true => exact decide_eq_true (e.1 hm).2.2
        | false =>
          refine decide_eq_false fun hp => ?_
          have := e.2 ⟨by omega, hi, hp⟩
          rw [hm] at this; cases this
  · exact dbF fun h' => by have := (e.1 h').1; omega
def isSlipM (l t : List Int) : Bool := decide (t.length = l.length) && (List.range t.length).all fun j => decide (1 ≤ t.getD j 0) && decide (t.getD j 0 < 2 ^ (l.getD j 0).toNat)
theorem isSlipM_ok (l t : List Int) : isSlipM l t = true ↔ t.length = l.length ∧ ∀ j, j < t.length → 1 ≤ t.getD j 0 ∧ t.getD j 0 < 2 ^ (l.getD j 0).toNat := by
  simp only [isSlipM, Bool.and_eq_true, decide_eq_true_eq, List.all_eq_true, List.mem_range]
theorem d_spec_l07Is (l t : List Int) (ht : t.length < 1048577) (hl : ∀ j, j < l.length → 2 ≤ l.getD j 0 ∧ l.getD j 0 ≤ 4) :
    Den PA f_spec_l07Is [.d (.agg [ints l]), .d (ints t)] [.any, .any] (.d (db (isSlipM l t))) := by
  have e := isSlipM_ok l t
  refine den_go [] l_spec_l07Is ?_
  repeat' (first | simp -implicitDefEqProofs (maxSteps := 1000000) (disch := (first | omega | (simp only [go_sem] <;> omega) | fail)) only [go_sem, ints, bools, mat, c_spec_l07Is] | ((first | apply goIf_b | apply goG_b | apply goTG_b | apply goOG_b) <;> intro h <;> ((try simp only [hnq] at h); (try simp only [h]); (try simp only [hnr] at h))))
  · exact dbF fun h' => by have := (e.1 h').1; omega
  refine go_loop (fun (j : Nat) => ⟨[(1, .d (ints t)), (2, .ref 0 0), (13, .d (di t.length)), (14, .d (di j))], [some (.var [ints l])]⟩) (fun j => j ≤ t.length ∧ ∀ i, i < j → 1 ≤ t.getD i 0 ∧ t.getD i 0 < 2 ^ (l.getD i 0).toNat) (fun j => t.length - j) 0 ?_ ?_ ?_
  · (simp -implicitDefEqProofs (maxSteps := 1000000) (disch := (first | omega | (simp only [go_sem] <;> omega) | fail)) only [go_sem, ints, bools, mat] <;> rfl)
  · simp
  · rintro j ⟨hj, hi⟩ J hJ
    have hq := hl j
    have hp := two_pow_lt (b := (l.getD j 0).toNat)
    repeat' (first | simp -implicitDefEqProofs (maxSteps := 1000000) (disch := (first | omega | (simp only [go_sem] <;> omega) | fail)) only [go_sem, ints, bools, mat] | ((first | apply goIf_b | apply goG_b | apply goTG_b | apply goOG_b) <;> intro h <;> ((try simp only [hnq] at h); (try simp only [h]); (try simp only [hnr] at h))))
    · first | refine goC_call [.r, .r, .r] (d_spec_l01In (t.getD j 0) 1 (2 ^ (l.getD j 0).toNat - 1)) ?_ | refine goOC_call [.r, .r, .r] (d_spec_l01In (t.getD j 0) 1 (2 ^ (l.getD j 0).toNat - 1)) ?_
      repeat' (first | simp -implicitDefEqProofs (maxSteps := 1000000) (disch := (first | omega | (simp only [go_sem] <;> omega) | fail)) only [go_sem, ints, bools, mat] | ((first | apply goIf_b | apply goG_b | apply goTG_b | apply goOG_b) <;> intro h <;> ((try simp only [hnq] at h); (try simp only [h]); (try simp only [hnr] at h))))
      · refine hJ (j + 1) ⟨by omega, all_ext hi (by omega)⟩ (by omega) _ (by (simp -implicitDefEqProofs (maxSteps := 1000000) (disch := (first | omega | (simp only [go_sem] <;> omega) | fail)) only [go_sem, ints, bools, mat] <;> rfl))
      · exact dbF fun h' => by have := (e.1 h').2 j (by omega); omega
    · exact dbT (e.2 ⟨by omega, fun i hi' => hi i (by omega)⟩)
theorem d_impl_isSlip (l t : List Int) (ht : t.length < 1048577) (hl : ∀ j, j < l.length → 2 ≤ l.getD j 0 ∧ l.getD j 0 ≤ 4) :
    Den PA f_impl_isSlip [.d (.agg [ints l]), .d (ints t)] [.any, .any] (.d (db (isSlipM l t))) := by
  have e := isSlipM_ok l t
  refine den_go [] l_impl_isSlip ?_
  repeat' (first | simp -implicitDefEqProofs (maxSteps := 1000000) (disch := (first | omega | (simp only [go_sem] <;> omega) | fail)) only [go_sem, ints, bools, mat, c_impl_isSlip] | ((first | apply goIf_b | apply goG_b | apply goTG_b | apply goOG_b) <;> intro h <;> ((try simp only [hnq] at h); (try simp only [h]); (try simp only [hnr] at h))))
  · exact dbF fun h' => by have := (e.1 h').1; omega
  refine go_loop (fun (j : Nat) => ⟨[(2, .ref 0 0), (13, .d (ints t)), (14, .d (di t.length)), (15, .d (di j))], [some (.var [ints l])]⟩) (fun j => j ≤ t.length ∧ ∀ i, i < j → 1 ≤ t.getD i 0 ∧ t.getD i 0 < 2 ^ (l.getD i 0).toNat) (fun j => t.length - j) 0 ?_ ?_ ?_
  · (simp -implicitDefEqProofs (maxSteps := 1000000) (disch := (first | omega | (simp only [go_sem] <;> omega) | fail)) only [go_sem, ints, bools, mat] <;> rfl)
  · simp
  · rintro j ⟨hj, hi⟩ J hJ
    have hq := hl j
    have hp := two_pow_lt (b := (l.getD j 0).toNat)
    repeat' (first | simp -implicitDefEqProofs (maxSteps := 1000000) (disch := (first | omega | (simp only [go_sem] <;> omega) | fail)) only [go_sem, ints, bools, mat] | ((first | apply goIf_b | apply goG_b | apply goTG_b | apply goOG_b) <;> intro h <;> ((try simp only [hnq] at h); (try simp only [h]); (try simp only [hnr] at h))))
    · exact dbF fun h' => by have := (e.1 h').2 j (by omega); omega
    · refine hJ (j + 1) ⟨by omega, all_ext hi (by omega)⟩ (by omega) _ (by (simp -implicitDefEqProofs (maxSteps := 1000000) (disch := (first | omega | (simp only [go_sem] <;> omega) | fail)) only [go_sem, ints, bools, mat] <;> rfl))
    · exact dbF fun h' => by have := (e.1 h').2 j (by omega); omega
    · exact dbT (e.2 ⟨by omega, fun i hi' => hi i (by omega)⟩)
theorem isSpaceM_q {l : List Int} (h : isSpaceM l = true) : ∀ j, j < l.length → 2 ≤ l.getD j 0 ∧ l.getD j 0 ≤ 4 := ((isSpaceM_ok l).1 h).2.1
theorem isSpaceM_n {l : List Int} (h : isSpaceM l = true) : 1 ≤ l.length ∧ l.length ≤ 8 := ((isSpaceM_ok l).1 h).1
theorem d_laws_eqSlip (l m : List Int) (hl : l.length < 1048577) :
    Den PA f_laws_eqSlip [.d (ints l), .d (ints m)] [.any, .any] (.d (db (decide (l = m)))) := by
  refine den_go [] l_laws_eqSlip ?_
  repeat' (first | simp -implicitDefEqProofs (maxSteps := 1000000) (disch := (first | omega | (simp only [go_sem] <;> omega) | fail)) only [go_sem, ints, bools, mat, c_laws_eqSlip] | ((first | apply goIf_b | apply goG_b | apply goTG_b | apply goOG_b) <;> intro h <;> ((try simp only [hnq] at h); (try simp only [h]); (try simp only [hnr] at h))))
  · exact dbF fun e => by have := of_decide_eq_true e; subst this; exact h rfl
  refine go_loop (fun (j : Nat) => ⟨[(0, .d (ints l)), (1, .d (ints m)), (5, .d (di j))], []⟩) (fun j => j ≤ l.length ∧ ∀ i, i < j → l.getD i 0 = m.getD i 0) (fun j => l.length - j) 0 ?_ ?_ ?_
  · (simp -implicitDefEqProofs (maxSteps := 1000000) (disch := (first | omega | (simp only [go_sem] <;> omega) | fail)) only [go_sem, ints, bools, mat] <;> rfl)
  · simp
  · rintro j ⟨hj, hi⟩ J hJ
    repeat' (first | simp -implicitDefEqProofs (maxSteps := 1000000) (disch := (first | omega | (simp only [go_sem] <;> omega) | fail)) only [go_sem, ints, bools, mat] | ((first | apply goIf_b | apply goG_b | apply goTG_b | apply goOG_b) <;> intro h <;> ((try simp only [hnq] at h); (try simp only [h]); (try simp only [hnr] at h))))
    · exact dbF fun e => by have := of_decide_eq_true e; subst this; exact h rfl
    · refine hJ (j + 1) ⟨by omega, all_ext hi (by omega)⟩ (by omega) _ (by (simp -implicitDefEqProofs (maxSteps := 1000000) (disch := (first | omega | (simp only [go_sem] <;> omega) | fail)) only [go_sem, ints, bools, mat] <;> rfl))
    · exact dbT (decide_eq_true (eq_getD (by omega) fun i hi' => hi i (by omega)))
theorem d_laws_toSlip (x : D) (l : List Int) (hx : IsInts x l) (hl : l.length < 1048577) :
    Den PA f_laws_toSlip [.d x] [.any] (.own 1 (l.map di)) := by
  refine den_go [] l_laws_toSlip ?_
  rcases hx with rfl | ⟨rfl, rfl⟩
  rotate_left
  · repeat' (first | simp -implicitDefEqProofs (maxSteps := 1000000) (disch := (first | omega | (simp only [go_sem] <;> omega) | fail)) only [go_sem, ints, bools, mat, c_laws_toSlip] | ((first | apply goIf_b | apply goG_b | apply goTG_b | apply goOG_b) <;> intro h <;> ((try simp only [hnq] at h); (try simp only [h]); (try simp only [hnr] at h))))
    refine go_loop (fun (_ : Unit) => ⟨[(0, .d (.v (.slice none 0 0))), (3, .sl 0 0 0 1), (4, .d (di 0))], [some (.dat 1 [])]⟩) (fun _ => True) (fun _ => 0) () ?_ trivial ?_
    · (simp -implicitDefEqProofs (maxSteps := 1000000) (disch := (first | omega | (simp only [go_sem] <;> omega) | fail)) only [go_sem, ints, bools, mat] <;> rfl)
    · intro _ _ J _
      repeat' (first | simp -implicitDefEqProofs (maxSteps := 1000000) (disch := (first | omega | (simp only [go_sem] <;> omega) | fail)) only [go_sem, ints, bools, mat] | ((first | apply goIf_b | apply goG_b | apply goTG_b | apply goOG_b) <;> intro h <;> ((try simp only [hnq] at h); (try simp only [h]); (try simp only [hnr] at h))))
  repeat' (first | simp -implicitDefEqProofs (maxSteps := 1000000) (disch := (first | omega | (simp only [go_sem] <;> omega) | fail)) only [go_sem, ints, bools, mat, c_laws_toSlip] | ((first | apply goIf_b | apply goG_b | apply goTG_b | apply goOG_b) <;> intro h <;> ((try simp only [hnq] at h); (try simp only [h]); (try simp only [hnr] at h))))
  refine go_loop (fun (j : Nat) => ⟨[(0, .d (ints l)), (3, .sl 0 0 l.length 1), (4, .d (di j))], [some (.dat 1 ((l.take j ++ List.replicate (l.length - j) 0).map di))]⟩) (fun j => j ≤ l.length) (fun j => l.length - j) 0 ?_ ?_ ?_
  · (simp -implicitDefEqProofs (maxSteps := 1000000) (disch := (first | omega | (simp only [go_sem] <;> omega) | fail)) only [go_sem, ints, bools, mat] <;> rfl)
  · simp
  · rintro j hj J hJ
    repeat' (first | simp -implicitDefEqProofs (maxSteps := 1000000) (disch := (first | omega | (simp only [go_sem] <;> omega) | fail)) only [go_sem, ints, bools, mat] | ((first | apply goIf_b | apply goG_b | apply goTG_b | apply goOG_b) <;> intro h <;> ((try simp only [hnq] at h); (try simp only [h]); (try simp only [hnr] at h))))
    · refine hJ (j + 1) (by omega) (by omega) _ ?_
      simp -implicitDefEqProofs (maxSteps := 1000000) (disch := (first | omega | (simp only [go_sem] <;> omega) | fail)) only [go_sem, ints, bools, mat]
      rw [fill_step l 0 0 (by omega) rfl]; rfl
    · have : j = l.length := by omega
      subst this; simp
abbrev nil : D := .v (.slice none 0 0)
def markL (n : Nat) (k : Int) : List Int := (List.range n).map fun (i : Nat) => k + (i : Int)
@[go_sem] theorem markL_len (n : Nat) (k : Int) : (markL n k).length = n := by simp [markL]
theorem markL_get {n : Nat} (k : Int) {j : Nat} (h : j < n) : (markL n k).getD j 0 = k + j := by simp [markL, h]
@[go_sem] theorem take_markL (n : Nat) (k : Int) : (markL n k).take n = markL n k := List.take_of_length_le (by rw [markL_len]; exact Nat.le_refl _)
theorem mark_step (l : List Int) (k : Int) {j : Nat} (h : j < l.length) : (markL j k ++ l.drop j).set j (k + j) = markL (j + 1) k ++ l.drop (j + 1) := by
  apply List.ext_getElem
  · simp [markL]; omega
  · intro i h1 h2
    simp [markL] at h1 h2
    rw [List.getElem_set]
    split
    · subst_vars; simp [markL, List.getElem_append]
    · simp only [List.getElem_append, markL_len]
      split <;> split
      · simp [markL]
      · omega
      · omega
      · simp only [List.getElem_drop]; congr 1; omega
theorem d_laws_markSlip (l : List Int) (k : Int) (hl : l.length < 1048577) (hk : 0 ≤ k) (hk2 : k < 1000000000000) :
    Den PA f_laws_markSlip [.own 1 (l.map di), .d (di k)] [.own 1 ((markL l.length k).map di), .any] (.d (di (k + l.length))) := by
  refine den_go [0] l_laws_markSlip ?_
  repeat' (first | simp -implicitDefEqProofs (maxSteps := 1000000) (disch := (first | omega | (simp only [go_sem] <;> omega) | fail)) only [go_sem, ints, bools, mat, c_laws_markSlip] | ((first | apply goIf_b | apply goG_b | apply goTG_b | apply goOG_b) <;> intro h <;> ((try simp only [hnq] at h); (try simp only [h]); (try simp only [hnr] at h))))
  refine go_loop (fun (j : Nat) => ⟨[(0, .sl 0 0 l.length 1), (1, .d (di (k + j))), (5, .d (di j)), (19, .sl 0 0 l.length 1)], [some (.dat 1 ((markL j k ++ l.drop j).map di))]⟩) (fun j => j ≤ l.length) (fun j => l.length - j) 0 ?_ ?_ ?_
  · simp -implicitDefEqProofs (maxSteps := 1000000) (disch := (first | omega | (simp only [go_sem] <;> omega) | fail)) only [go_sem, ints, bools, mat]; simp [markL]
  · simp
  · rintro j hj J hJ
    have hlen := markL_len j k
    have hst := fun h => mark_step l k (j := j) h
    repeat' (first | simp -implicitDefEqProofs (maxSteps := 1000000) (disch := (first | omega | (simp only [go_sem] <;> omega) | fail)) only [go_sem, ints, bools, mat] | ((first | apply goIf_b | apply goG_b | apply goTG_b | apply goOG_b) <;> intro h <;> ((try simp only [hnq] at h); (try simp only [h]); (try simp only [hnr] at h))))
    · refine hJ (j + 1) (by omega) (by omega) _ ?_
      simp -implicitDefEqProofs (maxSteps := 1000000) (disch := (first | omega | (simp only [go_sem] <;> omega) | fail)) only [go_sem, ints, bools, mat]
      rw [hst (by omega)]; simp only [Int.natCast_add, Int.natCast_one, Int.add_assoc]
    · have : j = l.length := by omega
      subst this; simp
theorem d_laws_heldSlip (n : Nat) (k : Int) (hl : n < 1048577) (hk : 0 ≤ k) (hk2 : k < 1000000000000) :
    Den PA f_laws_heldSlip [.d (ints (markL n k)), .d (di k)] [.any, .any] (.d (di (k + n))) := by
  have hlen := markL_len n k
  refine den_go [] l_laws_heldSlip ?_
  repeat' (first | simp -implicitDefEqProofs (maxSteps := 1000000) (disch := (first | omega | (simp only [go_sem] <;> omega) | fail)) only [go_sem, ints, bools, mat, c_laws_heldSlip] | ((first | apply goIf_b | apply goG_b | apply goTG_b | apply goOG_b) <;> intro h <;> ((try simp only [hnq] at h); (try simp only [h]); (try simp only [hnr] at h))))
  refine go_loop (fun (j : Nat) => ⟨[(0, .d (ints (markL n k))), (1, .d (di (k + j))), (5, .d (di j))], []⟩) (fun j => j ≤ n) (fun j => n - j) 0 ?_ ?_ ?_
  · simp -implicitDefEqProofs (maxSteps := 1000000) (disch := (first | omega | (simp only [go_sem] <;> omega) | fail)) only [go_sem, ints, bools, mat]; simp
  · simp
  · rintro j hj J hJ
    have hst := fun h => markL_get k (n := n) (j := j) h
    repeat' (first | simp -implicitDefEqProofs (maxSteps := 1000000) (disch := (first | omega | (simp only [go_sem] <;> omega) | fail)) only [go_sem, ints, bools, mat] | ((first | apply goIf_b | apply goG_b | apply goTG_b | apply goOG_b) <;> intro h <;> ((try simp only [hnq] at h); (try simp only [h]); (try simp only [hnr] at h))))
    · exfalso; rw [hst (by omega)] at h; exact h rfl
    · refine hJ (j + 1) (by omega) (by omega) _ ?_
      simp -implicitDefEqProofs (maxSteps := 1000000) (disch := (first | omega | (simp only [go_sem] <;> omega) | fail)) only [go_sem, ints, bools, mat]
      simp only [Int.natCast_add, Int.natCast_one, Int.add_assoc]
    · have : j = n := by omega
      subst this; rfl
theorem d_laws_markInt64S (l : List Int) (k : Int) (hl : l.length < 1048577) (hk : 0 ≤ k) (hk2 : k < 1000000000000) :
    Den PA f_laws_markInt64S [.own 1 (l.map di), .d (di k)] [.own 1 ((markL l.length k).map di), .any] (.d (di (k + l.length))) := by
  refine den_go [0] l_laws_markInt64S ?_
  repeat' (first | simp -implicitDefEqProofs (maxSteps := 1000000) (disch := (first | omega | (simp only [go_sem] <;> omega) | fail)) only [go_sem, ints, bools, mat, c_laws_markInt64S] | ((first | apply goIf_b | apply goG_b | apply goTG_b | apply goOG_b) <;> intro h <;> ((try simp only [hnq] at h); (try simp only [h]); (try simp only [hnr] at h))))
  refine go_loop (fun (j : Nat) => ⟨[(0, .sl 0 0 l.length 1), (1, .d (di (k + j))), (5, .d (di j)), (19, .sl 0 0 l.length 1)], [some (.dat 1 ((markL j k ++ l.drop j).map di))]⟩) (fun j => j ≤ l.length) (fun j => l.length - j) 0 ?_ ?_ ?_
  · simp -implicitDefEqProofs (maxSteps := 1000000) (disch := (first | omega | (simp only [go_sem] <;> omega) | fail)) only [go_sem, ints, bools, mat]; simp [markL]
  · simp
  · rintro j hj J hJ
    have hlen := markL_len j k
    have hst := fun h => mark_step l k (j := j) h
    repeat' (first | simp -implicitDefEqProofs (maxSteps := 1000000) (disch := (first | omega | (simp only [go_sem] <;> omega) | fail)) only [go_sem, ints, bools, mat] | ((first | apply goIf_b | apply goG_b | apply goTG_b | apply goOG_b) <;> intro h <;> ((try simp only [hnq] at h); (try simp only [h]); (try simp only [hnr] at h))))
    · refine hJ (j + 1) (by omega) (by omega) _ ?_
      simp -implicitDefEqProofs (maxSteps := 1000000) (disch := (first | omega | (simp only [go_sem] <;> omega) | fail)) only [go_sem, ints, bools, mat]
      rw [hst (by omega)]; simp only [Int.natCast_add, Int.natCast_one, Int.add_assoc]
    · have : j = l.length := by omega
      subst this; simp
theorem d_laws_markSpace (l : List Int) (k : Int) (hl : l.length < 1048577) (hk : 0 ≤ k) (hk2 : k < 1000000000000) :
    Den PA f_laws_markSpace [.agg [.own 1 (l.map di)], .d (di k)] [.agg [.own 1 ((markL l.length k).map di)], .any] (.d (di (k + l.length))) := by
  refine den_go [0] l_laws_markSpace ?_
  repeat' (first | simp -implicitDefEqProofs (maxSteps := 1000000) (disch := (first | omega | (simp only [go_sem] <;> omega) | fail)) only [go_sem, ints, bools, mat, c_laws_markSpace] | ((first | apply goIf_b | apply goG_b | apply goTG_b | apply goOG_b) <;> intro h <;> ((try simp only [hnq] at h); (try simp only [h]); (try simp only [hnr] at h))))
  have hm := markL_len l.length k
  first | refine goC_call [.o, .r] (d_laws_markInt64S l k hl hk hk2) ?_ | refine goOC_call [.o, .r] (d_laws_markInt64S l k hl hk hk2) ?_
  repeat' (first | simp -implicitDefEqProofs (maxSteps := 1000000) (disch := (first | omega | (simp only [go_sem] <;> omega) | fail)) only [go_sem, ints, bools, mat] | ((first | apply goIf_b | apply goG_b | apply goTG_b | apply goOG_b) <;> intro h <;> ((try simp only [hnq] at h); (try simp only [h]); (try simp only [hnr] at h))))
@[go_sem] theorem cast_succ_sub (i : Nat) : ((i + 1 : Nat) : Int) - 1 = (i : Int) := by omega
@[go_sem] theorem cast_zero0 : ((0 : Nat) : Int) = 0 := rfl
def digM : List Int → Int → List Int
  | [], _ => []
  | q :: r, w => (w / prodM r) % q :: digM r w
theorem div_le_self {w p : Int} (h : 0 ≤ w) (hp : 1 ≤ p) : 0 ≤ w / p ∧ w / p ≤ w := by
  refine ⟨Int.ediv_nonneg h (by omega), Int.ediv_le_self _ h⟩
def pad8 (ds : List Int) : List Int := (ds ++ List.replicate 8 0).take 8
@[go_sem] theorem pad8_len (ds : List Int) : (pad8 ds).length = 8 := by simp [pad8]
theorem d_impl_places (l : List Int) (hl : l.length < 1048577) : Den PA f_impl_places [.d (.agg [ints l])] [.any] (.d (di l.length)) := by
  refine den_go [] l_impl_places ?_
  repeat' (first | simp -implicitDefEqProofs (maxSteps := 1000000) (disch := (first | omega | (simp only [go_sem] <;> omega) | fail)) only [go_sem, ints, bools, mat, c_impl_places] | ((first | apply goIf_b | apply goG_b | apply goTG_b | apply goOG_b) <;> intro h <;> ((try simp only [hnq] at h); (try simp only [h]); (try simp only [hnr] at h))))
def farM : List Int → List Int → Int
  | a :: r, b :: s => (if a = b then 0 else 1) + farM r s
  | _, _ => 0
abbrev distM (l : List Int) (u w : Int) : Int := farM (digM l u) (digM l w)
abbrev scM (l : List Int) (ts : List (List Int)) : Int := if isSpaceM l then (if ts.all (isSlipM l) then 0 else 2) else 1
theorem allR {ts : List (List Int)} {p : List Int → Bool} : ts.all p = true ↔ ∀ j, j < ts.length → p (ts.getD j []) = true := by
  rw [List.all_eq_true]
  constructor
  · intro h j hj
    have e : ts.getD j [] = ts[j] := by simp [hj]
    rw [e]; exact h _ (List.getElem_mem hj)
  · intro h x hx
    obtain ⟨j, hj, rfl⟩ := List.mem_iff_getElem.1 hx
    have := h j hj
    have e : ts.getD j [] = ts[j] := by simp [hj]
    rwa [e] at this
theorem d_spec_l07Code (l : List Int) (hl : l.length < 1048577) (ts : List (List Int)) (hk : ts.length < 1048577) (ht : ∀ j, j < ts.length → (ts.getD j []).length < 1048577) :
    Den PA f_spec_l07Code [.d (.agg [ints l]), .d (mat ts)] [.any, .any] (.d (di (scM l ts))) := by
  have e := allR (ts := ts) (p := isSlipM l)
  refine den_go [] l_spec_l07Code ?_
  simp -implicitDefEqProofs (maxSteps := 1000000) (disch := (first | omega | (simp only [go_sem] <;> omega) | fail)) only [go_sem, ints, bools, mat, c_spec_l07Code, scM]
  first | refine goC_call [.r] (d_spec_l01Is l hl) ?_ | refine goOC_call [.r] (d_spec_l01Is l hl) ?_
  repeat' (first | simp -implicitDefEqProofs (maxSteps := 1000000) (disch := (first | omega | (simp only [go_sem] <;> omega) | fail)) only [go_sem, ints, bools, mat] | ((first | apply goIf_b | apply goG_b | apply goTG_b | apply goOG_b) <;> intro h <;> ((try simp only [hnq] at h); (try simp only [h]); (try simp only [hnr] at h))))
  have hs := h
  refine go_loop (fun (j : Nat) => ⟨[(1, .d (mat ts)), (2, .ref 0 0), (10, .d (di ts.length)), (11, .d (di j))], [some (.var [ints l])]⟩) (fun j => j ≤ ts.length ∧ ∀ i, i < j → isSlipM l (ts.getD i []) = true) (fun j => ts.length - j) 0 ?_ ?_ ?_
  · (simp -implicitDefEqProofs (maxSteps := 1000000) (disch := (first | omega | (simp only [go_sem] <;> omega) | fail)) only [go_sem, ints, bools, mat] <;> rfl)
  · simp
  · rintro j ⟨hj, hi⟩ J hJ
    repeat' (first | simp -implicitDefEqProofs (maxSteps := 1000000) (disch := (first | omega | (simp only [go_sem] <;> omega) | fail)) only [go_sem, ints, bools, mat] | ((first | apply goIf_b | apply goG_b | apply goTG_b | apply goOG_b) <;> intro h <;> ((try simp only [hnq] at h); (try simp only [h]); (try simp only [hnr] at h))))
    · first | refine goC_call [.r, .r] (d_spec_l07Is l (ts.getD j []) (ht j (by omega)) (isSpaceM_q hs)) ?_ | refine goOC_call [.r, .r] (d_spec_l07Is l (ts.getD j []) (ht j (by omega)) (isSpaceM_q hs)) ?_
      repeat' (first | simp -implicitDefEqProofs (maxSteps := 1000000) (disch := (first | omega | (simp only [go_sem] <;> omega) | fail)) only [go_sem, ints, bools, mat] | ((first | apply goIf_b | apply goG_b | apply goTG_b | apply goOG_b) <;> intro h <;> ((try simp only [hnq] at h); (try simp only [h]); (try simp only [hnr] at h))))
      · refine hJ (j + 1) ⟨by omega, all_ext hi h⟩ (by omega) _ (by (simp -implicitDefEqProofs (maxSteps := 1000000) (disch := (first | omega | (simp only [go_sem] <;> omega) | fail)) only [go_sem, ints, bools, mat] <;> rfl))
      · rw [if_neg]
        exact fun h' => by have := e.1 h' j (by omega); rw [h] at this; cases this
    · rw [if_pos]
      exact e.2 fun i hi' => hi i (by omega)
theorem d_impl_slipCode (l : List Int) (hl : l.length < 1048577) (ts : List (List Int)) (hk : ts.length < 1048577) (ht : ∀ j, j < ts.length → (ts.getD j []).length < 1048577) :
    Den PA f_impl_slipCode [.d (.agg [ints l]), .d (mat ts)] [.any, .any] (.d (di (scM l ts))) := by
  have e := allR (ts := ts) (p := isSlipM l)
  refine den_go [] l_impl_slipCode ?_
  simp -implicitDefEqProofs (maxSteps := 1000000) (disch := (first | omega | (simp only [go_sem] <;> omega) | fail)) only [go_sem, ints, bools, mat, c_impl_slipCode, scM]
  first | refine goC_call [.r] (d_impl_IsSpace l hl) ?_ | refine goOC_call [.r] (d_impl_IsSpace l hl) ?_
  repeat' (first | simp -implicitDefEqProofs (maxSteps := 1000000) (disch := (first | omega | (simp only [go_sem] <;> omega) | fail)) only [go_sem, ints, bools, mat] | ((first | apply goIf_b | apply goG_b | apply goTG_b | apply goOG_b) <;> intro h <;> ((try simp only [hnq] at h); (try simp only [h]); (try simp only [hnr] at h))))
  have hs := h
  refine go_loop (fun (j : Nat) => ⟨[(2, .ref 0 0), (10, .d (mat ts)), (11, .d (di ts.length)), (12, .d (di j))], [some (.var [ints l])]⟩) (fun j => j ≤ ts.length ∧ ∀ i, i < j → isSlipM l (ts.getD i []) = true) (fun j => ts.length - j) 0 ?_ ?_ ?_
  · (simp -implicitDefEqProofs (maxSteps := 1000000) (disch := (first | omega | (simp only [go_sem] <;> omega) | fail)) only [go_sem, ints, bools, mat] <;> rfl)
  · simp
  · rintro j ⟨hj, hi⟩ J hJ
    repeat' (first | simp -implicitDefEqProofs (maxSteps := 1000000) (disch := (first | omega | (simp only [go_sem] <;> omega) | fail)) only [go_sem, ints, bools, mat] | ((first | apply goIf_b | apply goG_b | apply goTG_b | apply goOG_b) <;> intro h <;> ((try simp only [hnq] at h); (try simp only [h]); (try simp only [hnr] at h))))
    · first | refine goC_call [.r, .r] (d_impl_isSlip l (ts.getD j []) (ht j (by omega)) (isSpaceM_q hs)) ?_ | refine goOC_call [.r, .r] (d_impl_isSlip l (ts.getD j []) (ht j (by omega)) (isSpaceM_q hs)) ?_
      repeat' (first | simp -implicitDefEqProofs (maxSteps := 1000000) (disch := (first | omega | (simp only [go_sem] <;> omega) | fail)) only [go_sem, ints, bools, mat] | ((first | apply goIf_b | apply goG_b | apply goTG_b | apply goOG_b) <;> intro h <;> ((try simp only [hnq] at h); (try simp only [h]); (try simp only [hnr] at h))))
      · refine hJ (j + 1) ⟨by omega, all_ext hi h⟩ (by omega) _ (by (simp -implicitDefEqProofs (maxSteps := 1000000) (disch := (first | omega | (simp only [go_sem] <;> omega) | fail)) only [go_sem, ints, bools, mat] <;> rfl))
      · rw [if_neg]
        exact fun h' => by have := e.1 h' j (by omega); rw [h] at this; cases this
    · rw [if_pos]
      exact e.2 fun i hi' => hi i (by omega)
@[go_sem] theorem and1_norm {x : Int} (h : 0 ≤ x) : ((x.toNat &&& (1 : Int).toNat : Nat) : Int) = x % 2 := by
  rw [show (1 : Int).toNat = 1 from rfl, and_one_toNat]; omega
def signsN (m : Int) (j : Nat) : List Int := ((List.range j).filter fun d => m / 2 ^ d % 2 == 1).map fun (d : Nat) => (d : Int)
abbrev signsM (m : Int) : List Int := signsN m 4
theorem signsN_step (m : Int) (j : Nat) : signsN m (j + 1) = signsN m j ++ (if m / 2 ^ j % 2 = 1 then [(j : Int)] else []) := by
  simp only [signsN, List.range_succ, List.filter_append, List.map_append]
  congr 1
  by_cases h : m / 2 ^ j % 2 = 1 <;> simp [h]
theorem signsN_len (m : Int) (j : Nat) : (signsN m j).length ≤ j := by
  have := List.length_filter_le (fun d => m / 2 ^ d % 2 == 1) (List.range j)
  simpa [signsN] using this
theorem d_spec_l07Signs (m : Int) (h0 : 0 ≤ m) (h1 : m < 9223372036854775808) : Den PA f_spec_l07Signs [.d (di m)] [.any] (.own 1 ((signsM m).map di)) := by
  refine den_go [] l_spec_l07Signs ?_
  repeat' (first | simp -implicitDefEqProofs (maxSteps := 1000000) (disch := (first | omega | (simp only [go_sem] <;> omega) | fail)) only [go_sem, ints, bools, mat, c_spec_l07Signs] | ((first | apply goIf_b | apply goG_b | apply goTG_b | apply goOG_b) <;> intro h <;> ((try simp only [hnq] at h); (try simp only [h]); (try simp only [hnr] at h))))
  refine go_loop (fun (j : Nat) => ⟨[(0, .d (di m)), (3, .sl 0 0 (signsN m j).length 1), (4, .d (di j))], [some (.dat 1 ((signsN m j).map di))]⟩) (fun j => j ≤ 4) (fun j => 4 - j) 0 ?_ ?_ ?_
  · (simp -implicitDefEqProofs (maxSteps := 1000000) (disch := (first | omega | (simp only [go_sem] <;> omega) | fail)) only [go_sem, ints, bools, mat] <;> rfl)
  · simp
  · rintro j hj J hJ
    have hlen := signsN_len m j
    have hd : 0 ≤ m / 2 ^ j ∧ m / 2 ^ j < 9223372036854775808 := by
      have h2 : (1 : Int) ≤ 2 ^ j := (two_pow_lt (by omega)).2
      have := div_le_self h0 h2
      omega
    repeat' (first | simp -implicitDefEqProofs (maxSteps := 1000000) (disch := (first | omega | (simp only [go_sem] <;> omega) | fail)) only [go_sem, ints, bools, mat] | ((first | apply goIf_b | apply goG_b | apply goTG_b | apply goOG_b) <;> intro h <;> ((try simp only [hnq] at h); (try simp only [h]); (try simp only [hnr] at h))))
    · refine hJ (j + 1) (by omega) (by omega) _ ?_
      simp -implicitDefEqProofs (maxSteps := 1000000) (disch := (first | omega | (simp only [go_sem] <;> omega) | fail)) only [go_sem, ints, bools, mat]
      rw [signsN_step, if_pos (by assumption)]; simp
    · refine hJ (j + 1) (by omega) (by omega) _ ?_
      simp -implicitDefEqProofs (maxSteps := 1000000) (disch := (first | omega | (simp only [go_sem] <;> omega) | fail)) only [go_sem, ints, bools, mat]
      rw [signsN_step, if_neg (by assumption)]; simp
    · have : j = 4 := by omega
      subst this; repeat' (first | simp -implicitDefEqProofs (maxSteps := 1000000) (disch := (first | omega | (simp only [go_sem] <;> omega) | fail)) only [go_sem, ints, bools, mat] | ((first | apply goIf_b | apply goG_b | apply goTG_b | apply goOG_b) <;> intro h <;> ((try simp only [hnq] at h); (try simp only [h]); (try simp only [hnr] at h))))
theorem flat_dig (ds : List (List Int)) : flat (ds.map fun d => D.agg ((pad8 d).map dy)) = ds.flatMap fun d => (pad8 d).map dy := by
  induction ds with
  | nil => rfl
  | cons d r ih => simp only [flat, List.map_cons, List.flatMap_cons] at ih ⊢; rw [ih]; rfl
theorem drop_dig (ds : List (List Int)) : ∀ i, i < ds.length → ((ds.flatMap fun d => (pad8 d).map dy).drop (i * 8)).take 8 = (pad8 (ds.getD i [])).map dy := by
  induction ds with
  | nil => intro i hi; simp at hi
  | cons d r ih =>
    intro i hi
    rcases i with _ | i
    · rw [List.flatMap_cons, Nat.zero_mul, List.drop_zero, List.take_left' (by simp [pad8_len])]; rfl
    · rw [List.flatMap_cons, Nat.succ_mul, Nat.add_comm, ← List.drop_drop, List.drop_left' (by simp [pad8_len]), ih i (by simpa using hi)]; rfl
theorem len_dig (ds : List (List Int)) : (ds.flatMap fun d => (pad8 d).map dy).length = ds.length * 8 := by
  induction ds with
  | nil => rfl
  | cons d r ih => simp [List.flatMap_cons, ih, Nat.succ_mul, Nat.add_comm, pad8_len]
@[go_sem] theorem ldC_dig {ds : List (List Int)} {i : Nat} (h : i < ds.length) : ldC true 8 (flat (ds.map fun d => D.agg ((pad8 d).map dy))) (i * 8) = some (.d (.agg ((pad8 (ds.getD i [])).map dy))) := by
  rw [flat_dig]
  have h1 := drop_dig ds i h
  have h2 := len_dig ds
  unfold ldC
  rw [if_pos rfl]
  split
  · rename_i hc
    rw [hc.1, List.drop_zero, List.take_of_length_le (by omega)] at h1
    rw [h1]
  · rw [if_pos (by omega), h1]
@[go_sem] theorem get_dig {ds : List (List Int)} {i : Nat} (h : i < ds.length) : (ds.map fun d => D.agg ((pad8 d).map dy))[i]? = some (D.agg ((pad8 (ds.getD i [])).map dy)) := by simp [h]
@[go_sem] theorem app_dig (ds : List (List Int)) (d : List Int) : (ds.map fun d => D.agg ((pad8 d).map dy)) ++ [D.agg ((pad8 d).map dy)] = (ds ++ [d]).map fun d => D.agg ((pad8 d).map dy) := by simp
@[go_sem] theorem mul_mod8 (i : Nat) : i * 8 % 8 = 0 := Nat.mul_mod_left i 8
@[go_sem] theorem mul_div8 (i : Nat) : i * 8 / 8 = i := by omega
def digsM (l c : List Int) : List (List Int) := c.map (digM l)
@[go_sem] theorem digsM_len (l c : List Int) : (digsM l c).length = c.length := by simp [digsM]
def allW (l : List Int) : List Int := (List.range (prodM l).toNat).map fun (w : Nat) => (w : Int)
@[go_sem] theorem allW_len (l : List Int) : (allW l).length = (prodM l).toNat := by simp [allW]
def histS (o : List Int) (d : Int) : List Int := o.set d.toNat (o.getD d.toNat 0 + 1)
def hist (n : Nat) (ds : List Int) : List Int := ds.foldl histS (List.replicate n 0)
theorem foldl_hist_len (ds : List Int) : ∀ o : List Int, (ds.foldl histS o).length = o.length := by
  induction ds with
  | nil => intro o; rfl
  | cons d r ih => intro o; rw [List.foldl_cons, ih]; simp [histS]
@[go_sem] theorem hist_len (n : Nat) (ds : List Int) : (hist n ds).length = n := by rw [hist, foldl_hist_len]; simp
attribute [go_sem] Nat.sub_zero
def mn2 (a b : Int) : Int := if b < a then b else a
@[go_sem] theorem mnA_mn2 (a b : Int) : mnA (.d (di a)) (.d (di b)) = some (.d (di (mn2 a b))) := rfl
def mx2 (a b : Int) : Int := if a < b then b else a
@[go_sem] theorem mxA_mx2 (a b : Int) : mxA (.d (di a)) (.d (di b)) = some (.d (di (mx2 a b))) := rfl
def or2 (x d : Int) : Int := ((x.toNat ||| (2 ^ d.toNat : Int).toNat : Nat) : Int)
def orN (t a : List Int) : Nat → List Int
  | 0 => t
  | j + 1 => (orN t a j).set j (or2 ((orN t a j).getD j 0) (a.getD j 0))
@[go_sem] theorem orN_len (t a : List Int) : ∀ j, (orN t a j).length = t.length
  | 0 => rfl
  | j + 1 => by rw [orN, List.length_set, orN_len t a j]
def lsN (l c : List Int) : Nat → List Int
  | 0 => List.replicate l.length 0
  | j + 1 => orN (lsN l c j) (digM l (c.getD j 0)) l.length
@[go_sem] theorem lsN_len (l c : List Int) : ∀ j, (lsN l c j).length = l.length
  | 0 => by simp [lsN]
  | j + 1 => by rw [lsN, orN_len, lsN_len l c j]
def cntN (l c : List Int) (r u : Int) : Nat → Int
  | 0 => 0
  | j + 1 => cntN l c r u j + (if distM l (c.getD j 0) u ≤ r then 1 else 0)
def mixT (l c : List Int) (r : Int) (j k : Nat) : List Int := (List.range (prodM l).toNat).map fun (i : Nat) => cntN l c r i (if i < k then j + 1 else j)
@[go_sem] theorem mixT_len (l c : List Int) (r : Int) (j k : Nat) : (mixT l c r j k).length = (prodM l).toNat := by simp [mixT]
def timesN (l c : List Int) (r : Int) (j : Nat) : List Int := mixT l c r j 0
@[go_sem] theorem timesN_len (l c : List Int) (r : Int) (j : Nat) : (timesN l c r j).length = (prodM l).toNat := mixT_len _ _ _ _ _
attribute [go_sem] isnA List.drop_length
def and2 (x y : Int) : Int := ((x.toNat &&& y.toNat : Nat) : Int)
def andM (t u : List Int) : List Int := (List.range t.length).map fun (i : Nat) => and2 (t.getD i 0) (u.getD i 0)
@[go_sem] theorem andM_len (t u : List Int) : (andM t u).length = t.length := by simp [andM]
theorem d_slices_Clone_Slip (t : List Int) (h : t.length < 1048577) : Den PA f_slices_Clone_impl_Slip_int64_ [.d (ints t)] [.any] (.own 1 (t.map di)) := by
  refine den_go [] l_slices_Clone_impl_Slip_int64_ ?_
  repeat' (first | simp -implicitDefEqProofs (maxSteps := 1000000) (disch := (first | omega | (simp only [go_sem] <;> omega) | fail)) only [go_sem, ints, bools, mat, c_slices_Clone_impl_Slip_int64_] | ((first | apply goIf_b | apply goG_b | apply goTG_b | apply goOG_b) <;> intro h <;> ((try simp only [hnq] at h); (try simp only [h]); (try simp only [hnr] at h))))
theorem flat_lst (z : Nat) (e : List D) (r : List D) : flat (.lst z e :: r) = .lst z e :: flat r := rfl
theorem flat_n : flat [] = [] := rfl
theorem d_laws_eqSlipS_1 (r0 : List Int) (h0 : r0.length < 1048577) : Den PA f_laws_eqSlipS [.ownm [.own 1 (r0.map di)], .d (mat [r0])] [.ownm [.own 1 (r0.map di)], .any] (.d (db true)) := by
  refine den_go [0] l_laws_eqSlipS ?_
  repeat' (first | simp -implicitDefEqProofs (maxSteps := 1000000) (disch := (first | omega | (simp only [go_sem] <;> omega) | fail)) only [go_sem, ints, bools, mat, c_laws_eqSlipS] | ((first | apply goIf_b | apply goG_b | apply goTG_b | apply goOG_b) <;> intro h <;> ((try simp only [hnq] at h); (try simp only [h]); (try simp only [hnr] at h)) <;> (try (exfalso; omega))))
  refine go_loop (fun (i : Nat) => ⟨[(0, .sl 0 0 1 1), (1, .d (mat [r0])), (5, .d (di i)), (27, .sl 0 0 1 1)], [some (.mix [.sl 1 0 r0.length 1]), some (.dat 1 (r0.map di))]⟩) (fun i => i ≤ 1) (fun i => 1 - i) 0 ?_ ?_ ?_
  · simp -implicitDefEqProofs (maxSteps := 1000000) (disch := (first | omega | (simp only [go_sem] <;> omega) | fail)) only [go_sem, ints, bools, mat]
    all_goals rfl
  · exact Nat.zero_le _
  · rintro i hi J hJ
    rcases i with _ | _ | i
    · have he := d_laws_eqSlip r0 r0 h0
      rw [decide_eq_true rfl] at he
      repeat' (first | simp -implicitDefEqProofs (maxSteps := 1000000) (disch := (first | omega | (simp only [go_sem] <;> omega) | fail)) only [go_sem, ints, bools, mat, flat_lst, flat_n] | ((first | apply goIf_b | apply goG_b | apply goTG_b | apply goOG_b) <;> intro h <;> ((try simp only [hnq] at h); (try simp only [h]); (try simp only [hnr] at h)) <;> (try (exfalso; omega))))
      first | refine goC_call [.r, .r] (he) ?_ | refine goOC_call [.r, .r] (he) ?_
      repeat' (first | simp -implicitDefEqProofs (maxSteps := 1000000) (disch := (first | omega | (simp only [go_sem] <;> omega) | fail)) only [go_sem, ints, bools, mat] | ((first | apply goIf_b | apply goG_b | apply goTG_b | apply goOG_b) <;> intro h <;> ((try simp only [hnq] at h); (try simp only [h]); (try simp only [hnr] at h)) <;> (try (exfalso; omega))))
      refine hJ 1 (by omega) (by omega) _ (by (simp -implicitDefEqProofs (maxSteps := 1000000) (disch := (first | omega | (simp only [go_sem] <;> omega) | fail)) only [go_sem, ints, bools, mat] <;> rfl))
    · repeat' (first | simp -implicitDefEqProofs (maxSteps := 1000000) (disch := (first | omega | (simp only [go_sem] <;> omega) | fail)) only [go_sem, ints, bools, mat] | ((first | apply goIf_b | apply goG_b | apply goTG_b | apply goOG_b) <;> intro h <;> ((try simp only [hnq] at h); (try simp only [h]); (try simp only [hnr] at h)) <;> (try (exfalso; omega))))
    · omega
theorem d_laws_markSlipS_1 (r0 : List Int) (h0 : r0.length < 1048577) (k : Int) (hk : 0 ≤ k) (hk2 : k < 1000000) : Den PA f_laws_markSlipS [.ownm [.own 1 (r0.map di)], .d (di k)] [.ownm [.own 1 ((markL r0.length (k)).map di)], .any] (.d (di (k + r0.length))) := by
  have hm0 := d_laws_markSlip r0 (k) h0 (by omega) (by omega)
  have hl0 := markL_len r0.length (k)
  refine den_go [0] l_laws_markSlipS ?_
  repeat' (first | simp -implicitDefEqProofs (maxSteps := 1000000) (disch := (first | omega | (simp only [go_sem] <;> omega) | fail)) only [go_sem, ints, bools, mat, c_laws_markSlipS] | ((first | apply goIf_b | apply goG_b | apply goTG_b | apply goOG_b) <;> intro h <;> ((try simp only [hnq] at h); (try simp only [h]); (try simp only [hnr] at h)) <;> (try (exfalso; omega))))
  refine go_loop (fun (i : Nat) => match i with | 0 => ⟨[(0, .sl 0 0 1 1), (1, .d (di (k))), (5, .d (di ((0 : Nat) : Int))), (19, .sl 0 0 1 1)], [some (.mix [.sl 1 0 r0.length 1]), some (.dat 1 ((r0).map di))]⟩ | _ => ⟨[(0, .sl 0 0 1 1), (1, .d (di (k + r0.length))), (5, .d (di ((1 : Nat) : Int))), (19, .sl 0 0 1 1)], [some (.mix [.sl 1 0 r0.length 1]), some (.dat 1 ((markL r0.length (k)).map di))]⟩) (fun i => i ≤ 1) (fun i => 1 - i) 0 ?_ ?_ ?_
  · simp -implicitDefEqProofs (maxSteps := 1000000) (disch := (first | omega | (simp only [go_sem] <;> omega) | fail)) only [go_sem, ints, bools, mat]
    all_goals rfl
  · exact Nat.zero_le _
  · rintro i hi J hJ
    rcases i with _ | _ | i
    · repeat' (first | simp -implicitDefEqProofs (maxSteps := 1000000) (disch := (first | omega | (simp only [go_sem] <;> omega) | fail)) only [go_sem, ints, bools, mat] | ((first | apply goIf_b | apply goG_b | apply goTG_b | apply goOG_b) <;> intro h <;> ((try simp only [hnq] at h); (try simp only [h]); (try simp only [hnr] at h)) <;> (try (exfalso; omega))))
      first | refine goC_call [.o, .r] (hm0) ?_ | refine goOC_call [.o, .r] (hm0) ?_
      repeat' (first | simp -implicitDefEqProofs (maxSteps := 1000000) (disch := (first | omega | (simp only [go_sem] <;> omega) | fail)) only [go_sem, ints, bools, mat, hl0] | ((first | apply goIf_b | apply goG_b | apply goTG_b | apply goOG_b) <;> intro h <;> ((try simp only [hnq] at h); (try simp only [h]); (try simp only [hnr] at h)) <;> (try (exfalso; omega))))
      refine hJ 1 (by omega) (by omega) _ (by (simp -implicitDefEqProofs (maxSteps := 1000000) (disch := (first | omega | (simp only [go_sem] <;> omega) | fail)) only [go_sem, ints, bools, mat, hl0] <;> rfl))
    · repeat' (first | simp -implicitDefEqProofs (maxSteps := 1000000) (disch := (first | omega | (simp only [go_sem] <;> omega) | fail)) only [go_sem, ints, bools, mat] | ((first | apply goIf_b | apply goG_b | apply goTG_b | apply goOG_b) <;> intro h <;> ((try simp only [hnq] at h); (try simp only [h]); (try simp only [hnr] at h)) <;> (try (exfalso; omega))))
    · omega
theorem d_laws_heldSlipS_1 (r0 : List Int) (h0 : r0.length < 1048577) (k : Int) (hk : 0 ≤ k) (hk2 : k < 1000000) : Den PA f_laws_heldSlipS [.ownm [.own 1 ((markL r0.length (k)).map di)], .d (di k)] [.ownm [.own 1 ((markL r0.length (k)).map di)], .any] (.d (di (k + r0.length))) := by
  have hm0 := d_laws_heldSlip r0.length (k) h0 (by omega) (by omega)
  have hl0 := markL_len r0.length (k)
  refine den_go [0] l_laws_heldSlipS ?_
  repeat' (first | simp -implicitDefEqProofs (maxSteps := 1000000) (disch := (first | omega | (simp only [go_sem] <;> omega) | fail)) only [go_sem, ints, bools, mat, c_laws_heldSlipS, hl0] | ((first | apply goIf_b | apply goG_b | apply goTG_b | apply goOG_b) <;> intro h <;> ((try simp only [hnq] at h); (try simp only [h]); (try simp only [hnr] at h)) <;> (try (exfalso; omega))))
  refine go_loop (fun (i : Nat) => match i with | 0 => ⟨[(0, .sl 0 0 1 1), (1, .d (di (k))), (5, .d (di ((0 : Nat) : Int))), (21, .sl 0 0 1 1)], [some (.mix [.sl 1 0 r0.length 1]), some (.dat 1 ((markL r0.length (k)).map di))]⟩ | _ => ⟨[(0, .sl 0 0 1 1), (1, .d (di (k + r0.length))), (5, .d (di ((1 : Nat) : Int))), (21, .sl 0 0 1 1)], [some (.mix [.sl 1 0 r0.length 1]), some (.dat 1 ((markL r0.length (k)).map di))]⟩) (fun i => i ≤ 1) (fun i => 1 - i) 0 ?_ ?_ ?_
  · simp -implicitDefEqProofs (maxSteps := 1000000) (disch := (first | omega | (simp only [go_sem] <;> omega) | fail)) only [go_sem, ints, bools, mat, hl0]
    all_goals rfl
  · exact Nat.zero_le _
  · rintro i hi J hJ
    rcases i with _ | _ | i
    · repeat' (first | simp -implicitDefEqProofs (maxSteps := 1000000) (disch := (first | omega | (simp only [go_sem] <;> omega) | fail)) only [go_sem, ints, bools, mat, hl0] | ((first | apply goIf_b | apply goG_b | apply goTG_b | apply goOG_b) <;> intro h <;> ((try simp only [hnq] at h); (try simp only [h]); (try simp only [hnr] at h)) <;> (try (exfalso; omega))))
      first | refine goC_call [.r, .r] (hm0) ?_ | refine goOC_call [.r, .r] (hm0) ?_
      repeat' (first | simp -implicitDefEqProofs (maxSteps := 1000000) (disch := (first | omega | (simp only [go_sem] <;> omega) | fail)) only [go_sem, ints, bools, mat, hl0] | ((first | apply goIf_b | apply goG_b | apply goTG_b | apply goOG_b) <;> intro h <;> ((try simp only [hnq] at h); (try simp only [h]); (try simp only [hnr] at h)) <;> (try (exfalso; omega))))
      refine hJ 1 (by omega) (by omega) _ (by (simp -implicitDefEqProofs (maxSteps := 1000000) (disch := (first | omega | (simp only [go_sem] <;> omega) | fail)) only [go_sem, ints, bools, mat, hl0] <;> rfl))
    · repeat' (first | simp -implicitDefEqProofs (maxSteps := 1000000) (disch := (first | omega | (simp only [go_sem] <;> omega) | fail)) only [go_sem, ints, bools, mat, hl0] | ((first | apply goIf_b | apply goG_b | apply goTG_b | apply goOG_b) <;> intro h <;> ((try simp only [hnq] at h); (try simp only [h]); (try simp only [hnr] at h)) <;> (try (exfalso; omega))))
    · omega
theorem d_laws_eqSlipS_2 (r0 r1 : List Int) (h0 : r0.length < 1048577) (h1 : r1.length < 1048577) : Den PA f_laws_eqSlipS [.ownm [.own 1 (r0.map di), .own 1 (r1.map di)], .d (mat [r0, r1])] [.ownm [.own 1 (r0.map di), .own 1 (r1.map di)], .any] (.d (db true)) := by
  refine den_go [0] l_laws_eqSlipS ?_
  repeat' (first | simp -implicitDefEqProofs (maxSteps := 1000000) (disch := (first | omega | (simp only [go_sem] <;> omega) | fail)) only [go_sem, ints, bools, mat, c_laws_eqSlipS] | ((first | apply goIf_b | apply goG_b | apply goTG_b | apply goOG_b) <;> intro h <;> ((try simp only [hnq] at h); (try simp only [h]); (try simp only [hnr] at h)) <;> (try (exfalso; omega))))
  refine go_loop (fun (i : Nat) => ⟨[(0, .sl 0 0 2 1), (1, .d (mat [r0, r1])), (5, .d (di i)), (27, .sl 0 0 2 1)], [some (.mix [.sl 1 0 r0.length 1, .sl 2 0 r1.length 1]), some (.dat 1 (r0.map di)), some (.dat 1 (r1.map di))]⟩) (fun i => i ≤ 2) (fun i => 2 - i) 0 ?_ ?_ ?_
  · simp -implicitDefEqProofs (maxSteps := 1000000) (disch := (first | omega | (simp only [go_sem] <;> omega) | fail)) only [go_sem, ints, bools, mat]
    all_goals rfl
  · exact Nat.zero_le _
  · rintro i hi J hJ
    rcases i with _ | _ | _ | i
    · have he := d_laws_eqSlip r0 r0 h0
      rw [decide_eq_true rfl] at he
      repeat' (first | simp -implicitDefEqProofs (maxSteps := 1000000) (disch := (first | omega | (simp only [go_sem] <;> omega) | fail)) only [go_sem, ints, bools, mat, flat_lst, flat_n] | ((first | apply goIf_b | apply goG_b | apply goTG_b | apply goOG_b) <;> intro h <;> ((try simp only [hnq] at h); (try simp only [h]); (try simp only [hnr] at h)) <;> (try (exfalso; omega))))
      first | refine goC_call [.r, .r] (he) ?_ | refine goOC_call [.r, .r] (he) ?_
      repeat' (first | simp -implicitDefEqProofs (maxSteps := 1000000) (disch := (first | omega | (simp only [go_sem] <;> omega) | fail)) only [go_sem, ints, bools, mat] | ((first | apply goIf_b | apply goG_b | apply goTG_b | apply goOG_b) <;> intro h <;> ((try simp only [hnq] at h); (try simp only [h]); (try simp only [hnr] at h)) <;> (try (exfalso; omega))))
      refine hJ 1 (by omega) (by omega) _ (by (simp -implicitDefEqProofs (maxSteps := 1000000) (disch := (first | omega | (simp only [go_sem] <;> omega) | fail)) only [go_sem, ints, bools, mat] <;> rfl))
    · have he := d_laws_eqSlip r1 r1 h1
      rw [decide_eq_true rfl] at he
      repeat' (first | simp -implicitDefEqProofs (maxSteps := 1000000) (disch := (first | omega | (simp only [go_sem] <;> omega) | fail)) only [go_sem, ints, bools, mat, flat_lst, flat_n] | ((first | apply goIf_b | apply goG_b | apply goTG_b | apply goOG_b) <;> intro h <;> ((try simp only [hnq] at h); (try simp only [h]); (try simp only [hnr] at h)) <;> (try (exfalso; omega))))
      first | refine goC_call [.r, .r] (he) ?_ | refine goOC_call [.r, .r] (he) ?_
      repeat' (first | simp -implicitDefEqProofs (maxSteps := 1000000) (disch := (first | omega | (simp only [go_sem] <;> omega) | fail)) only [go_sem, ints, bools, mat] | ((first | apply goIf_b | apply goG_b | apply goTG_b | apply goOG_b) <;> intro h <;> ((try simp only [hnq] at h); (try simp only [h]); (try simp only [hnr] at h)) <;> (try (exfalso; omega))))
      refine hJ 2 (by omega) (by omega) _ (by (simp -implicitDefEqProofs (maxSteps := 1000000) (disch := (first | omega | (simp only [go_sem] <;> omega) | fail)) only [go_sem, ints, bools, mat] <;> rfl))
    · repeat' (first | simp -implicitDefEqProofs (maxSteps := 1000000) (disch := (first | omega | (simp only [go_sem] <;> omega) | fail)) only [go_sem, ints, bools, mat] | ((first | apply goIf_b | apply goG_b | apply goTG_b | apply goOG_b) <;> intro h <;> ((try simp only [hnq] at h); (try simp only [h]); (try simp only [hnr] at h)) <;> (try (exfalso; omega))))
    · omega
theorem d_laws_markSlipS_2 (r0 r1 : List Int) (h0 : r0.length < 1048577) (h1 : r1.length < 1048577) (k : Int) (hk : 0 ≤ k) (hk2 : k < 1000000) : Den PA f_laws_markSlipS [.ownm [.own 1 (r0.map di), .own 1 (r1.map di)], .d (di k)] [.ownm [.own 1 ((markL r0.length (k)).map di), .own 1 ((markL r1.length (k + r0.length)).map di)], .any] (.d (di (k + r0.length + r1.length))) := by
  have hm0 := d_laws_markSlip r0 (k) h0 (by omega) (by omega)
  have hl0 := markL_len r0.length (k)
  have hm1 := d_laws_markSlip r1 (k + r0.length) h1 (by omega) (by omega)
  have hl1 := markL_len r1.length (k + r0.length)
  refine den_go [0] l_laws_markSlipS ?_
  repeat' (first | simp -implicitDefEqProofs (maxSteps := 1000000) (disch := (first | omega | (simp only [go_sem] <;> omega) | fail)) only [go_sem, ints, bools, mat, c_laws_markSlipS] | ((first | apply goIf_b | apply goG_b | apply goTG_b | apply goOG_b) <;> intro h <;> ((try simp only [hnq] at h); (try simp only [h]); (try simp only [hnr] at h)) <;> (try (exfalso; omega))))
  refine go_loop (fun (i : Nat) => match i with | 0 => ⟨[(0, .sl 0 0 2 1), (1, .d (di (k))), (5, .d (di ((0 : Nat) : Int))), (19, .sl 0 0 2 1)], [some (.mix [.sl 1 0 r0.length 1, .sl 2 0 r1.length 1]), some (.dat 1 ((r0).map di)), some (.dat 1 ((r1).map di))]⟩ | 1 => ⟨[(0, .sl 0 0 2 1), (1, .d (di (k + r0.length))), (5, .d (di ((1 : Nat) : Int))), (19, .sl 0 0 2 1)], [some (.mix [.sl 1 0 r0.length 1, .sl 2 0 r1.length 1]), some (.dat 1 ((markL r0.length (k)).map di)), some (.dat 1 ((r1).map di))]⟩ | _ => ⟨[(0, .sl 0 0 2 1), (1, .d (di (k + r0.length + r1.length))), (5, .d (di ((2 : Nat) : Int))), (19, .sl 0 0 2 1)], [some (.mix [.sl 1 0 r0.length 1, .sl 2 0 r1.length 1]), some (.dat 1 ((markL r0.length (k)).map di)), some (.dat 1 ((markL r1.length (k + r0.length)).map di))]⟩) (fun i => i ≤ 2) (fun i => 2 - i) 0 ?_ ?_ ?_
  · simp -implicitDefEqProofs (maxSteps := 1000000) (disch := (first | omega | (simp only [go_sem] <;> omega) | fail)) only [go_sem, ints, bools, mat]
    all_goals rfl
  · exact Nat.zero_le _
  · rintro i hi J hJ
    rcases i with _ | _ | _ | i
    · repeat' (first | simp -implicitDefEqProofs (maxSteps := 1000000) (disch := (first | omega | (simp only [go_sem] <;> omega) | fail)) only [go_sem, ints, bools, mat] | ((first | apply goIf_b | apply goG_b | apply goTG_b | apply goOG_b) <;> intro h <;> ((try simp only [hnq] at h); (try simp only [h]); (try simp only [hnr] at h)) <;> (try (exfalso; omega))))
      first | refine goC_call [.o, .r] (hm0) ?_ | refine goOC_call [.o, .r] (hm0) ?_
      repeat' (first | simp -implicitDefEqProofs (maxSteps := 1000000) (disch := (first | omega | (simp only [go_sem] <;> omega) | fail)) only [go_sem, ints, bools, mat, hl0] | ((first | apply goIf_b | apply goG_b | apply goTG_b | apply goOG_b) <;> intro h <;> ((try simp only [hnq] at h); (try simp only [h]); (try simp only [hnr] at h)) <;> (try (exfalso; omega))))
      refine hJ 1 (by omega) (by omega) _ (by (simp -implicitDefEqProofs (maxSteps := 1000000) (disch := (first | omega | (simp only [go_sem] <;> omega) | fail)) only [go_sem, ints, bools, mat, hl0] <;> rfl))
    · repeat' (first | simp -implicitDefEqProofs (maxSteps := 1000000) (disch := (first | omega | (simp only [go_sem] <;> omega) | fail)) only [go_sem, ints, bools, mat] | ((first | apply goIf_b | apply goG_b | apply goTG_b | apply goOG_b) <;> intro h <;> ((try simp only [hnq] at h); (try simp only [h]); (try simp only [hnr] at h)) <;> (try (exfalso; omega))))
      first | refine goC_call [.o, .r] (hm1) ?_ | refine goOC_call [.o, .r] (hm1) ?_
      repeat' (first | simp -implicitDefEqProofs (maxSteps := 1000000) (disch := (first | omega | (simp only [go_sem] <;> omega) | fail)) only [go_sem, ints, bools, mat, hl1] | ((first | apply goIf_b | apply goG_b | apply goTG_b | apply goOG_b) <;> intro h <;> ((try simp only [hnq] at h); (try simp only [h]); (try simp only [hnr] at h)) <;> (try (exfalso; omega))))
      refine hJ 2 (by omega) (by omega) _ (by (simp -implicitDefEqProofs (maxSteps := 1000000) (disch := (first | omega | (simp only [go_sem] <;> omega) | fail)) only [go_sem, ints, bools, mat, hl1] <;> rfl))
    · repeat' (first | simp -implicitDefEqProofs (maxSteps := 1000000) (disch := (first | omega | (simp only [go_sem] <;> omega) | fail)) only [go_sem, ints, bools, mat] | ((first | apply goIf_b | apply goG_b | apply goTG_b | apply goOG_b) <;> intro h <;> ((try simp only [hnq] at h); (try simp only [h]); (try simp only [hnr] at h)) <;> (try (exfalso; omega))))
    · omega
theorem d_laws_heldSlipS_2 (r0 r1 : List Int) (h0 : r0.length < 1048577) (h1 : r1.length < 1048577) (k : Int) (hk : 0 ≤ k) (hk2 : k < 1000000) : Den PA f_laws_heldSlipS [.ownm [.own 1 ((markL r0.length (k)).map di), .own 1 ((markL r1.length (k + r0.length)).map di)], .d (di k)] [.ownm [.own 1 ((markL r0.length (k)).map di), .own 1 ((markL r1.length (k + r0.length)).map di)], .any] (.d (di (k + r0.length + r1.length))) := by
  have hm0 := d_laws_heldSlip r0.length (k) h0 (by omega) (by omega)
  have hl0 := markL_len r0.length (k)
  have hm1 := d_laws_heldSlip r1.length (k + r0.length) h1 (by omega) (by omega)
  have hl1 := markL_len r1.length (k + r0.length)
  refine den_go [0] l_laws_heldSlipS ?_
  repeat' (first | simp -implicitDefEqProofs (maxSteps := 1000000) (disch := (first | omega | (simp only [go_sem] <;> omega) | fail)) only [go_sem, ints, bools, mat, c_laws_heldSlipS, hl0, hl1] | ((first | apply goIf_b | apply goG_b | apply goTG_b | apply goOG_b) <;> intro h <;> ((try simp only [hnq] at h); (try simp only [h]); (try simp only [hnr] at h)) <;> (try (exfalso; omega))))
  refine go_loop (fun (i : Nat) => match i with | 0 => ⟨[(0, .sl 0 0 2 1), (1, .d (di (k))), (5, .d (di ((0 : Nat) : Int))), (21, .sl 0 0 2 1)], [some (.mix [.sl 1 0 r0.length 1, .sl 2 0 r1.length 1]), some (.dat 1 ((markL r0.length (k)).map di)), some (.dat 1 ((markL r1.length (k + r0.length)).map di))]⟩ | 1 => ⟨[(0, .sl 0 0 2 1), (1, .d (di (k + r0.length))), (5, .d (di ((1 : Nat) : Int))), (21, .sl 0 0 2 1)], [some (.mix [.sl 1 0 r0.length 1, .sl 2 0 r1.length 1]), some (.dat 1 ((markL r0.length (k)).map di)), some (.dat 1 ((markL r1.length (k + r0.length)).map di))]⟩ | _ => ⟨[(0, .sl 0 0 2 1), (1, .d (di (k + r0.length + r1.length))), (5, .d (di ((2 : Nat) : Int))), (21, .sl 0 0 2 1)], [some (.mix [.sl 1 0 r0.length 1, .sl 2 0 r1.length 1]), some (.dat 1 ((markL r0.length (k)).map di)), some (.dat 1 ((markL r1.length (k + r0.length)).map di))]⟩) (fun i => i ≤ 2) (fun i => 2 - i) 0 ?_ ?_ ?_
  · simp -implicitDefEqProofs (maxSteps := 1000000) (disch := (first | omega | (simp only [go_sem] <;> omega) | fail)) only [go_sem, ints, bools, mat, hl0, hl1]
    all_goals rfl
  · exact Nat.zero_le _
  · rintro i hi J hJ
    rcases i with _ | _ | _ | i
    · repeat' (first | simp -implicitDefEqProofs (maxSteps := 1000000) (disch := (first | omega | (simp only [go_sem] <;> omega) | fail)) only [go_sem, ints, bools, mat, hl0, hl1] | ((first | apply goIf_b | apply goG_b | apply goTG_b | apply goOG_b) <;> intro h <;> ((try simp only [hnq] at h); (try simp only [h]); (try simp only [hnr] at h)) <;> (try (exfalso; omega))))
      first | refine goC_call [.r, .r] (hm0) ?_ | refine goOC_call [.r, .r] (hm0) ?_
      repeat' (first | simp -implicitDefEqProofs (maxSteps := 1000000) (disch := (first | omega | (simp only [go_sem] <;> omega) | fail)) only [go_sem, ints, bools, mat, hl0, hl1] | ((first | apply goIf_b | apply goG_b | apply goTG_b | apply goOG_b) <;> intro h <;> ((try simp only [hnq] at h); (try simp only [h]); (try simp only [hnr] at h)) <;> (try (exfalso; omega))))
      refine hJ 1 (by omega) (by omega) _ (by (simp -implicitDefEqProofs (maxSteps := 1000000) (disch := (first | omega | (simp only [go_sem] <;> omega) | fail)) only [go_sem, ints, bools, mat, hl0, hl1] <;> rfl))
    · repeat' (first | simp -implicitDefEqProofs (maxSteps := 1000000) (disch := (first | omega | (simp only [go_sem] <;> omega) | fail)) only [go_sem, ints, bools, mat, hl0, hl1] | ((first | apply goIf_b | apply goG_b | apply goTG_b | apply goOG_b) <;> intro h <;> ((try simp only [hnq] at h); (try simp only [h]); (try simp only [hnr] at h)) <;> (try (exfalso; omega))))
      first | refine goC_call [.r, .r] (hm1) ?_ | refine goOC_call [.r, .r] (hm1) ?_
      repeat' (first | simp -implicitDefEqProofs (maxSteps := 1000000) (disch := (first | omega | (simp only [go_sem] <;> omega) | fail)) only [go_sem, ints, bools, mat, hl0, hl1] | ((first | apply goIf_b | apply goG_b | apply goTG_b | apply goOG_b) <;> intro h <;> ((try simp only [hnq] at h); (try simp only [h]); (try simp only [hnr] at h)) <;> (try (exfalso; omega))))
      refine hJ 2 (by omega) (by omega) _ (by (simp -implicitDefEqProofs (maxSteps := 1000000) (disch := (first | omega | (simp only [go_sem] <;> omega) | fail)) only [go_sem, ints, bools, mat, hl0, hl1] <;> rfl))
    · repeat' (first | simp -implicitDefEqProofs (maxSteps := 1000000) (disch := (first | omega | (simp only [go_sem] <;> omega) | fail)) only [go_sem, ints, bools, mat, hl0, hl1] | ((first | apply goIf_b | apply goG_b | apply goTG_b | apply goOG_b) <;> intro h <;> ((try simp only [hnq] at h); (try simp only [h]); (try simp only [hnr] at h)) <;> (try (exfalso; omega))))
    · omega
theorem d_laws_eqSlipS_3 (r0 r1 r2 : List Int) (h0 : r0.length < 1048577) (h1 : r1.length < 1048577) (h2 : r2.length < 1048577) : Den PA f_laws_eqSlipS [.ownm [.own 1 (r0.map di), .own 1 (r1.map di), .own 1 (r2.map di)], .d (mat [r0, r1, r2])] [.ownm [.own 1 (r0.map di), .own 1 (r1.map di), .own 1 (r2.map di)], .any] (.d (db true)) := by
  refine den_go [0] l_laws_eqSlipS ?_
  repeat' (first | simp -implicitDefEqProofs (maxSteps := 1000000) (disch := (first | omega | (simp only [go_sem] <;> omega) | fail)) only [go_sem, ints, bools, mat, c_laws_eqSlipS] | ((first | apply goIf_b | apply goG_b | apply goTG_b | apply goOG_b) <;> intro h <;> ((try simp only [hnq] at h); (try simp only [h]); (try simp only [hnr] at h)) <;> (try (exfalso; omega))))
  refine go_loop (fun (i : Nat) => ⟨[(0, .sl 0 0 3 1), (1, .d (mat [r0, r1, r2])), (5, .d (di i)), (27, .sl 0 0 3 1)], [some (.mix [.sl 1 0 r0.length 1, .sl 2 0 r1.length 1, .sl 3 0 r2.length 1]), some (.dat 1 (r0.map di)), some (.dat 1 (r1.map di)), some (.dat 1 (r2.map di))]⟩) (fun i => i ≤ 3) (fun i => 3 - i) 0 ?_ ?_ ?_
  · simp -implicitDefEqProofs (maxSteps := 1000000) (disch := (first | omega | (simp only [go_sem] <;> omega) | fail)) only [go_sem, ints, bools, mat]
    all_goals rfl
  · exact Nat.zero_le _
  · rintro i hi J hJ
    rcases i with _ | _ | _ | _ | i
    · have he := d_laws_eqSlip r0 r0 h0
      rw [decide_eq_true rfl] at he
      repeat' (first | simp -implicitDefEqProofs (maxSteps := 1000000) (disch := (first | omega | (simp only [go_sem] <;> omega) | fail)) only [go_sem, ints, bools, mat, flat_lst, flat_n] | ((first | apply goIf_b | apply goG_b | apply goTG_b | apply goOG_b) <;> intro h <;> ((try simp only [hnq] at h); (try simp only [h]); (try simp only [hnr] at h)) <;> (try (exfalso; omega))))
      first | refine goC_call [.r, .r] (he) ?_ | refine goOC_call [.r, .r] (he) ?_
      repeat' (first | simp -implicitDefEqProofs (maxSteps := 1000000) (disch := (first | omega | (simp only [go_sem] <;> omega) | fail)) only [go_sem, ints, bools, mat] | ((first | apply goIf_b | apply goG_b | apply goTG_b | apply goOG_b) <;> intro h <;> ((try simp only [hnq] at h); (try simp only [h]); (try simp only [hnr] at h)) <;> (try (exfalso; omega))))
      refine hJ 1 (by omega) (by omega) _ (by (simp -implicitDefEqProofs (maxSteps := 1000000) (disch := (first | omega | (simp only [go_sem] <;> omega) | fail)) only [go_sem, ints, bools, mat] <;> rfl))
    · have he := d_laws_eqSlip r1 r1 h1
      rw [decide_eq_true rfl] at he
      repeat' (first | simp -implicitDefEqProofs (maxSteps := 1000000) (disch := (first | omega | (simp only [go_sem] <;> omega) | fail)) only [go_sem, ints, bools, mat, flat_lst, flat_n] | ((first | apply goIf_b | apply goG_b | apply goTG_b | apply goOG_b) <;> intro h <;> ((try simp only [hnq] at h); (try simp only [h]); (try simp only [hnr] at h)) <;> (try (exfalso; omega))))
      first | refine goC_call [.r, .r] (he) ?_ | refine goOC_call [.r, .r] (he) ?_
      repeat' (first | simp -implicitDefEqProofs (maxSteps := 1000000) (disch := (first | omega | (simp only [go_sem] <;> omega) | fail)) only [go_sem, ints, bools, mat] | ((first | apply goIf_b | apply goG_b | apply goTG_b | apply goOG_b) <;> intro h <;> ((try simp only [hnq] at h); (try simp only [h]); (try simp only [hnr] at h)) <;> (try (exfalso; omega))))
      refine hJ 2 (by omega) (by omega) _ (by (simp -implicitDefEqProofs (maxSteps := 1000000) (disch := (first | omega | (simp only [go_sem] <;> omega) | fail)) only [go_sem, ints, bools, mat] <;> rfl))
    · have he := d_laws_eqSlip r2 r2 h2
      rw [decide_eq_true rfl] at he
      repeat' (first | simp -implicitDefEqProofs (maxSteps := 1000000) (disch := (first | omega | (simp only [go_sem] <;> omega) | fail)) only [go_sem, ints, bools, mat, flat_lst, flat_n] | ((first | apply goIf_b | apply goG_b | apply goTG_b | apply goOG_b) <;> intro h <;> ((try simp only [hnq] at h); (try simp only [h]); (try simp only [hnr] at h)) <;> (try (exfalso; omega))))
      first | refine goC_call [.r, .r] (he) ?_ | refine goOC_call [.r, .r] (he) ?_
      repeat' (first | simp -implicitDefEqProofs (maxSteps := 1000000) (disch := (first | omega | (simp only [go_sem] <;> omega) | fail)) only [go_sem, ints, bools, mat] | ((first | apply goIf_b | apply goG_b | apply goTG_b | apply goOG_b) <;> intro h <;> ((try simp only [hnq] at h); (try simp only [h]); (try simp only [hnr] at h)) <;> (try (exfalso; omega))))
      refine hJ 3 (by omega) (by omega) _ (by (simp -implicitDefEqProofs (maxSteps := 1000000) (disch := (first | omega | (simp only [go_sem] <;> omega) | fail)) only [go_sem, ints, bools, mat] <;> rfl))
    · repeat' (first | simp -implicitDefEqProofs (maxSteps := 1000000) (disch := (first | omega | (simp only [go_sem] <;> omega) | fail)) only [go_sem, ints, bools, mat] | ((first | apply goIf_b | apply goG_b | apply goTG_b | apply goOG_b) <;> intro h <;> ((try simp only [hnq] at h); (try simp only [h]); (try simp only [hnr] at h)) <;> (try (exfalso; omega))))
    · omega
theorem d_laws_markSlipS_3 (r0 r1 r2 : List Int) (h0 : r0.length < 1048577) (h1 : r1.length < 1048577) (h2 : r2.length < 1048577) (k : Int) (hk : 0 ≤ k) (hk2 : k < 1000000) : Den PA f_laws_markSlipS [.ownm [.own 1 (r0.map di), .own 1 (r1.map di), .own 1 (r2.map di)], .d (di k)] [.ownm [.own 1 ((markL r0.length (k)).map di), .own 1 ((markL r1.length (k + r0.length)).map di), .own 1 ((markL r2.length (k + r0.length + r1.length)).map di)], .any] (.d (di (k + r0.length + r1.length + r2.length))) := by
  have hm0 := d_laws_markSlip r0 (k) h0 (by omega) (by omega)
  have hl0 := markL_len r0.length (k)
  have hm1 := d_laws_markSlip r1 (k + r0.length) h1 (by omega) (by omega)
  have hl1 := markL_len r1.length (k + r0.length)
  have hm2 := d_laws_markSlip r2 (k + r0.length + r1.length) h2 (by omega) (by omega)
  have hl2 := markL_len r2.length (k + r0.length + r1.length)
  refine den_go [0] l_laws_markSlipS ?_
  repeat' (first | simp -implicitDefEqProofs (maxSteps := 1000000) (disch := (first | omega | (simp only [go_sem] <;> omega) | fail)) only [go_sem, ints, bools, mat, c_laws_markSlipS] | ((first | apply goIf_b | apply goG_b | apply goTG_b | apply goOG_b) <;> intro h <;> ((try simp only [hnq] at h); (try simp only [h]); (try simp only [hnr] at h)) <;> (try (exfalso; omega))))
  refine go_loop (fun (i : Nat) => match i with | 0 => ⟨[(0, .sl 0 0 3 1), (1, .d (di (k))), (5, .d (di ((0 : Nat) : Int))), (19, .sl 0 0 3 1)], [some (.mix [.sl 1 0 r0.length 1, .sl 2 0 r1.length 1, .sl 3 0 r2.length 1]), some (.dat 1 ((r0).map di)), some (.dat 1 ((r1).map di)), some (.dat 1 ((r2).map di))]⟩ | 1 => ⟨[(0, .sl 0 0 3 1), (1, .d (di (k + r0.length))), (5, .d (di ((1 : Nat) : Int))), (19, .sl 0 0 3 1)], [some (.mix [.sl 1 0 r0.length 1, .sl 2 0 r1.length 1, .sl 3 0 r2.length 1]), some (.dat 1 ((markL r0.length (k)).map di)), some (.dat 1 ((r1).map di)), some (.dat 1 ((r2).map di))]⟩ | 2 => ⟨[(0, .sl 0 0 3 1), (1, .d (di (k + r0.length + r1.length))), (5, .d (di ((2 : Nat) : Int))), (19, .sl 0 0 3 1)], [some (.mix [.sl 1 0 r0.length 1, .sl 2 0 r1.length 1, .sl 3 0 r2.length 1]), some (.dat 1 ((markL r0.length (k)).map di)), some (.dat 1 ((markL r1.length (k + r0.length)).map di)), some (.dat 1 ((r2).map di))]⟩ | _ => ⟨[(0, .sl 0 0 3 1), (1, .d (di (k + r0.length + r1.length + r2.length))), (5, .d (di ((3 : Nat) : Int))), (19, .sl 0 0 3 1)], [some (.mix [.sl 1 0 r0.length 1, .sl 2 0 r1.length 1, .sl 3 0 r2.length 1]), some (.dat 1 ((markL r0.length (k)).map di)), some (.dat 1 ((markL r1.length (k + r0.length)).map di)), some (.dat 1 ((markL r2.length (k + r0.length + r1.length)).map di))]⟩) (fun i => i ≤ 3) (fun i => 3 - i) 0 ?_ ?_ ?_
  · simp -implicitDefEqProofs (maxSteps := 1000000) (disch := (first | omega | (simp only [go_sem] <;> omega) | fail)) only [go_sem, ints, bools, mat]
    all_goals rfl
  · exact Nat.zero_le _
  · rintro i hi J hJ
    rcases i with _ | _ | _ | _ | i
    · repeat' (first | simp -implicitDefEqProofs (maxSteps := 1000000) (disch := (first | omega | (simp only [go_sem] <;> omega) | fail)) only [go_sem, ints, bools, mat] | ((first | apply goIf_b | apply goG_b | apply goTG_b | apply goOG_b) <;> intro h <;> ((try simp only [hnq] at h); (try simp only [h]); (try simp only [hnr] at h)) <;> (try (exfalso; omega))))
      first | refine goC_call [.o, .r] (hm0) ?_ | refine goOC_call [.o, .r] (hm0) ?_
      repeat' (first | simp -implicitDefEqProofs (maxSteps := 1000000) (disch := (first | omega | (simp only [go_sem] <;> omega) | fail)) only [go_sem, ints, bools, mat, hl0] | ((first | apply goIf_b | apply goG_b | apply goTG_b | apply goOG_b) <;> intro h <;> ((try simp only [hnq] at h); (try simp only [h]); (try simp only [hnr] at h)) <;> (try (exfalso; omega))))
      refine hJ 1 (by omega) (by omega) _ (by (simp -implicitDefEqProofs (maxSteps := 1000000) (disch := (first | omega | (simp only [go_sem] <;> omega) | fail)) only [go_sem, ints, bools, mat, hl0] <;> rfl))
    · repeat' (first | simp -implicitDefEqProofs (maxSteps := 1000000) (disch := (first | omega | (simp only [go_sem] <;> omega) | fail)) only [go_sem, ints, bools, mat] | ((first | apply goIf_b | apply goG_b | apply goTG_b | apply goOG_b) <;> intro h <;> ((try simp only [hnq] at h); (try simp only [h]); (try simp only [hnr] at h)) <;> (try (exfalso; omega))))
      first | refine goC_call [.o, .r] (hm1) ?_ | refine goOC_call [.o, .r] (hm1) ?_
      repeat' (first | simp -implicitDefEqProofs (maxSteps := 1000000) (disch := (first | omega | (simp only [go_sem] <;> omega) | fail)) only [go_sem, ints, bools, mat, hl1] | ((first | apply goIf_b | apply goG_b | apply goTG_b | apply goOG_b) <;> intro h <;> ((try simp only [hnq] at h); (try simp only [h]); (try simp only [hnr] at h)) <;> (try (exfalso; omega))))
      refine hJ 2 (by omega) (by omega) _ (by (simp -implicitDefEqProofs (maxSteps := 1000000) (disch := (first | omega | (simp only [go_sem] <;> omega) | fail)) only [go_sem, ints, bools, mat, hl1] <;> rfl))
    · repeat' (first | simp -implicitDefEqProofs (maxSteps := 1000000) (disch := (first | omega | (simp only [go_sem] <;> omega) | fail)) only [go_sem, ints, bools, mat] | ((first | apply goIf_b | apply goG_b | apply goTG_b | apply goOG_b) <;> intro h <;> ((try simp only [hnq] at h); (try simp only [h]); (try simp only [hnr] at h)) <;> (try (exfalso; omega))))
      first | refine goC_call [.o, .r] (hm2) ?_ | refine goOC_call [.o, .r] (hm2) ?_
      repeat' (first | simp -implicitDefEqProofs (maxSteps := 1000000) (disch := (first | omega | (simp only [go_sem] <;> omega) | fail)) only [go_sem, ints, bools, mat, hl2] | ((first | apply goIf_b | apply goG_b | apply goTG_b | apply goOG_b) <;> intro h <;> ((try simp only [hnq] at h); (try simp only [h]); (try simp only [hnr] at h)) <;> (try (exfalso; omega))))
      refine hJ 3 (by omega) (by omega) _ (by (simp -implicitDefEqProofs (maxSteps := 1000000) (disch := (first | omega | (simp only [go_sem] <;> omega) | fail)) only [go_sem, ints, bools, mat, hl2] <;> rfl))
    · repeat' (first | simp -implicitDefEqProofs (maxSteps := 1000000) (disch := (first | omega | (simp only [go_sem] <;> omega) | fail)) only [go_sem, ints, bools, mat] | ((first | apply goIf_b | apply goG_b | apply goTG_b | apply goOG_b) <;> intro h <;> ((try simp only [hnq] at h); (try simp only [h]); (try simp only [hnr] at h)) <;> (try (exfalso; omega))))
    · omega
theorem d_laws_heldSlipS_3 (r0 r1 r2 : List Int) (h0 : r0.length < 1048577) (h1 : r1.length < 1048577) (h2 : r2.length < 1048577) (k : Int) (hk : 0 ≤ k) (hk2 : k < 1000000) : Den PA f_laws_heldSlipS [.ownm [.own 1 ((markL r0.length (k)).map di), .own 1 ((markL r1.length (k + r0.length)).map di), .own 1 ((markL r2.length (k + r0.length + r1.length)).map di)], .d (di k)] [.ownm [.own 1 ((markL r0.length (k)).map di), .own 1 ((markL r1.length (k + r0.length)).map di), .own 1 ((markL r2.length (k + r0.length + r1.length)).map di)], .any] (.d (di (k + r0.length + r1.length + r2.length))) := by
  have hm0 := d_laws_heldSlip r0.length (k) h0 (by omega) (by omega)
  have hl0 := markL_len r0.length (k)
  have hm1 := d_laws_heldSlip r1.length (k + r0.length) h1 (by omega) (by omega)
  have hl1 := markL_len r1.length (k + r0.length)
  have hm2 := d_laws_heldSlip r2.length (k + r0.length + r1.length) h2 (by omega) (by omega)
  have hl2 := markL_len r2.length (k + r0.length + r1.length)
  refine den_go [0] l_laws_heldSlipS ?_
  repeat' (first | simp -implicitDefEqProofs (maxSteps := 1000000) (disch := (first | omega | (simp only [go_sem] <;> omega) | fail)) only [go_sem, ints, bools, mat, c_laws_heldSlipS, hl0, hl1, hl2] | ((first | apply goIf_b | apply goG_b | apply goTG_b | apply goOG_b) <;> intro h <;> ((try simp only [hnq] at h); (try simp only [h]); (try simp only [hnr] at h)) <;> (try (exfalso; omega))))
  refine go_loop (fun (i : Nat) => match i with | 0 => ⟨[(0, .sl 0 0 3 1), (1, .d (di (k))), (5, .d (di ((0 : Nat) : Int))), (21, .sl 0 0 3 1)], [some (.mix [.sl 1 0 r0.length 1, .sl 2 0 r1.length 1, .sl 3 0 r2.length 1]), some (.dat 1 ((markL r0.length (k)).map di)), some (.dat 1 ((markL r1.length (k + r0.length)).map di)), some (.dat 1 ((markL r2.length (k + r0.length + r1.length)).map di))]⟩ | 1 => ⟨[(0, .sl 0 0 3 1), (1, .d (di (k + r0.length))), (5, .d (di ((1 : Nat) : Int))), (21, .sl 0 0 3 1)], [some (.mix [.sl 1 0 r0.length 1, .sl 2 0 r1.length 1, .sl 3 0 r2.length 1]), some (.dat 1 ((markL r0.length (k)).map di)), some (.dat 1 ((markL r1.length (k + r0.length)).map di)), some (.dat 1 ((markL r2.length (k + r0.length + r1.length)).map di))]⟩ | 2 => ⟨[(0, .sl 0 0 3 1), (1, .d (di (k + r0.length + r1.length))), (5, .d (di ((2 : Nat) : Int))), (21, .sl 0 0 3 1)], [some (.mix [.sl 1 0 r0.length 1, .sl 2 0 r1.length 1, .sl 3 0 r2.length 1]), some (.dat 1 ((markL r0.length (k)).map di)), some (.dat 1 ((markL r1.length (k + r0.length)).map di)), some (.dat 1 ((markL r2.length (k + r0.length + r1.length)).map di))]⟩ | _ => ⟨[(0, .sl 0 0 3 1), (1, .d (di (k + r0.length + r1.length + r2.length))), (5, .d (di ((3 : Nat) : Int))), (21, .sl 0 0 3 1)], [some (.mix [.sl 1 0 r0.length 1, .sl 2 0 r1.length 1, .sl 3 0 r2.length 1]), some (.dat 1 ((markL r0.length (k)).map di)), some (.dat 1 ((markL r1.length (k + r0.length)).map di)), some (.dat 1 ((markL r2.length (k + r0.length + r1.length)).map di))]⟩) (fun i => i ≤ 3) (fun i => 3 - i) 0 ?_ ?_ ?_
  · simp -implicitDefEqProofs (maxSteps := 1000000) (disch := (first | omega | (simp only [go_sem] <;> omega) | fail)) only [go_sem, ints, bools, mat, hl0, hl1, hl2]
    all_goals rfl
  · exact Nat.zero_le _
  · rintro i hi J hJ
    rcases i with _ | _ | _ | _ | i
    · repeat' (first | simp -implicitDefEqProofs (maxSteps := 1000000) (disch := (first | omega | (simp only [go_sem] <;> omega) | fail)) only [go_sem, ints, bools, mat, hl0, hl1, hl2] | ((first | apply goIf_b | apply goG_b | apply goTG_b | apply goOG_b) <;> intro h <;> ((try simp only [hnq] at h); (try simp only [h]); (try simp only [hnr] at h)) <;> (try (exfalso; omega))))
      first | refine goC_call [.r, .r] (hm0) ?_ | refine goOC_call [.r, .r] (hm0) ?_
      repeat' (first | simp -implicitDefEqProofs (maxSteps := 1000000) (disch := (first | omega | (simp only [go_sem] <;> omega) | fail)) only [go_sem, ints, bools, mat, hl0, hl1, hl2] | ((first | apply goIf_b | apply goG_b | apply goTG_b | apply goOG_b) <;> intro h <;> ((try simp only [hnq] at h); (try simp only [h]); (try simp only [hnr] at h)) <;> (try (exfalso; omega))))
      refine hJ 1 (by omega) (by omega) _ (by (simp -implicitDefEqProofs (maxSteps := 1000000) (disch := (first | omega | (simp only [go_sem] <;> omega) | fail)) only [go_sem, ints, bools, mat, hl0, hl1, hl2] <;> rfl))
    · repeat' (first | simp -implicitDefEqProofs (maxSteps := 1000000) (disch := (first | omega | (simp only [go_sem] <;> omega) | fail)) only [go_sem, ints, bools, mat, hl0, hl1, hl2] | ((first | apply goIf_b | apply goG_b | apply goTG_b | apply goOG_b) <;> intro h <;> ((try simp only [hnq] at h); (try simp only [h]); (try simp only [hnr] at h)) <;> (try (exfalso; omega))))
      first | refine goC_call [.r, .r] (hm1) ?_ | refine goOC_call [.r, .r] (hm1) ?_
      repeat' (first | simp -implicitDefEqProofs (maxSteps := 1000000) (disch := (first | omega | (simp only [go_sem] <;> omega) | fail)) only [go_sem, ints, bools, mat, hl0, hl1, hl2] | ((first | apply goIf_b | apply goG_b | apply goTG_b | apply goOG_b) <;> intro h <;> ((try simp only [hnq] at h); (try simp only [h]); (try simp only [hnr] at h)) <;> (try (exfalso; omega))))
      refine hJ 2 (by omega) (by omega) _ (by (simp -implicitDefEqProofs (maxSteps := 1000000) (disch := (first | omega | (simp only [go_sem] <;> omega) | fail)) only [go_sem, ints, bools, mat, hl0, hl1, hl2] <;> rfl))
    · repeat' (first | simp -implicitDefEqProofs (maxSteps := 1000000) (disch := (first | omega | (simp only [go_sem] <;> omega) | fail)) only [go_sem, ints, bools, mat, hl0, hl1, hl2] | ((first | apply goIf_b | apply goG_b | apply goTG_b | apply goOG_b) <;> intro h <;> ((try simp only [hnq] at h); (try simp only [h]); (try simp only [hnr] at h)) <;> (try (exfalso; omega))))
      first | refine goC_call [.r, .r] (hm2) ?_ | refine goOC_call [.r, .r] (hm2) ?_
      repeat' (first | simp -implicitDefEqProofs (maxSteps := 1000000) (disch := (first | omega | (simp only [go_sem] <;> omega) | fail)) only [go_sem, ints, bools, mat, hl0, hl1, hl2] | ((first | apply goIf_b | apply goG_b | apply goTG_b | apply goOG_b) <;> intro h <;> ((try simp only [hnq] at h); (try simp only [h]); (try simp only [hnr] at h)) <;> (try (exfalso; omega))))
      refine hJ 3 (by omega) (by omega) _ (by (simp -implicitDefEqProofs (maxSteps := 1000000) (disch := (first | omega | (simp only [go_sem] <;> omega) | fail)) only [go_sem, ints, bools, mat, hl0, hl1, hl2] <;> rfl))
    · repeat' (first | simp -implicitDefEqProofs (maxSteps := 1000000) (disch := (first | omega | (simp only [go_sem] <;> omega) | fail)) only [go_sem, ints, bools, mat, hl0, hl1, hl2] | ((first | apply goIf_b | apply goG_b | apply goTG_b | apply goOG_b) <;> intro h <;> ((try simp only [hnq] at h); (try simp only [h]); (try simp only [hnr] at h)) <;> (try (exfalso; omega))))
    · omega
theorem d_laws_eqSlipS_4 (r0 r1 r2 r3 : List Int) (h0 : r0.length < 1048577) (h1 : r1.length < 1048577) (h2 : r2.length < 1048577) (h3 : r3.length < 1048577) : Den PA f_laws_eqSlipS [.ownm [.own 1 (r0.map di), .own 1 (r1.map di), .own 1 (r2.map di), .own 1 (r3.map di)], .d (mat [r0, r1, r2, r3])] [.ownm [.own 1 (r0.map di), .own 1 (r1.map di), .own 1 (r2.map di), .own 1 (r3.map di)], .any] (.d (db true)) := by
  refine den_go [0] l_laws_eqSlipS ?_
  repeat' (first | simp -implicitDefEqProofs (maxSteps := 1000000) (disch := (first | omega | (simp only [go_sem] <;> omega) | fail)) only [go_sem, ints, bools, mat, c_laws_eqSlipS] | ((first | apply goIf_b | apply goG_b | apply goTG_b | apply goOG_b) <;> intro h <;> ((try simp only [hnq] at h); (try simp only [h]); (try simp only [hnr] at h)) <;> (try (exfalso; omega))))
  refine go_loop (fun (i : Nat) => ⟨[(0, .sl 0 0 4 1), (1, .d (mat [r0, r1, r2, r3])), (5, .d (di i)), (27, .sl 0 0 4 1)], [some (.mix [.sl 1 0 r0.length 1, .sl 2 0 r1.length 1, .sl 3 0 r2.length 1, .sl 4 0 r3.length 1]), some (.dat 1 (r0.map di)), some (.dat 1 (r1.map di)), some (.dat 1 (r2.map di)), some (.dat 1 (r3.map di))]⟩) (fun i => i ≤ 4) (fun i => 4 - i) 0 ?_ ?_ ?_
  · simp -implicitDefEqProofs (maxSteps := 1000000) (disch := (first | omega | (simp only [go_sem] <;> omega) | fail)) only [go_sem, ints, bools, mat]
    all_goals rfl
  · exact Nat.zero_le _
  · rintro i hi J hJ
    rcases i with _ | _ | _ | _ | _ | i
    · have he := d_laws_eqSlip r0 r0 h0
      rw [decide_eq_true rfl] at he
      repeat' (first | simp -implicitDefEqProofs (maxSteps := 1000000) (disch := (first | omega | (simp only [go_sem] <;> omega) | fail)) only [go_sem, ints, bools, mat, flat_lst, flat_n] | ((first | apply goIf_b | apply goG_b | apply goTG_b | apply goOG_b) <;> intro h <;> ((try simp only [hnq] at h); (try simp only [h]); (try simp only [hnr] at h)) <;> (try (exfalso; omega))))
      first | refine goC_call [.r, .r] (he) ?_ | refine goOC_call [.r, .r] (he) ?_
      repeat' (first | simp -implicitDefEqProofs (maxSteps := 1000000) (disch := (first | omega | (simp only [go_sem] <;> omega) | fail)) only [go_sem, ints, bools, mat] | ((first | apply goIf_b | apply goG_b | apply goTG_b | apply goOG_b) <;> intro h <;> ((try simp only [hnq] at h); (try simp only [h]); (try simp only [hnr] at h)) <;> (try (exfalso; omega))))
      refine hJ 1 (by omega) (by omega) _ (by (simp -implicitDefEqProofs (maxSteps := 1000000) (disch := (first | omega | (simp only [go_sem] <;> omega) | fail)) only [go_sem, ints, bools, mat] <;> rfl))
    · have he := d_laws_eqSlip r1 r1 h1
      rw [decide_eq_true rfl] at he
      repeat' (first | simp -implicitDefEqProofs (maxSteps := 1000000) (disch := (first | omega | (simp only [go_sem] <;> omega) | fail)) only [go_sem, ints, bools, mat, flat_lst, flat_n] | ((first | apply goIf_b | apply goG_b | apply goTG_b | apply goOG_b) <;> intro h <;> ((try simp only [hnq] at h); (try simp only [h]); (try simp only [hnr] at h)) <;> (try (exfalso; omega))))
      first | refine goC_call [.r, .r] (he) ?_ | refine goOC_call [.r, .r] (he) ?_
      repeat' (first | simp -implicitDefEqProofs (maxSteps := 1000000) (disch := (first | omega | (simp only [go_sem] <;> omega) | fail)) only [go_sem, ints, bools, mat] | ((first | apply goIf_b | apply goG_b | apply goTG_b | apply goOG_b) <;> intro h <;> ((try simp only [hnq] at h); (try simp only [h]); (try simp only [hnr] at h)) <;> (try (exfalso; omega))))
      refine hJ 2 (by omega) (by omega) _ (by (simp -implicitDefEqProofs (maxSteps := 1000000) (disch := (first | omega | (simp only [go_sem] <;> omega) | fail)) only [go_sem, ints, bools, mat] <;> rfl))
    · have he := d_laws_eqSlip r2 r2 h2
      rw [decide_eq_true rfl] at he
      repeat' (first | simp -implicitDefEqProofs (maxSteps := 1000000) (disch := (first | omega | (simp only [go_sem] <;> omega) | fail)) only [go_sem, ints, bools, mat, flat_lst, flat_n] | ((first | apply goIf_b | apply goG_b | apply goTG_b | apply goOG_b) <;> intro h <;> ((try simp only [hnq] at h); (try simp only [h]); (try simp only [hnr] at h)) <;> (try (exfalso; omega))))
      first | refine goC_call [.r, .r] (he) ?_ | refine goOC_call [.r, .r] (he) ?_
      repeat' (first | simp -implicitDefEqProofs (maxSteps := 1000000) (disch := (first | omega | (simp only [go_sem] <;> omega) | fail)) only [go_sem, ints, bools, mat] | ((first | apply goIf_b | apply goG_b | apply goTG_b | apply goOG_b) <;> intro h <;> ((try simp only [hnq] at h); (try simp only [h]); (try simp only [hnr] at h)) <;> (try (exfalso; omega))))
      refine hJ 3 (by omega) (by omega) _ (by (simp -implicitDefEqProofs (maxSteps := 1000000) (disch := (first | omega | (simp only [go_sem] <;> omega) | fail)) only [go_sem, ints, bools, mat] <;> rfl))
    · have he := d_laws_eqSlip r3 r3 h3
      rw [decide_eq_true rfl] at he
      repeat' (first | simp -implicitDefEqProofs (maxSteps := 1000000) (disch := (first | omega | (simp only [go_sem] <;> omega) | fail)) only [go_sem, ints, bools, mat, flat_lst, flat_n] | ((first | apply goIf_b | apply goG_b | apply goTG_b | apply goOG_b) <;> intro h <;> ((try simp only [hnq] at h); (try simp only [h]); (try simp only [hnr] at h)) <;> (try (exfalso; omega))))
      first | refine goC_call [.r, .r] (he) ?_ | refine goOC_call [.r, .r] (he) ?_
      repeat' (first | simp -implicitDefEqProofs (maxSteps := 1000000) (disch := (first | omega | (simp only [go_sem] <;> omega) | fail)) only [go_sem, ints, bools, mat] | ((first | apply goIf_b | apply goG_b | apply goTG_b | apply goOG_b) <;> intro h <;> ((try simp only [hnq] at h); (try simp only [h]); (try simp only [hnr] at h)) <;> (try (exfalso; omega))))
      refine hJ 4 (by omega) (by omega) _ (by (simp -implicitDefEqProofs (maxSteps := 1000000) (disch := (first | omega | (simp only [go_sem] <;> omega) | fail)) only [go_sem, ints, bools, mat] <;> rfl))
    · repeat' (first | simp -implicitDefEqProofs (maxSteps := 1000000) (disch := (first | omega | (simp only [go_sem] <;> omega) | fail)) only [go_sem, ints, bools, mat] | ((first | apply goIf_b | apply goG_b | apply goTG_b | apply goOG_b) <;> intro h <;> ((try simp only [hnq] at h); (try simp only [h]); (try simp only [hnr] at h)) <;> (try (exfalso; omega))))
    · omega
theorem d_laws_markSlipS_4 (r0 r1 r2 r3 : List Int) (h0 : r0.length < 1048577) (h1 : r1.length < 1048577) (h2 : r2.length < 1048577) (h3 : r3.length < 1048577) (k : Int) (hk : 0 ≤ k) (hk2 : k < 1000000) : Den PA f_laws_markSlipS [.ownm [.own 1 (r0.map di), .own 1 (r1.map di), .own 1 (r2.map di), .own 1 (r3.map di)], .d (di k)] [.ownm [.own 1 ((markL r0.length (k)).map di), .own 1 ((markL r1.length (k + r0.length)).map di), .own 1 ((markL r2.length (k + r0.length + r1.length)).map di), .own 1 ((markL r3.length (k + r0.length + r1.length + r2.length)).map di)], .any] (.d (di (k + r0.length + r1.length + r2.length + r3.length))) := by
  have hm0 := d_laws_markSlip r0 (k) h0 (by omega) (by omega)
  have hl0 := markL_len r0.length (k)
  have hm1 := d_laws_markSlip r1 (k + r0.length) h1 (by omega) (by omega)
  have hl1 := markL_len r1.length (k + r0.length)
  have hm2 := d_laws_markSlip r2 (k + r0.length + r1.length) h2 (by omega) (by omega)
  have hl2 := markL_len r2.length (k + r0.length + r1.length)
  have hm3 := d_laws_markSlip r3 (k + r0.length + r1.length + r2.length) h3 (by omega) (by omega)
  have hl3 := markL_len r3.length (k + r0.length + r1.length + r2.length)
  refine den_go [0] l_laws_markSlipS ?_
  repeat' (first | simp -implicitDefEqProofs (maxSteps := 1000000) (disch := (first | omega | (simp only [go_sem] <;> omega) | fail)) only [go_sem, ints, bools, mat, c_laws_markSlipS] | ((first | apply goIf_b | apply goG_b | apply goTG_b | apply goOG_b) <;> intro h <;> ((try simp only [hnq] at h); (try simp only [h]); (try simp only [hnr] at h)) <;> (try (exfalso; omega))))
  refine go_loop (fun (i : Nat) => match i with | 0 => ⟨[(0, .sl 0 0 4 1), (1, .d (di (k))), (5, .d (di ((0 : Nat) : Int))), (19, .sl 0 0 4 1)], [some (.mix [.sl 1 0 r0.length 1, .sl 2 0 r1.length 1, .sl 3 0 r2.length 1, .sl 4 0 r3.length 1]), some (.dat 1 ((r0).map di)), some (.dat 1 ((r1).map di)), some (.dat 1 ((r2).map di)), some (.dat 1 ((r3).map di))]⟩ | 1 => ⟨[(0, .sl 0 0 4 1), (1, .d (di (k + r0.length))), (5, .d (di ((1 : Nat) : Int))), (19, .sl 0 0 4 1)], [some (.mix [.sl 1 0 r0.length 1, .sl 2 0 r1.length 1, .sl 3 0 r2.length 1, .sl 4 0 r3.length 1]), some (.dat 1 ((markL r0.length (k)).map di)), some (.dat 1 ((r1).map di)), some (.dat 1 ((r2).map di)), some (.dat 1 ((r3).map di))]⟩ | 2 => ⟨[(0, .sl 0 0 4 1), (1, .d (di (k + r0.length + r1.length))), (5, .d (di ((2 : Nat) : Int))), (19, .sl 0 0 4 1)], [some (.mix [.sl 1 0 r0.length 1, .sl 2 0 r1.length 1, .sl 3 0 r2.length 1, .sl 4 0 r3.length 1]), some (.dat 1 ((markL r0.length (k)).map di)), some (.dat 1 ((markL r1.length (k + r0.length)).map di)), some (.dat 1 ((r2).map di)), some (.dat 1 ((r3).map di))]⟩ | 3 => ⟨[(0, .sl 0 0 4 1), (1, .d (di (k + r0.length + r1.length + r2.length))), (5, .d (di ((3 : Nat) : Int))), (19, .sl 0 0 4 1)], [some (.mix [.sl 1 0 r0.length 1, .sl 2 0 r1.length 1, .sl 3 0 r2.length 1, .sl 4 0 r3.length 1]), some (.dat 1 ((markL r0.length (k)).map di)), some (.dat 1 ((markL r1.length (k + r0.length)).map di)), some (.dat 1 ((markL r2.length (k + r0.length + r1.length)).map di)), some (.dat 1 ((r3).map di))]⟩ | _ => ⟨[(0, .sl 0 0 4 1), (1, .d (di (k + r0.length + r1.length + r2.length + r3.length))), (5, .d (di ((4 : Nat) : Int))), (19, .sl 0 0 4 1)], [some (.mix [.sl 1 0 r0.length 1, .sl 2 0 r1.length 1, .sl 3 0 r2.length 1, .sl 4 0 r3.length 1]), some (.dat 1 ((markL r0.length (k)).map di)), some (.dat 1 ((markL r1.length (k + r0.length)).map di)), some (.dat 1 ((markL r2.length (k + r0.length + r1.length)).map di)), some (.dat 1 ((markL r3.length (k + r0.length + r1.length + r2.length)).map di))]⟩) (fun i => i ≤ 4) (fun i => 4 - i) 0 ?_ ?_ ?_
  · simp -implicitDefEqProofs (maxSteps := 1000000) (disch := (first | omega | (simp only [go_sem] <;> omega) | fail)) only [go_sem, ints, bools, mat]
    all_goals rfl
  · exact Nat.zero_le _
  · rintro i hi J hJ
    rcases i with _ | _ | _ | _ | _ | i
    · repeat' (first | simp -implicitDefEqProofs (maxSteps := 1000000) (disch := (first | omega | (simp only [go_sem] <;> omega) | fail)) only [go_sem, ints, bools, mat] | ((first | apply goIf_b | apply goG_b | apply goTG_b | apply goOG_b) <;> intro h <;> ((try simp only [hnq] at h); (try simp only [h]); (try simp only [hnr] at h)) <;> (try (exfalso; omega))))
      first | refine goC_call [.o, .r] (hm0) ?_ | refine goOC_call [.o, .r] (hm0) ?_
      repeat' (first | simp -implicitDefEqProofs (maxSteps := 1000000) (disch := (first | omega | (simp only [go_sem] <;> omega) | fail)) only [go_sem, ints, bools, mat, hl0] | ((first | apply goIf_b | apply goG_b | apply goTG_b | apply goOG_b) <;> intro h <;> ((try simp only [hnq] at h); (try simp only [h]); (try simp only [hnr] at h)) <;> (try (exfalso; omega))))
      refine hJ 1 (by omega) (by omega) _ (by (simp -implicitDefEqProofs (maxSteps := 1000000) (disch := (first | omega | (simp only [go_sem] <;> omega) | fail)) only [go_sem, ints, bools, mat, hl0] <;> rfl))
    · repeat' (first | simp -implicitDefEqProofs (maxSteps := 1000000) (disch := (first | omega | (simp only [go_sem] <;> omega) | fail)) only [go_sem, ints, bools, mat] | ((first | apply goIf_b | apply goG_b | apply goTG_b | apply goOG_b) <;> intro h <;> ((try simp only [hnq] at h); (try simp only [h]); (try simp only [hnr] at h)) <;> (try (exfalso; omega))))
      first | refine goC_call [.o, .r] (hm1) ?_ | refine goOC_call [.o, .r] (hm1) ?_
      repeat' (first | simp -implicitDefEqProofs (maxSteps := 1000000) (disch := (first | omega | (simp only [go_sem] <;> omega) | fail)) only [go_sem, ints, bools, mat, hl1] | ((first | apply goIf_b | apply goG_b | apply goTG_b | apply goOG_b) <;> intro h <;> ((try simp only [hnq] at h); (try simp only [h]); (try simp only [hnr] at h)) <;> (try (exfalso; omega))))
      refine hJ 2 (by omega) (by omega) _ (by (simp -implicitDefEqProofs (maxSteps := 1000000) (disch := (first | omega | (simp only [go_sem] <;> omega) | fail)) only [go_sem, ints, bools, mat, hl1] <;> rfl))
    · repeat' (first | simp -implicitDefEqProofs (maxSteps := 1000000) (disch := (first | omega | (simp only [go_sem] <;> omega) | fail)) only [go_sem, ints, bools, mat] | ((first | apply goIf_b | apply goG_b | apply goTG_b | apply goOG_b) <;> intro h <;> ((try simp only [hnq] at h); (try simp only [h]); (try simp only [hnr] at h)) <;> (try (exfalso; omega))))
      first | refine goC_call [.o, .r] (hm2) ?_ | refine goOC_call [.o, .r] (hm2) ?_
      repeat' (first | simp -implicitDefEqProofs (maxSteps := 1000000) (disch := (first | omega | (simp only [go_sem] <;> omega) | fail)) only [go_sem, ints, bools, mat, hl2] | ((first | apply goIf_b | apply goG_b | apply goTG_b | apply goOG_b) <;> intro h <;> ((try simp only [hnq] at h); (try simp only [h]); (try simp only [hnr] at h)) <;> (try (exfalso; omega))))
      refine hJ 3 (by omega) (by omega) _ (by (simp -implicitDefEqProofs (maxSteps := 1000000) (disch := (first | omega | (simp only [go_sem] <;> omega) | fail)) only [go_sem, ints, bools, mat, hl2] <;> rfl))
    · repeat' (first | simp -implicitDefEqProofs (maxSteps := 1000000) (disch := (first | omega | (simp only [go_sem] <;> omega) | fail)) only [go_sem, ints, bools, mat] | ((first | apply goIf_b | apply goG_b | apply goTG_b | apply goOG_b) <;> intro h <;> ((try simp only [hnq] at h); (try simp only [h]); (try simp only [hnr] at h)) <;> (try (exfalso; omega))))
      first | refine goC_call [.o, .r] (hm3) ?_ | refine goOC_call [.o, .r] (hm3) ?_
      repeat' (first | simp -implicitDefEqProofs (maxSteps := 1000000) (disch := (first | omega | (simp only [go_sem] <;> omega) | fail)) only [go_sem, ints, bools, mat, hl3] | ((first | apply goIf_b | apply goG_b | apply goTG_b | apply goOG_b) <;> intro h <;> ((try simp only [hnq] at h); (try simp only [h]); (try simp only [hnr] at h)) <;> (try (exfalso; omega))))
      refine hJ 4 (by omega) (by omega) _ (by (simp -implicitDefEqProofs (maxSteps := 1000000) (disch := (first | omega | (simp only [go_sem] <;> omega) | fail)) only [go_sem, ints, bools, mat, hl3] <;> rfl))
    · repeat' (first | simp -implicitDefEqProofs (maxSteps := 1000000) (disch := (first | omega | (simp only [go_sem] <;> omega) | fail)) only [go_sem, ints, bools, mat] | ((first | apply goIf_b | apply goG_b | apply goTG_b | apply goOG_b) <;> intro h <;> ((try simp only [hnq] at h); (try simp only [h]); (try simp only [hnr] at h)) <;> (try (exfalso; omega))))
    · omega
theorem d_laws_heldSlipS_4 (r0 r1 r2 r3 : List Int) (h0 : r0.length < 1048577) (h1 : r1.length < 1048577) (h2 : r2.length < 1048577) (h3 : r3.length < 1048577) (k : Int) (hk : 0 ≤ k) (hk2 : k < 1000000) : Den PA f_laws_heldSlipS [.ownm [.own 1 ((markL r0.length (k)).map di), .own 1 ((markL r1.length (k + r0.length)).map di), .own 1 ((markL r2.length (k + r0.length + r1.length)).map di), .own 1 ((markL r3.length (k + r0.length + r1.length + r2.length)).map di)], .d (di k)] [.ownm [.own 1 ((markL r0.length (k)).map di), .own 1 ((markL r1.length (k + r0.length)).map di), .own 1 ((markL r2.length (k + r0.length + r1.length)).map di), .own 1 ((markL r3.length (k + r0.length + r1.length + r2.length)).map di)], .any] (.d (di (k + r0.length + r1.length + r2.length + r3.length))) := by
  have hm0 := d_laws_heldSlip r0.length (k) h0 (by omega) (by omega)
  have hl0 := markL_len r0.length (k)
  have hm1 := d_laws_heldSlip r1.length (k + r0.length) h1 (by omega) (by omega)
  have hl1 := markL_len r1.length (k + r0.length)
  have hm2 := d_laws_heldSlip r2.length (k + r0.length + r1.length) h2 (by omega) (by omega)
  have hl2 := markL_len r2.length (k + r0.length + r1.length)
  have hm3 := d_laws_heldSlip r3.length (k + r0.length + r1.length + r2.length) h3 (by omega) (by omega)
  have hl3 := markL_len r3.length (k + r0.length + r1.length + r2.length)
  refine den_go [0] l_laws_heldSlipS ?_
  repeat' (first | simp -implicitDefEqProofs (maxSteps := 1000000) (disch := (first | omega | (simp only [go_sem] <;> omega) | fail)) only [go_sem, ints, bools, mat, c_laws_heldSlipS, hl0, hl1, hl2, hl3] | ((first | apply goIf_b | apply goG_b | apply goTG_b | apply goOG_b) <;> intro h <;> ((try simp only [hnq] at h); (try simp only [h]); (try simp only [hnr] at h)) <;> (try (exfalso; omega))))
  refine go_loop (fun (i : Nat) => match i with | 0 => ⟨[(0, .sl 0 0 4 1), (1, .d (di (k))), (5, .d (di ((0 : Nat) : Int))), (21, .sl 0 0 4 1)], [some (.mix [.sl 1 0 r0.length 1, .sl 2 0 r1.length 1, .sl 3 0 r2.length 1, .sl 4 0 r3.length 1]), some (.dat 1 ((markL r0.length (k)).map di)), some (.dat 1 ((markL r1.length (k + r0.length)).map di)), some (.dat 1 ((markL r2.length (k + r0.length + r1.length)).map di)), some (.dat 1 ((markL r3.length (k + r0.length + r1.length + r2.length)).map di))]⟩ | 1 => ⟨[(0, .sl 0 0 4 1), (1, .d (di (k + r0.length))), (5, .d (di ((1 : Nat) : Int))), (21, .sl 0 0 4 1)], [some (.mix [.sl 1 0 r0.length 1, .sl 2 0 r1.length 1, .sl 3 0 r2.length 1, .sl 4 0 r3.length 1]), some (.dat 1 ((markL r0.length (k)).map di)), some (.dat 1 ((markL r1.length (k + r0.length)).map di)), some (.dat 1 ((markL r2.length (k + r0.length + r1.length)).map di)), some (.dat 1 ((markL r3.length (k + r0.length + r1.length + r2.length)).map di))]⟩ | 2 => ⟨[(0, .sl 0 0 4 1), (1, .d (di (k + r0.length + r1.length))), (5, .d (di ((2 : Nat) : Int))), (21, .sl 0 0 4 1)], [some (.mix [.sl 1 0 r0.length 1, .sl 2 0 r1.length 1, .sl 3 0 r2.length 1, .sl 4 0 r3.length 1]), some (.dat 1 ((markL r0.length (k)).map di)), some (.dat 1 ((markL r1.length (k + r0.length)).map di)), some (.dat 1 ((markL r2.length (k + r0.length + r1.length)).map di)), some (.dat 1 ((markL r3.length (k + r0.length + r1.length + r2.length)).map di))]⟩ | 3 => ⟨[(0, .sl 0 0 4 1), (1, .d (di (k + r0.length + r1.length + r2.length))), (5, .d (di ((3 : Nat) : Int))), (21, .sl 0 0 4 1)], [some (.mix [.sl 1 0 r0.length 1, .sl 2 0 r1.length 1, .sl 3 0 r2.length 1, .sl 4 0 r3.length 1]), some (.dat 1 ((markL r0.length (k)).map di)), some (.dat 1 ((markL r1.length (k + r0.length)).map di)), some (.dat 1 ((markL r2.length (k + r0.length + r1.length)).map di)), some (.dat 1 ((markL r3.length (k + r0.length + r1.length + r2.length)).map di))]⟩ | _ => ⟨[(0, .sl 0 0 4 1), (1, .d (di (k + r0.length + r1.length + r2.length + r3.length))), (5, .d (di ((4 : Nat) : Int))), (21, .sl 0 0 4 1)], [some (.mix [.sl 1 0 r0.length 1, .sl 2 0 r1.length 1, .sl 3 0 r2.length 1, .sl 4 0 r3.length 1]), some (.dat 1 ((markL r0.length (k)).map di)), some (.dat 1 ((markL r1.length (k + r0.length)).map di)), some (.dat 1 ((markL r2.length (k + r0.length + r1.length)).map di)), some (.dat 1 ((markL r3.length (k + r0.length + r1.length + r2.length)).map di))]⟩) (fun i => i ≤ 4) (fun i => 4 - i) 0 ?_ ?_ ?_
  · simp -implicitDefEqProofs (maxSteps := 1000000) (disch := (first | omega | (simp only [go_sem] <;> omega) | fail)) only [go_sem, ints, bools, mat, hl0, hl1, hl2, hl3]
    all_goals rfl
  · exact Nat.zero_le _
  · rintro i hi J hJ
    rcases i with _ | _ | _ | _ | _ | i
    · repeat' (first | simp -implicitDefEqProofs (maxSteps := 1000000) (disch := (first | omega | (simp only [go_sem] <;> omega) | fail)) only [go_sem, ints, bools, mat, hl0, hl1, hl2, hl3] | ((first | apply goIf_b | apply goG_b | apply goTG_b | apply goOG_b) <;> intro h <;> ((try simp only [hnq] at h); (try simp only [h]); (try simp only [hnr] at h)) <;> (try (exfalso; omega))))
      first | refine goC_call [.r, .r] (hm0) ?_ | refine goOC_call [.r, .r] (hm0) ?_
      repeat' (first | simp -implicitDefEqProofs (maxSteps := 1000000) (disch := (first | omega | (simp only [go_sem] <;> omega) | fail)) only [go_sem, ints, bools, mat, hl0, hl1, hl2, hl3] | ((first | apply goIf_b | apply goG_b | apply goTG_b | apply goOG_b) <;> intro h <;> ((try simp only [hnq] at h); (try simp only [h]); (try simp only [hnr] at h)) <;> (try (exfalso; omega))))
      refine hJ 1 (by omega) (by omega) _ (by (simp -implicitDefEqProofs (maxSteps := 1000000) (disch := (first | omega | (simp only [go_sem] <;> omega) | fail)) only [go_sem, ints, bools, mat, hl0, hl1, hl2, hl3] <;> rfl))
    · repeat' (first | simp -implicitDefEqProofs (maxSteps := 1000000) (disch := (first | omega | (simp only [go_sem] <;> omega) | fail)) only [go_sem, ints, bools, mat, hl0, hl1, hl2, hl3] | ((first | apply goIf_b | apply goG_b | apply goTG_b | apply goOG_b) <;> intro h <;> ((try simp only [hnq] at h); (try simp only [h]); (try simp only [hnr] at h)) <;> (try (exfalso; omega))))
      first | refine goC_call [.r, .r] (hm1) ?_ | refine goOC_call [.r, .r] (hm1) ?_
      repeat' (first | simp -implicitDefEqProofs (maxSteps := 1000000) (disch := (first | omega | (simp only [go_sem] <;> omega) | fail)) only [go_sem, ints, bools, mat, hl0, hl1, hl2, hl3] | ((first | apply goIf_b | apply goG_b | apply goTG_b | apply goOG_b) <;> intro h <;> ((try simp only [hnq] at h); (try simp only [h]); (try simp only [hnr] at h)) <;> (try (exfalso; omega))))
      refine hJ 2 (by omega) (by omega) _ (by (simp -implicitDefEqProofs (maxSteps := 1000000) (disch := (first | omega | (simp only [go_sem] <;> omega) | fail)) only [go_sem, ints, bools, mat, hl0, hl1, hl2, hl3] <;> rfl))
    · repeat' (first | simp -implicitDefEqProofs (maxSteps := 1000000) (disch := (first | omega | (simp only [go_sem] <;> omega) | fail)) only [go_sem, ints, bools, mat, hl0, hl1, hl2, hl3] | ((first | apply goIf_b | apply goG_b | apply goTG_b | apply goOG_b) <;> intro h <;> ((try simp only [hnq] at h); (try simp only [h]); (try simp only [hnr] at h)) <;> (try (exfalso; omega))))
      first | refine goC_call [.r, .r] (hm2) ?_ | refine goOC_call [.r, .r] (hm2) ?_
      repeat' (first | simp -implicitDefEqProofs (maxSteps := 1000000) (disch := (first | omega | (simp only [go_sem] <;> omega) | fail)) only [go_sem, ints, bools, mat, hl0, hl1, hl2, hl3] | ((first | apply goIf_b | apply goG_b | apply goTG_b | apply goOG_b) <;> intro h <;> ((try simp only [hnq] at h); (try simp only [h]); (try simp only [hnr] at h)) <;> (try (exfalso; omega))))
      refine hJ 3 (by omega) (by omega) _ (by (simp -implicitDefEqProofs (maxSteps := 1000000) (disch := (first | omega | (simp only [go_sem] <;> omega) | fail)) only [go_sem, ints, bools, mat, hl0, hl1, hl2, hl3] <;> rfl))
    · repeat' (first | simp -implicitDefEqProofs (maxSteps := 1000000) (disch := (first | omega | (simp only [go_sem] <;> omega) | fail)) only [go_sem, ints, bools, mat, hl0, hl1, hl2, hl3] | ((first | apply goIf_b | apply goG_b | apply goTG_b | apply goOG_b) <;> intro h <;> ((try simp only [hnq] at h); (try simp only [h]); (try simp only [hnr] at h)) <;> (try (exfalso; omega))))
      first | refine goC_call [.r, .r] (hm3) ?_ | refine goOC_call [.r, .r] (hm3) ?_
      repeat' (first | simp -implicitDefEqProofs (maxSteps := 1000000) (disch := (first | omega | (simp only [go_sem] <;> omega) | fail)) only [go_sem, ints, bools, mat, hl0, hl1, hl2, hl3] | ((first | apply goIf_b | apply goG_b | apply goTG_b | apply goOG_b) <;> intro h <;> ((try simp only [hnq] at h); (try simp only [h]); (try simp only [hnr] at h)) <;> (try (exfalso; omega))))
      refine hJ 4 (by omega) (by omega) _ (by (simp -implicitDefEqProofs (maxSteps := 1000000) (disch := (first | omega | (simp only [go_sem] <;> omega) | fail)) only [go_sem, ints, bools, mat, hl0, hl1, hl2, hl3] <;> rfl))
    · repeat' (first | simp -implicitDefEqProofs (maxSteps := 1000000) (disch := (first | omega | (simp only [go_sem] <;> omega) | fail)) only [go_sem, ints, bools, mat, hl0, hl1, hl2, hl3] | ((first | apply goIf_b | apply goG_b | apply goTG_b | apply goOG_b) <;> intro h <;> ((try simp only [hnq] at h); (try simp only [h]); (try simp only [hnr] at h)) <;> (try (exfalso; omega))))
    · omega
abbrev rowsR (L : List (List Int)) : List R := L.map fun r => R.own 1 (r.map di)
abbrev lstM (e : Int) (L : List (List Int)) : R := .tup [if e = 0 then .ownm (rowsR L) else .d nil, .d (di e)]
theorem lstM_ok {e : Int} (L : List (List Int)) (h : e = 0) : lstM e L = .tup [.ownm (rowsR L), .d (di 0)] := by rw [lstM, if_pos h, h]
theorem lstM_no {e : Int} (L : List (List Int)) (h : ¬ e = 0) : lstM e L = .tup [.d nil, .d (di e)] := by rw [lstM, if_neg h]
def slN (t : List Int) (i : Nat) (j : Nat) : List (List Int) := (signsN (t.getD i 0) j).map fun d => t.set i (2 ^ d.toNat)
abbrev slM (t : List Int) (i : Nat) : List (List Int) := slN t i 4
theorem slN_step (t : List Int) (i j : Nat) : slN t i (j + 1) = slN t i j ++ (if t.getD i 0 / 2 ^ j % 2 = 1 then [t.set i (2 ^ j)] else []) := by
  unfold slN
  rw [signsN_step, List.map_append]
  split <;> simp
theorem slN_len (t : List Int) (i j : Nat) : (slN t i j).length ≤ j := by
  have := signsN_len (t.getD i 0) j
  unfold slN; rw [List.length_map]; exact this
theorem slN_row {t : List Int} {i j : Nat} {r : List Int} (h : r ∈ slN t i j) : r.length = t.length := by
  obtain ⟨d, _, rfl⟩ := List.mem_map.1 h
  simp
theorem slN_more {t : List Int} {i q : Nat} (h0 : 0 ≤ t.getD i 0) (h : t.getD i 0 < 2 ^ q) : ∀ j, slN t i (q + j) = slN t i q
  | 0 => rfl
  | j + 1 => by
    rw [← Nat.add_assoc, slN_step, slN_more h0 h j]
    have h1 : t.getD i 0 / 2 ^ (q + j) = 0 := Int.ediv_eq_zero_of_lt h0 (by
      have : (2 : Int) ^ q ≤ 2 ^ (q + j) := by
        have := Nat.pow_le_pow_right (n := 2) (by omega) (Nat.le_add_right q j)
        exact_mod_cast this
      omega)
    rw [h1, if_neg (by decide), List.append_nil]
theorem slM_ne {t : List Int} {i : Nat} (h0 : 1 ≤ t.getD i 0) (h : t.getD i 0 < 16) : slM t i ≠ [] := by
  intro he
  unfold slM slN at he
  have he2 := List.map_eq_nil_iff.1 he
  generalize t.getD i 0 = m at h0 h he2
  have key : ∀ k : Fin 15, signsM ((k.1 : Int) + 1) ≠ [] := by decide
  have := key ⟨(m - 1).toNat, by omega⟩
  rw [show (((m - 1).toNat : Nat) : Int) + 1 = m by omega] at this
  exact this he2
abbrev seE (l t : List Int) (i : Int) : Int := if scM l [t] = 0 then (if 0 ≤ i ∧ i < l.length then 0 else 2) else scM l [t]
def stS : List (List Int) → Sto
  | [] => [some (.dat 1 [])]
  | [a] => [some (.mix [.sl 1 0 a.length 1]), some (.dat 1 (a.map di))]
  | [a, b] => [some (.mix [.sl 1 0 a.length 1, .sl 2 0 b.length 1]), some (.dat 1 (a.map di)), some (.dat 1 (b.map di))]
  | [a, b, c] => [some (.mix [.sl 1 0 a.length 1, .sl 2 0 b.length 1, .sl 3 0 c.length 1]), some (.dat 1 (a.map di)), some (.dat 1 (b.map di)), some (.dat 1 (c.map di))]
  | [a, b, c, e] => [some (.mix [.sl 1 0 a.length 1, .sl 2 0 b.length 1, .sl 3 0 c.length 1, .sl 4 0 e.length 1]), some (.dat 1 (a.map di)), some (.dat 1 (b.map di)), some (.dat 1 (c.map di)), some (.dat 1 (e.map di))]
  | _ => []
theorem d_impl_isPlace7 (l : List Int) (i : Int) (hl : l.length < 1048577) : Den PA f_impl_isPlace [.d (.agg [ints l]), .d (di i)] [.any, .any] (.d (db (decide (0 ≤ i ∧ i < l.length)))) := by
  by_cases h : 0 ≤ i ∧ i < l.length
  · rw [decide_eq_true h]
    obtain ⟨h1, h2⟩ := h
    refine den_go [] l_impl_isPlace ?_
    repeat' (first | simp -implicitDefEqProofs (maxSteps := 1000000) (disch := (first | omega | (simp only [go_sem] <;> omega) | fail)) only [go_sem, ints, bools, mat, c_impl_isPlace] | ((first | apply goIf_b | apply goG_b | apply goTG_b | apply goOG_b) <;> intro h <;> ((try simp only [hnq] at h); (try simp only [h]); (try simp only [hnr] at h)) <;> (try (exfalso; omega))))
    first | refine goC_call [.r] (d_impl_places l hl) ?_ | refine goOC_call [.r] (d_impl_places l hl) ?_
    repeat' (first | simp -implicitDefEqProofs (maxSteps := 1000000) (disch := (first | omega | (simp only [go_sem] <;> omega) | fail)) only [go_sem, ints, bools, mat] | ((first | apply goIf_b | apply goG_b | apply goTG_b | apply goOG_b) <;> intro h <;> ((try simp only [hnq] at h); (try simp only [h]); (try simp only [hnr] at h)) <;> (try (exfalso; omega))))
    all_goals exact (dbT (decide_eq_true (by omega))).symm
  · rw [decide_eq_false h]
    by_cases h1 : 0 ≤ i
    · refine den_go [] l_impl_isPlace ?_
      repeat' (first | simp -implicitDefEqProofs (maxSteps := 1000000) (disch := (first | omega | (simp only [go_sem] <;> omega) | fail)) only [go_sem, ints, bools, mat, c_impl_isPlace] | ((first | apply goIf_b | apply goG_b | apply goTG_b | apply goOG_b) <;> intro h <;> ((try simp only [hnq] at h); (try simp only [h]); (try simp only [hnr] at h)) <;> (try (exfalso; omega))))
      first | refine goC_call [.r] (d_impl_places l hl) ?_ | refine goOC_call [.r] (d_impl_places l hl) ?_
      repeat' (first | simp -implicitDefEqProofs (maxSteps := 1000000) (disch := (first | omega | (simp only [go_sem] <;> omega) | fail)) only [go_sem, ints, bools, mat] | ((first | apply goIf_b | apply goG_b | apply goTG_b | apply goOG_b) <;> intro h <;> ((try simp only [hnq] at h); (try simp only [h]); (try simp only [hnr] at h)) <;> (try (exfalso; omega))))
      all_goals exact (dbF (b := decide (i < (l.length : Int))) (fun hh => by have := of_decide_eq_true hh; omega)).symm
    · refine den_go [] l_impl_isPlace ?_
      repeat' (first | simp -implicitDefEqProofs (maxSteps := 1000000) (disch := (first | omega | (simp only [go_sem] <;> omega) | fail)) only [go_sem, ints, bools, mat, c_impl_isPlace] | ((first | apply goIf_b | apply goG_b | apply goTG_b | apply goOG_b) <;> intro h <;> ((try simp only [hnq] at h); (try simp only [h]); (try simp only [hnr] at h)) <;> (try (exfalso; omega))))
theorem sc_ok {l t : List Int} (h : scM l [t] = 0) : isSpaceM l = true ∧ isSlipM l t = true := by
  unfold scM at h
  split at h
  · rename_i hs
    split at h
    · rename_i h2; exact ⟨hs, by simpa using h2⟩
    · cases h
  · cases h
def slF (t : List Int) (i : Nat) (S : List Int) : List (List Int) := S.map fun d => t.set i (2 ^ d.toNat)
def stP : List (List Int) → List Int → Sto
  | [], S => [some (.dat 1 []), some (.dat 1 (S.map di))]
  | [a], S => [some (.mix [.sl 2 0 a.length 1]), some (.dat 1 (S.map di)), some (.dat 1 (a.map di))]
  | [a, b], S => [some (.mix [.sl 2 0 a.length 1, .sl 3 0 b.length 1]), some (.dat 1 (S.map di)), some (.dat 1 (a.map di)), some (.dat 1 (b.map di))]
  | [a, b, c], S => [some (.mix [.sl 2 0 a.length 1, .sl 3 0 b.length 1, .sl 4 0 c.length 1]), some (.dat 1 (S.map di)), some (.dat 1 (a.map di)), some (.dat 1 (b.map di)), some (.dat 1 (c.map di))]
  | [a, b, c, e], S => [some (.mix [.sl 2 0 a.length 1, .sl 3 0 b.length 1, .sl 4 0 c.length 1, .sl 5 0 e.length 1]), some (.dat 1 (S.map di)), some (.dat 1 (a.map di)), some (.dat 1 (b.map di)), some (.dat 1 (c.map di)), some (.dat 1 (e.map di))]
  | _, _ => []
theorem d_impl_SplitSlip (l t : List Int) (i : Int) (hl : l.length < 1048577) (ht : t.length < 1048577) : Den PA f_impl_SplitSlip [.d (.agg [ints l]), .d (ints t), .d (di i)] [.any, .any, .any] (lstM (seE l t i) (slM t i.toNat)) := by
  have hsc := d_impl_slipCode l hl [t] (by simp) (fun j hj => by simp at hj; subst hj; exact ht)
  refine den_go [] l_impl_SplitSlip ?_
  repeat' (first | simp -implicitDefEqProofs (maxSteps := 1000000) (disch := (first | omega | (simp only [go_sem] <;> omega) | fail)) only [go_sem, ints, bools, mat, c_impl_SplitSlip] | ((first | apply goIf_b | apply goG_b | apply goTG_b | apply goOG_b) <;> intro h <;> ((try simp only [hnq] at h); (try simp only [h]); (try simp only [hnr] at h)) <;> (try (exfalso; omega))))
  first | refine goC_call [.r, .r] (hsc) ?_ | refine goOC_call [.r, .r] (hsc) ?_
  by_cases h : scM l [t] = 0
  · obtain ⟨hs, hst⟩ := sc_ok h
    obtain ⟨htl, hti⟩ := (isSlipM_ok l t).1 hst
    have hn := isSpaceM_n hs
    rw [h]
    repeat' (first | simp -implicitDefEqProofs (maxSteps := 1000000) (disch := (first | omega | (simp only [go_sem] <;> omega) | fail)) only [go_sem, ints, bools, mat] | ((first | apply goIf_b | apply goG_b | apply goTG_b | apply goOG_b) <;> intro h <;> ((try simp only [hnq] at h); (try simp only [h]); (try simp only [hnr] at h)) <;> (try (exfalso; omega))))
    first | refine goC_call [.r, .r] (d_impl_isPlace7 l i hl) ?_ | refine goOC_call [.r, .r] (d_impl_isPlace7 l i hl) ?_
    by_cases hi : 0 ≤ i ∧ i < l.length
    · have e : seE l t i = 0 := by unfold seE; rw [if_pos h, if_pos hi]
      rw [lstM_ok _ e, decide_eq_true hi]
      have hq := isSpaceM_q hs i.toNat (by omega)
      have hm := hti i.toNat (by omega)
      have hmore := slN_more (t := t) (i := i.toNat) (q := (l.getD i.toNat 0).toNat) (by omega) hm.2 (4 - (l.getD i.toNat 0).toNat)
      rw [show (l.getD i.toNat 0).toNat + (4 - (l.getD i.toNat 0).toNat) = 4 by omega] at hmore
      have hmore : slM t i.toNat = slN t i.toNat (l.getD i.toNat 0).toNat := hmore
      repeat' (first | simp -implicitDefEqProofs (maxSteps := 1000000) (disch := (first | omega | (simp only [go_sem] <;> omega) | fail)) only [go_sem, ints, bools, mat] | ((first | apply goIf_b | apply goG_b | apply goTG_b | apply goOG_b) <;> intro h <;> ((try simp only [hnq] at h); (try simp only [h]); (try simp only [hnr] at h)) <;> (try (exfalso; omega))))
      refine go_loop (fun (d : Nat) => ⟨[(1, .d (ints t)), (2, .d (di i)), (9, .sl 0 0 (slN t i.toNat d).length 1), (28, .d (di (l.getD i.toNat 0))), (29, .d (di d))], stS (slN t i.toNat d)⟩) (fun d => d ≤ (l.getD i.toNat 0).toNat) (fun d => (l.getD i.toNat 0).toNat - d) 0 ?_ ?_ ?_
      · simp -implicitDefEqProofs (maxSteps := 1000000) (disch := (first | omega | (simp only [go_sem] <;> omega) | fail)) only [go_sem, ints, bools, mat, slN, stS]
        all_goals rfl
      · exact Nat.zero_le _
      · intro d hd J hJ
        have hlen := slN_len t i.toNat d
        by_cases hdl : d < (l.getD i.toNat 0).toNat
        · have hst := slN_step t i.toNat d
          have hdv : 0 ≤ t.getD i.toNat 0 / 2 ^ d ∧ t.getD i.toNat 0 / 2 ^ d < 9223372036854775808 := by
            have h2 : (1 : Int) ≤ 2 ^ d := (two_pow_lt (by omega)).2
            have h4 : (2 : Int) ^ (l.getD i.toNat 0).toNat ≤ 2 ^ 4 := by
              have := Nat.pow_le_pow_right (n := 2) (by omega) (show (l.getD i.toNat 0).toNat ≤ 4 by omega)
              exact_mod_cast this
            have := div_le_self (show 0 ≤ t.getD i.toNat 0 by omega) h2
            omega
          have hcl := d_slices_Clone_Slip t ht
          by_cases hb : t.getD i.toNat 0 / 2 ^ d % 2 = 1
          · rw [if_pos hb] at hst
            have hrl : (t.set i.toNat (2 ^ d)).length = t.length := by simp
            generalize slN t i.toNat d = L at hlen hst
            rcases L with _ | ⟨a, _ | ⟨b, _ | ⟨c, _ | ⟨e, L⟩⟩⟩⟩
            · repeat' (first | simp -implicitDefEqProofs (maxSteps := 1000000) (disch := (first | omega | (simp only [go_sem] <;> omega) | fail)) only [go_sem, ints, bools, mat, stS] | ((first | apply goIf_b | apply goG_b | apply goTG_b | apply goOG_b) <;> intro h <;> ((try simp only [hnq] at h); (try simp only [h]); (try simp only [hnr] at h)) <;> (try (exfalso; omega))))
              first | refine goC_call [.r] (hcl) ?_ | refine goOC_call [.r] (hcl) ?_
              repeat' (first | simp -implicitDefEqProofs (maxSteps := 1000000) (disch := (first | omega | (simp only [go_sem] <;> omega) | fail)) only [go_sem, ints, bools, mat, flat_n] | ((first | apply goIf_b | apply goG_b | apply goTG_b | apply goOG_b) <;> intro h <;> ((try simp only [hnq] at h); (try simp only [h]); (try simp only [hnr] at h)) <;> (try (exfalso; omega))))
              refine hJ (d + 1) (by omega) (by omega) _ ?_
              rw [hst]
              simp -implicitDefEqProofs (maxSteps := 1000000) (disch := (first | omega | (simp only [go_sem] <;> omega) | fail)) only [go_sem, ints, bools, mat, stS]
              all_goals rfl
            · repeat' (first | simp -implicitDefEqProofs (maxSteps := 1000000) (disch := (first | omega | (simp only [go_sem] <;> omega) | fail)) only [go_sem, ints, bools, mat, stS] | ((first | apply goIf_b | apply goG_b | apply goTG_b | apply goOG_b) <;> intro h <;> ((try simp only [hnq] at h); (try simp only [h]); (try simp only [hnr] at h)) <;> (try (exfalso; omega))))
              first | refine goC_call [.r] (hcl) ?_ | refine goOC_call [.r] (hcl) ?_
              repeat' (first | simp -implicitDefEqProofs (maxSteps := 1000000) (disch := (first | omega | (simp only [go_sem] <;> omega) | fail)) only [go_sem, ints, bools, mat, flat_n] | ((first | apply goIf_b | apply goG_b | apply goTG_b | apply goOG_b) <;> intro h <;> ((try simp only [hnq] at h); (try simp only [h]); (try simp only [hnr] at h)) <;> (try (exfalso; omega))))
              refine hJ (d + 1) (by omega) (by omega) _ ?_
              rw [hst]
              simp -implicitDefEqProofs (maxSteps := 1000000) (disch := (first | omega | (simp only [go_sem] <;> omega) | fail)) only [go_sem, ints, bools, mat, stS]
              all_goals rfl
            · repeat' (first | simp -implicitDefEqProofs (maxSteps := 1000000) (disch := (first | omega | (simp only [go_sem] <;> omega) | fail)) only [go_sem, ints, bools, mat, stS] | ((first | apply goIf_b | apply goG_b | apply goTG_b | apply goOG_b) <;> intro h <;> ((try simp only [hnq] at h); (try simp only [h]); (try simp only [hnr] at h)) <;> (try (exfalso; omega))))
              first | refine goC_call [.r] (hcl) ?_ | refine goOC_call [.r] (hcl) ?_
              repeat' (first | simp -implicitDefEqProofs (maxSteps := 1000000) (disch := (first | omega | (simp only [go_sem] <;> omega) | fail)) only [go_sem, ints, bools, mat, flat_n] | ((first | apply goIf_b | apply goG_b | apply goTG_b | apply goOG_b) <;> intro h <;> ((try simp only [hnq] at h); (try simp only [h]); (try simp only [hnr] at h)) <;> (try (exfalso; omega))))
              refine hJ (d + 1) (by omega) (by omega) _ ?_
              rw [hst]
              simp -implicitDefEqProofs (maxSteps := 1000000) (disch := (first | omega | (simp only [go_sem] <;> omega) | fail)) only [go_sem, ints, bools, mat, stS]
              all_goals rfl
            · repeat' (first | simp -implicitDefEqProofs (maxSteps := 1000000) (disch := (first | omega | (simp only [go_sem] <;> omega) | fail)) only [go_sem, ints, bools, mat, stS] | ((first | apply goIf_b | apply goG_b | apply goTG_b | apply goOG_b) <;> intro h <;> ((try simp only [hnq] at h); (try simp only [h]); (try simp only [hnr] at h)) <;> (try (exfalso; omega))))
              first | refine goC_call [.r] (hcl) ?_ | refine goOC_call [.r] (hcl) ?_
              repeat' (first | simp -implicitDefEqProofs (maxSteps := 1000000) (disch := (first | omega | (simp only [go_sem] <;> omega) | fail)) only [go_sem, ints, bools, mat, flat_n] | ((first | apply goIf_b | apply goG_b | apply goTG_b | apply goOG_b) <;> intro h <;> ((try simp only [hnq] at h); (try simp only [h]); (try simp only [hnr] at h)) <;> (try (exfalso; omega))))
              refine hJ (d + 1) (by omega) (by omega) _ ?_
              rw [hst]
              simp -implicitDefEqProofs (maxSteps := 1000000) (disch := (first | omega | (simp only [go_sem] <;> omega) | fail)) only [go_sem, ints, bools, mat, stS]
              all_goals rfl
            · simp at hlen; omega
          · rw [if_neg hb, List.append_nil] at hst
            generalize slN t i.toNat d = L at hlen hst
            rcases L with _ | ⟨a, _ | ⟨b, _ | ⟨c, _ | ⟨e, L⟩⟩⟩⟩
            · repeat' (first | simp -implicitDefEqProofs (maxSteps := 1000000) (disch := (first | omega | (simp only [go_sem] <;> omega) | fail)) only [go_sem, ints, bools, mat, stS] | ((first | apply goIf_b | apply goG_b | apply goTG_b | apply goOG_b) <;> intro h <;> ((try simp only [hnq] at h); (try simp only [h]); (try simp only [hnr] at h)) <;> (try (exfalso; omega))))
              refine hJ (d + 1) (by omega) (by omega) _ ?_
              rw [hst]
              simp -implicitDefEqProofs (maxSteps := 1000000) (disch := (first | omega | (simp only [go_sem] <;> omega) | fail)) only [go_sem, ints, bools, mat, stS]
              all_goals rfl
            · repeat' (first | simp -implicitDefEqProofs (maxSteps := 1000000) (disch := (first | omega | (simp only [go_sem] <;> omega) | fail)) only [go_sem, ints, bools, mat, stS] | ((first | apply goIf_b | apply goG_b | apply goTG_b | apply goOG_b) <;> intro h <;> ((try simp only [hnq] at h); (try simp only [h]); (try simp only [hnr] at h)) <;> (try (exfalso; omega))))
              refine hJ (d + 1) (by omega) (by omega) _ ?_
              rw [hst]
              simp -implicitDefEqProofs (maxSteps := 1000000) (disch := (first | omega | (simp only [go_sem] <;> omega) | fail)) only [go_sem, ints, bools, mat, stS]
              all_goals rfl
            · repeat' (first | simp -implicitDefEqProofs (maxSteps := 1000000) (disch := (first | omega | (simp only [go_sem] <;> omega) | fail)) only [go_sem, ints, bools, mat, stS] | ((first | apply goIf_b | apply goG_b | apply goTG_b | apply goOG_b) <;> intro h <;> ((try simp only [hnq] at h); (try simp only [h]); (try simp only [hnr] at h)) <;> (try (exfalso; omega))))
              refine hJ (d + 1) (by omega) (by omega) _ ?_
              rw [hst]
              simp -implicitDefEqProofs (maxSteps := 1000000) (disch := (first | omega | (simp only [go_sem] <;> omega) | fail)) only [go_sem, ints, bools, mat, stS]
              all_goals rfl
            · repeat' (first | simp -implicitDefEqProofs (maxSteps := 1000000) (disch := (first | omega | (simp only [go_sem] <;> omega) | fail)) only [go_sem, ints, bools, mat, stS] | ((first | apply goIf_b | apply goG_b | apply goTG_b | apply goOG_b) <;> intro h <;> ((try simp only [hnq] at h); (try simp only [h]); (try simp only [hnr] at h)) <;> (try (exfalso; omega))))
              refine hJ (d + 1) (by omega) (by omega) _ ?_
              rw [hst]
              simp -implicitDefEqProofs (maxSteps := 1000000) (disch := (first | omega | (simp only [go_sem] <;> omega) | fail)) only [go_sem, ints, bools, mat, stS]
              all_goals rfl
            · simp at hlen; omega
        · have hde : d = (l.getD i.toNat 0).toNat := by omega
          have hne : slM t i.toNat ≠ [] := slM_ne hm.1 (by
            have h4 : (2 : Int) ^ (l.getD i.toNat 0).toNat ≤ 2 ^ 4 := by
              have := Nat.pow_le_pow_right (n := 2) (by omega) (show (l.getD i.toNat 0).toNat ≤ 4 by omega)
              exact_mod_cast this
            omega)
          have hl4 : (slM t i.toNat).length ≤ 4 := slN_len t i.toNat 4
          subst hde
          rw [← hmore]
          generalize slM t i.toNat = L at hl4 hne ⊢
          rcases L with _ | ⟨a, _ | ⟨b, _ | ⟨c, _ | ⟨e, _ | ⟨f, L⟩⟩⟩⟩⟩
          · exact (hne rfl).elim
          · repeat' (first | simp -implicitDefEqProofs (maxSteps := 1000000) (disch := (first | omega | (simp only [go_sem] <;> omega) | fail)) only [go_sem, ints, bools, mat, stS] | ((first | apply goIf_b | apply goG_b | apply goTG_b | apply goOG_b) <;> intro h <;> ((try simp only [hnq] at h); (try simp only [h]); (try simp only [hnr] at h)) <;> (try (exfalso; omega))))
          · repeat' (first | simp -implicitDefEqProofs (maxSteps := 1000000) (disch := (first | omega | (simp only [go_sem] <;> omega) | fail)) only [go_sem, ints, bools, mat, stS] | ((first | apply goIf_b | apply goG_b | apply goTG_b | apply goOG_b) <;> intro h <;> ((try simp only [hnq] at h); (try simp only [h]); (try simp only [hnr] at h)) <;> (try (exfalso; omega))))
          · repeat' (first | simp -implicitDefEqProofs (maxSteps := 1000000) (disch := (first | omega | (simp only [go_sem] <;> omega) | fail)) only [go_sem, ints, bools, mat, stS] | ((first | apply goIf_b | apply goG_b | apply goTG_b | apply goOG_b) <;> intro h <;> ((try simp only [hnq] at h); (try simp only [h]); (try simp only [hnr] at h)) <;> (try (exfalso; omega))))
          · repeat' (first | simp -implicitDefEqProofs (maxSteps := 1000000) (disch := (first | omega | (simp only [go_sem] <;> omega) | fail)) only [go_sem, ints, bools, mat, stS] | ((first | apply goIf_b | apply goG_b | apply goTG_b | apply goOG_b) <;> intro h <;> ((try simp only [hnq] at h); (try simp only [h]); (try simp only [hnr] at h)) <;> (try (exfalso; omega))))
          · simp at hl4
    · have e : seE l t i = 2 := by unfold seE; rw [if_pos h, if_neg hi]
      rw [lstM_no _ (by rw [e]; decide), e, decide_eq_false hi]
      repeat' (first | simp -implicitDefEqProofs (maxSteps := 1000000) (disch := (first | omega | (simp only [go_sem] <;> omega) | fail)) only [go_sem, ints, bools, mat] | ((first | apply goIf_b | apply goG_b | apply goTG_b | apply goOG_b) <;> intro h <;> ((try simp only [hnq] at h); (try simp only [h]); (try simp only [hnr] at h)) <;> (try (exfalso; omega))))
  · have e : seE l t i = scM l [t] := by unfold seE; rw [if_neg h]
    rw [lstM_no _ (by rw [e]; exact h), e]
    generalize scM l [t] = b at h
    repeat' (first | simp -implicitDefEqProofs (maxSteps := 1000000) (disch := (first | omega | (simp only [go_sem] <;> omega) | fail)) only [go_sem, ints, bools, mat] | ((first | apply goIf_b | apply goG_b | apply goTG_b | apply goOG_b) <;> intro h <;> ((try simp only [hnq] at h); (try simp only [h]); (try simp only [hnr] at h)) <;> (try (exfalso; omega))))
theorem d_spec_SplitSlip (l t : List Int) (i : Int) (hl : l.length < 1048577) (ht : t.length < 1048577) : Den PA f_spec_SplitSlip [.d (.agg [ints l]), .d (ints t), .d (di i)] [.any, .any, .any] (lstM (seE l t i) (slM t i.toNat)) := by
  have hsc := d_spec_l07Code l hl [t] (by simp) (fun j hj => by simp at hj; subst hj; exact ht)
  refine den_go [] l_spec_SplitSlip ?_
  repeat' (first | simp -implicitDefEqProofs (maxSteps := 1000000) (disch := (first | omega | (simp only [go_sem] <;> omega) | fail)) only [go_sem, ints, bools, mat, c_spec_SplitSlip] | ((first | apply goIf_b | apply goG_b | apply goTG_b | apply goOG_b) <;> intro h <;> ((try simp only [hnq] at h); (try simp only [h]); (try simp only [hnr] at h)) <;> (try (exfalso; omega))))
  first | refine goC_call [.r, .r] (hsc) ?_ | refine goOC_call [.r, .r] (hsc) ?_
  by_cases h : scM l [t] = 0
  · obtain ⟨hs, hst⟩ := sc_ok h
    obtain ⟨htl, hti⟩ := (isSlipM_ok l t).1 hst
    have hn := isSpaceM_n hs
    rw [h]
    repeat' (first | simp -implicitDefEqProofs (maxSteps := 1000000) (disch := (first | omega | (simp only [go_sem] <;> omega) | fail)) only [go_sem, ints, bools, mat] | ((first | apply goIf_b | apply goG_b | apply goTG_b | apply goOG_b) <;> intro h <;> ((try simp only [hnq] at h); (try simp only [h]); (try simp only [hnr] at h)) <;> (try (exfalso; omega))))
    first | refine goC_call [.r, .r, .r] (d_spec_l01In i 0 (t.length - 1)) ?_ | refine goOC_call [.r, .r, .r] (d_spec_l01In i 0 (t.length - 1)) ?_
    by_cases hi : 0 ≤ i ∧ i < l.length
    · have e : seE l t i = 0 := by unfold seE; rw [if_pos h, if_pos hi]
      rw [lstM_ok _ e]
      have hq := isSpaceM_q hs i.toNat (by omega)
      have hm := hti i.toNat (by omega)
      have h16 : t.getD i.toNat 0 < 16 := by
        have h4 : (2 : Int) ^ (l.getD i.toNat 0).toNat ≤ 2 ^ 4 := by
          have := Nat.pow_le_pow_right (n := 2) (by omega) (show (l.getD i.toNat 0).toNat ≤ 4 by omega)
          exact_mod_cast this
        omega
      have hsg := d_spec_l07Signs (t.getD i.toNat 0) (by omega) (by omega)
      have hne : slM t i.toNat ≠ [] := slM_ne hm.1 h16
      have hl4 : (signsM (t.getD i.toNat 0)).length ≤ 4 := signsN_len (t.getD i.toNat 0) 4
      have hsl : ∀ d, d ∈ signsM (t.getD i.toNat 0) → 0 ≤ d ∧ d < 4 := fun d hd => by
        obtain ⟨k, hk, rfl⟩ := List.mem_map.1 hd
        have := List.mem_range.1 (List.mem_filter.1 hk).1
        omega
      have hrow : slM t i.toNat = (signsM (t.getD i.toNat 0)).map fun d => t.set i.toNat (2 ^ d.toNat) := rfl
      rw [hrow]
      rw [hrow] at hne
      generalize signsM (t.getD i.toNat 0) = S at hsg hne hl4 hsl
      repeat' (first | simp -implicitDefEqProofs (maxSteps := 1000000) (disch := (first | omega | (simp only [go_sem] <;> omega) | fail)) only [go_sem, ints, bools, mat] | ((first | apply goIf_b | apply goG_b | apply goTG_b | apply goOG_b) <;> intro h <;> ((try simp only [hnq] at h); (try simp only [h]); (try simp only [hnr] at h)) <;> (try (exfalso; omega))))
      first | refine goC_call [.r] (hsg) ?_ | refine goOC_call [.r] (hsg) ?_
      repeat' (first | simp -implicitDefEqProofs (maxSteps := 1000000) (disch := (first | omega | (simp only [go_sem] <;> omega) | fail)) only [go_sem, ints, bools, mat] | ((first | apply goIf_b | apply goG_b | apply goTG_b | apply goOG_b) <;> intro h <;> ((try simp only [hnq] at h); (try simp only [h]); (try simp only [hnr] at h)) <;> (try (exfalso; omega))))
      refine go_loop (fun (k : Nat) => ⟨[(1, .d (ints t)), (2, .d (di i)), (9, .sl 0 0 (slF t i.toNat (S.take k)).length 1), (10, .sl 1 0 S.length 1), (37, .d (di S.length)), (38, .d (di k))], stP (slF t i.toNat (S.take k)) S⟩) (fun k => k ≤ S.length) (fun k => S.length - k) 0 ?_ ?_ ?_
      · simp -implicitDefEqProofs (maxSteps := 1000000) (disch := (first | omega | (simp only [go_sem] <;> omega) | fail)) only [go_sem, ints, bools, mat, slF, stP]
        all_goals rfl
      · exact Nat.zero_le _
      · intro k hk J hJ
        by_cases hkl : k < S.length
        · have hst : slF t i.toNat (S.take (k + 1)) = slF t i.toNat (S.take k) ++ [t.set i.toNat (2 ^ (S.getD k 0).toNat)] := by
            rw [take_one S hkl]; simp [slF]
          have hlen : (slF t i.toNat (S.take k)).length = k := by simp [slF]; omega
          have hk3 := hsl _ (mem_getD hkl)
          have hk4 : k < 4 := by omega
          generalize hsk : S.getD k 0 = s at hst hk3
          generalize slF t i.toNat (S.take k) = L at hlen hst
          rcases L with _ | ⟨a, _ | ⟨b, _ | ⟨c, _ | ⟨e, L⟩⟩⟩⟩
          · repeat' (first | simp -implicitDefEqProofs (maxSteps := 1000000) (disch := (first | omega | (simp only [go_sem] <;> omega) | fail)) only [go_sem, ints, bools, mat, stP, hsk, flat_n] | ((first | apply goIf_b | apply goG_b | apply goTG_b | apply goOG_b) <;> intro h <;> ((try simp only [hnq] at h); (try simp only [h]); (try simp only [hnr] at h)) <;> (try (exfalso; omega))))
            refine hJ (k + 1) (by omega) (by omega) _ ?_
            rw [hst]
            simp -implicitDefEqProofs (maxSteps := 1000000) (disch := (first | omega | (simp only [go_sem] <;> omega) | fail)) only [go_sem, ints, bools, mat, stP, flat_n]
            all_goals rfl
          · repeat' (first | simp -implicitDefEqProofs (maxSteps := 1000000) (disch := (first | omega | (simp only [go_sem] <;> omega) | fail)) only [go_sem, ints, bools, mat, stP, hsk, flat_n] | ((first | apply goIf_b | apply goG_b | apply goTG_b | apply goOG_b) <;> intro h <;> ((try simp only [hnq] at h); (try simp only [h]); (try simp only [hnr] at h)) <;> (try (exfalso; omega))))
            refine hJ (k + 1) (by omega) (by omega) _ ?_
            rw [hst]
            simp -implicitDefEqProofs (maxSteps := 1000000) (disch := (first | omega | (simp only [go_sem] <;> omega) | fail)) only [go_sem, ints, bools, mat, stP, flat_n]
            all_goals rfl
          · repeat' (first | simp -implicitDefEqProofs (maxSteps := 1000000) (disch := (first | omega | (simp only [go_sem] <;> omega) | fail)) only [go_sem, ints, bools, mat, stP, hsk, flat_n] | ((first | apply goIf_b | apply goG_b | apply goTG_b | apply goOG_b) <;> intro h <;> ((try simp only [hnq] at h); (try simp only [h]); (try simp only [hnr] at h)) <;> (try (exfalso; omega))))
            refine hJ (k + 1) (by omega) (by omega) _ ?_
            rw [hst]
            simp -implicitDefEqProofs (maxSteps := 1000000) (disch := (first | omega | (simp only [go_sem] <;> omega) | fail)) only [go_sem, ints, bools, mat, stP, flat_n]
            all_goals rfl
          · repeat' (first | simp -implicitDefEqProofs (maxSteps := 1000000) (disch := (first | omega | (simp only [go_sem] <;> omega) | fail)) only [go_sem, ints, bools, mat, stP, hsk, flat_n] | ((first | apply goIf_b | apply goG_b | apply goTG_b | apply goOG_b) <;> intro h <;> ((try simp only [hnq] at h); (try simp only [h]); (try simp only [hnr] at h)) <;> (try (exfalso; omega))))
            refine hJ (k + 1) (by omega) (by omega) _ ?_
            rw [hst]
            simp -implicitDefEqProofs (maxSteps := 1000000) (disch := (first | omega | (simp only [go_sem] <;> omega) | fail)) only [go_sem, ints, bools, mat, stP, flat_n]
            all_goals rfl
          · simp at hlen; omega
        · have hke : k = S.length := by omega
          subst hke
          rw [List.take_length]
          have hlen : (slF t i.toNat S).length ≤ 4 := by simp [slF]; exact hl4
          have hne' : slF t i.toNat S ≠ [] := hne
          show go _ _ _ _ (postF _ _ _ _ _ (.tup [.ownm (rowsR (slF t i.toNat S)), _]))
          generalize slF t i.toNat S = L at hlen hne' ⊢
          rcases L with _ | ⟨a, _ | ⟨b, _ | ⟨c, _ | ⟨e, _ | ⟨f, L⟩⟩⟩⟩⟩
          · exact (hne' rfl).elim
          · repeat' (first | simp -implicitDefEqProofs (maxSteps := 1000000) (disch := (first | omega | (simp only [go_sem] <;> omega) | fail)) only [go_sem, ints, bools, mat, stP] | ((first | apply goIf_b | apply goG_b | apply goTG_b | apply goOG_b) <;> intro h <;> ((try simp only [hnq] at h); (try simp only [h]); (try simp only [hnr] at h)) <;> (try (exfalso; omega))))
          · repeat' (first | simp -implicitDefEqProofs (maxSteps := 1000000) (disch := (first | omega | (simp only [go_sem] <;> omega) | fail)) only [go_sem, ints, bools, mat, stP] | ((first | apply goIf_b | apply goG_b | apply goTG_b | apply goOG_b) <;> intro h <;> ((try simp only [hnq] at h); (try simp only [h]); (try simp only [hnr] at h)) <;> (try (exfalso; omega))))
          · repeat' (first | simp -implicitDefEqProofs (maxSteps := 1000000) (disch := (first | omega | (simp only [go_sem] <;> omega) | fail)) only [go_sem, ints, bools, mat, stP] | ((first | apply goIf_b | apply goG_b | apply goTG_b | apply goOG_b) <;> intro h <;> ((try simp only [hnq] at h); (try simp only [h]); (try simp only [hnr] at h)) <;> (try (exfalso; omega))))
          · repeat' (first | simp -implicitDefEqProofs (maxSteps := 1000000) (disch := (first | omega | (simp only [go_sem] <;> omega) | fail)) only [go_sem, ints, bools, mat, stP] | ((first | apply goIf_b | apply goG_b | apply goTG_b | apply goOG_b) <;> intro h <;> ((try simp only [hnq] at h); (try simp only [h]); (try simp only [hnr] at h)) <;> (try (exfalso; omega))))
          · simp at hlen
    · have e : seE l t i = 2 := by unfold seE; rw [if_pos h, if_neg hi]
      rw [lstM_no _ (by rw [e]; decide), e]
      repeat' (first | simp -implicitDefEqProofs (maxSteps := 1000000) (disch := (first | omega | (simp only [go_sem] <;> omega) | fail)) only [go_sem, ints, bools, mat] | ((first | apply goIf_b | apply goG_b | apply goTG_b | apply goOG_b) <;> intro h <;> ((try simp only [hnq] at h); (try simp only [h]); (try simp only [hnr] at h)) <;> (try (exfalso; omega))))
  · have e : seE l t i = scM l [t] := by unfold seE; rw [if_neg h]
    rw [lstM_no _ (by rw [e]; exact h), e]
    generalize scM l [t] = b at h
    repeat' (first | simp -implicitDefEqProofs (maxSteps := 1000000) (disch := (first | omega | (simp only [go_sem] <;> omega) | fail)) only [go_sem, ints, bools, mat] | ((first | apply goIf_b | apply goG_b | apply goTG_b | apply goOG_b) <;> intro h <;> ((try simp only [hnq] at h); (try simp only [h]); (try simp only [hnr] at h)) <;> (try (exfalso; omega))))
theorem sh_end {P : Prop} (h : P := by (repeat' (first | simp -implicitDefEqProofs (maxSteps := 1000000) (disch := (first | omega | (simp only [go_sem] <;> omega) | fail)) only [go_sem, ints, bools, mat] | ((first | apply goIf_b | apply goG_b | apply goTG_b | apply goOG_b) <;> intro h <;> ((try simp only [hnq] at h); (try simp only [h]); (try simp only [hnr] at h)) <;> (try (exfalso; omega))) | ((first | refine goC_k y1 ?_ | refine goOC_k y1 ?_); simp -implicitDefEqProofs (maxSteps := 1000000) (disch := (first | omega | (simp only [go_sem] <;> omega) | fail)) only [go_sem, ints, bools, mat]; fail_if_success (with_reducible show chk _ _)) | ((first | refine goC_k y2 ?_ | refine goOC_k y2 ?_); simp -implicitDefEqProofs (maxSteps := 1000000) (disch := (first | omega | (simp only [go_sem] <;> omega) | fail)) only [go_sem, ints, bools, mat]; fail_if_success (with_reducible show chk _ _)) | ((first | refine goC_k y3 ?_ | refine goOC_k y3 ?_); simp -implicitDefEqProofs (maxSteps := 1000000) (disch := (first | omega | (simp only [go_sem] <;> omega) | fail)) only [go_sem, ints, bools, mat]; fail_if_success (with_reducible show chk _ _)) | ((first | refine goC_k y4 ?_ | refine goOC_k y4 ?_); simp -implicitDefEqProofs (maxSteps := 1000000) (disch := (first | omega | (simp only [go_sem] <;> omega) | fail)) only [go_sem, ints, bools, mat]; fail_if_success (with_reducible show chk _ _)) | ((first | refine goC_k y5 ?_ | refine goOC_k y5 ?_); simp -implicitDefEqProofs (maxSteps := 1000000) (disch := (first | omega | (simp only [go_sem] <;> omega) | fail)) only [go_sem, ints, bools, mat]; fail_if_success (with_reducible show chk _ _)) | ((first | refine goC_k y6 ?_ | refine goOC_k y6 ?_); simp -implicitDefEqProofs (maxSteps := 1000000) (disch := (first | omega | (simp only [go_sem] <;> omega) | fail)) only [go_sem, ints, bools, mat]; fail_if_success (with_reducible show chk _ _)) | ((first | refine goC_k y7 ?_ | refine goOC_k y7 ?_); simp -implicitDefEqProofs (maxSteps := 1000000) (disch := (first | omega | (simp only [go_sem] <;> omega) | fail)) only [go_sem, ints, bools, mat]; fail_if_success (with_reducible show chk _ _)) | ((first | refine goC_k y8 ?_ | refine goOC_k y8 ?_); simp -implicitDefEqProofs (maxSteps := 1000000) (disch := (first | omega | (simp only [go_sem] <;> omega) | fail)) only [go_sem, ints, bools, mat]; fail_if_success (with_reducible show chk _ _)) | ((first | refine goC_k y9 ?_ | refine goOC_k y9 ?_); simp -implicitDefEqProofs (maxSteps := 1000000) (disch := (first | omega | (simp only [go_sem] <;> omega) | fail)) only [go_sem, ints, bools, mat]; fail_if_success (with_reducible show chk _ _)) | ((first | refine goC_k y10 ?_ | refine goOC_k y10 ?_); simp -implicitDefEqProofs (maxSteps := 1000000) (disch := (first | omega | (simp only [go_sem] <;> omega) | fail)) only [go_sem, ints, bools, mat]; fail_if_success (with_reducible show chk _ _)) | ((first | refine goC_k y11 ?_ | refine goOC_k y11 ?_); simp -implicitDefEqProofs (maxSteps := 1000000) (disch := (first | omega | (simp only [go_sem] <;> omega) | fail)) only [go_sem, ints, bools, mat]; fail_if_success (with_reducible show chk _ _)) | ((first | refine goC_k y12 ?_ | refine goOC_k y12 ?_); simp -implicitDefEqProofs (maxSteps := 1000000) (disch := (first | omega | (simp only [go_sem] <;> omega) | fail)) only [go_sem, ints, bools, mat]; fail_if_success (with_reducible show chk _ _)) | ((first | refine goC_k y13 ?_ | refine goOC_k y13 ?_); simp -implicitDefEqProofs (maxSteps := 1000000) (disch := (first | omega | (simp only [go_sem] <;> omega) | fail)) only [go_sem, ints, bools, mat]; fail_if_success (with_reducible show chk _ _)) | ((first | refine goC_k y14 ?_ | refine goOC_k y14 ?_); simp -implicitDefEqProofs (maxSteps := 1000000) (disch := (first | omega | (simp only [go_sem] <;> omega) | fail)) only [go_sem, ints, bools, mat]; fail_if_success (with_reducible show chk _ _)) | ((first | refine goC_k y15 ?_ | refine goOC_k y15 ?_); simp -implicitDefEqProofs (maxSteps := 1000000) (disch := (first | omega | (simp only [go_sem] <;> omega) | fail)) only [go_sem, ints, bools, mat]; fail_if_success (with_reducible show chk _ _)) | ((first | refine goC_k y16 ?_ | refine goOC_k y16 ?_); simp -implicitDefEqProofs (maxSteps := 1000000) (disch := (first | omega | (simp only [go_sem] <;> omega) | fail)) only [go_sem, ints, bools, mat]; fail_if_success (with_reducible show chk _ _)) | ((first | refine goC_k y17 ?_ | refine goOC_k y17 ?_); simp -implicitDefEqProofs (maxSteps := 1000000) (disch := (first | omega | (simp only [go_sem] <;> omega) | fail)) only [go_sem, ints, bools, mat]; fail_if_success (with_reducible show chk _ _)) | ((first | refine goC_k y18 ?_ | refine goOC_k y18 ?_); simp -implicitDefEqProofs (maxSteps := 1000000) (disch := (first | omega | (simp only [go_sem] <;> omega) | fail)) only [go_sem, ints, bools, mat]; fail_if_success (with_reducible show chk _ _)) | ((first | refine goC_k y19 ?_ | refine goOC_k y19 ?_); simp -implicitDefEqProofs (maxSteps := 1000000) (disch := (first | omega | (simp only [go_sem] <;> omega) | fail)) only [go_sem, ints, bools, mat]; fail_if_success (with_reducible show chk _ _)) | ((first | refine goC_k y20 ?_ | refine goOC_k y20 ?_); simp -implicitDefEqProofs (maxSteps := 1000000) (disch := (first | omega | (simp only [go_sem] <;> omega) | fail)) only [go_sem, ints, bools, mat]; fail_if_success (with_reducible show chk _ _)) | ((first | refine goC_k y21 ?_ | refine goOC_k y21 ?_); simp -implicitDefEqProofs (maxSteps := 1000000) (disch := (first | omega | (simp only [go_sem] <;> omega) | fail)) only [go_sem, ints, bools, mat]; fail_if_success (with_reducible show chk _ _)) | ((first | refine goC_k y22 ?_ | refine goOC_k y22 ?_); simp -implicitDefEqProofs (maxSteps := 1000000) (disch := (first | omega | (simp only [go_sem] <;> omega) | fail)) only [go_sem, ints, bools, mat]; fail_if_success (with_reducible show chk _ _)) | ((first | refine goC_k y23 ?_ | refine goOC_k y23 ?_); simp -implicitDefEqProofs (maxSteps := 1000000) (disch := (first | omega | (simp only [go_sem] <;> omega) | fail)) only [go_sem, ints, bools, mat]; fail_if_success (with_reducible show chk _ _)) | ((first | refine goC_k y24 ?_ | refine goOC_k y24 ?_); simp -implicitDefEqProofs (maxSteps := 1000000) (disch := (first | omega | (simp only [go_sem] <;> omega) | fail)) only [go_sem, ints, bools, mat]; fail_if_success (with_reducible show chk _ _)) | ((first | refine goC_k y25 ?_ | refine goOC_k y25 ?_); simp -implicitDefEqProofs (maxSteps := 1000000) (disch := (first | omega | (simp only [go_sem] <;> omega) | fail)) only [go_sem, ints, bools, mat]; fail_if_success (with_reducible show chk _ _)) | ((first | refine goC_k y26 ?_ | refine goOC_k y26 ?_); simp -implicitDefEqProofs (maxSteps := 1000000) (disch := (first | omega | (simp only [go_sem] <;> omega) | fail)) only [go_sem, ints, bools, mat]; fail_if_success (with_reducible show chk _ _)) | ((first | refine goC_k y27 ?_ | refine goOC_k y27 ?_); simp -implicitDefEqProofs (maxSteps := 1000000) (disch := (first | omega | (simp only [go_sem] <;> omega) | fail)) only [go_sem, ints, bools, mat]; fail_if_success (with_reducible show chk _ _)) | ((first | refine goC_k y28 ?_ | refine goOC_k y28 ?_); simp -implicitDefEqProofs (maxSteps := 1000000) (disch := (first | omega | (simp only [go_sem] <;> omega) | fail)) only [go_sem, ints, bools, mat]; fail_if_success (with_reducible show chk _ _)) | ((first | refine goC_k y29 ?_ | refine goOC_k y29 ?_); simp -implicitDefEqProofs (maxSteps := 1000000) (disch := (first | omega | (simp only [go_sem] <;> omega) | fail)) only [go_sem, ints, bools, mat]; fail_if_success (with_reducible show chk _ _)) | ((first | refine goC_k y30 ?_ | refine goOC_k y30 ?_); simp -implicitDefEqProofs (maxSteps := 1000000) (disch := (first | omega | (simp only [go_sem] <;> omega) | fail)) only [go_sem, ints, bools, mat]; fail_if_success (with_reducible show chk _ _)))); all_goals (first | exact absurd (decide_eq_true F2.np).symm (by assumption) | (rw [hw1, beq_self_eq_true]) | exact absurd (by assumption) h2)) : P := h
theorem d_nil_eqSlipS : Den PA f_laws_eqSlipS [.d nil, .d nil] [.any, .any] (.d (db true)) := by
  refine den_go [0] l_laws_eqSlipS ?_
  repeat' (first | simp -implicitDefEqProofs (maxSteps := 1000000) (disch := (first | omega | (simp only [go_sem] <;> omega) | fail)) only [go_sem, ints, bools, mat, c_laws_eqSlipS] | ((first | apply goIf_b | apply goG_b | apply goTG_b | apply goOG_b) <;> intro h <;> ((try simp only [hnq] at h); (try simp only [h]); (try simp only [hnr] at h)) <;> (try (exfalso; omega))))
  refine go_loop (fun (_ : Unit) => ⟨[(0, .d nil), (1, .d nil), (5, .d (di 0)), (27, .d nil)], []⟩) (fun _ => True) (fun _ => 0) () ?_ trivial ?_
  · (simp -implicitDefEqProofs (maxSteps := 1000000) (disch := (first | omega | (simp only [go_sem] <;> omega) | fail)) only [go_sem, ints, bools, mat] <;> rfl)
  · intro _ _ J _
    repeat' (first | simp -implicitDefEqProofs (maxSteps := 1000000) (disch := (first | omega | (simp only [go_sem] <;> omega) | fail)) only [go_sem, ints, bools, mat] | ((first | apply goIf_b | apply goG_b | apply goTG_b | apply goOG_b) <;> intro h <;> ((try simp only [hnq] at h); (try simp only [h]); (try simp only [hnr] at h)) <;> (try (exfalso; omega))))
theorem d_nil_markSlipS (k : Int) : Den PA f_laws_markSlipS [.d nil, .d (di k)] [.any, .any] (.d (di k)) := by
  refine den_go [0] l_laws_markSlipS ?_
  repeat' (first | simp -implicitDefEqProofs (maxSteps := 1000000) (disch := (first | omega | (simp only [go_sem] <;> omega) | fail)) only [go_sem, ints, bools, mat, c_laws_markSlipS] | ((first | apply goIf_b | apply goG_b | apply goTG_b | apply goOG_b) <;> intro h <;> ((try simp only [hnq] at h); (try simp only [h]); (try simp only [hnr] at h)) <;> (try (exfalso; omega))))
  refine go_loop (fun (_ : Unit) => ⟨[(0, .d nil), (1, .d (di k)), (5, .d (di 0)), (19, .d nil)], []⟩) (fun _ => True) (fun _ => 0) () ?_ trivial ?_
  · (simp -implicitDefEqProofs (maxSteps := 1000000) (disch := (first | omega | (simp only [go_sem] <;> omega) | fail)) only [go_sem, ints, bools, mat] <;> rfl)
  · intro _ _ J _
    repeat' (first | simp -implicitDefEqProofs (maxSteps := 1000000) (disch := (first | omega | (simp only [go_sem] <;> omega) | fail)) only [go_sem, ints, bools, mat] | ((first | apply goIf_b | apply goG_b | apply goTG_b | apply goOG_b) <;> intro h <;> ((try simp only [hnq] at h); (try simp only [h]); (try simp only [hnr] at h)) <;> (try (exfalso; omega))))
theorem d_nil_heldSlipS (k : Int) : Den PA f_laws_heldSlipS [.d nil, .d (di k)] [.any, .any] (.d (di k)) := by
  refine den_go [0] l_laws_heldSlipS ?_
  repeat' (first | simp -implicitDefEqProofs (maxSteps := 1000000) (disch := (first | omega | (simp only [go_sem] <;> omega) | fail)) only [go_sem, ints, bools, mat, c_laws_heldSlipS] | ((first | apply goIf_b | apply goG_b | apply goTG_b | apply goOG_b) <;> intro h <;> ((try simp only [hnq] at h); (try simp only [h]); (try simp only [hnr] at h)) <;> (try (exfalso; omega))))
  refine go_loop (fun (_ : Unit) => ⟨[(0, .d nil), (1, .d (di k)), (5, .d (di 0)), (21, .d nil)], []⟩) (fun _ => True) (fun _ => 0) () ?_ trivial ?_
  · (simp -implicitDefEqProofs (maxSteps := 1000000) (disch := (first | omega | (simp only [go_sem] <;> omega) | fail)) only [go_sem, ints, bools, mat] <;> rfl)
  · intro _ _ J _
    repeat' (first | simp -implicitDefEqProofs (maxSteps := 1000000) (disch := (first | omega | (simp only [go_sem] <;> omega) | fail)) only [go_sem, ints, bools, mat] | ((first | apply goIf_b | apply goG_b | apply goTG_b | apply goOG_b) <;> intro h <;> ((try simp only [hnq] at h); (try simp only [h]); (try simp only [hnr] at h)) <;> (try (exfalso; omega))))
theorem w_split0 (x0 : D) (l0 : List Int) (hx0 : IsInts x0 l0) (x1 : D) (l1 : List Int) (hx1 : IsInts x1 l1) (n2 : Int) (hz : Den PA f_laws_szSpace [.d (.agg [x0]), .d (di 1048576)] [.any, .any] (.d (di (1048576 - l0.length)))) (hs0 : (l0.length : Int) ≤ 1048576) (hs1 : l1.length ≤ 1048576) {e : Int} (he : e ≠ 0) (hi : Den PA f_impl_SplitSlip [.d (.agg [ints l0]), .d (ints l1), .d (di n2)] [.any, .any, .any] (.tup [.d nil, .d (di e)])) (hp : Den PA f_spec_SplitSlip [.d (.agg [ints l0]), .d (ints l1), .d (di n2)] [.any, .any, .any] (.tup [.d nil, .d (di e)])) :
    Den PA f_laws_FnExactSplitSlip [.d (.agg [x0]), .d x1, .d (di n2)] [.any, .any, .any] (.d (db true)) := by
  have ly1 := lenA_is hx1
  refine den_go [] l_laws_FnExactSplitSlip ?_
  repeat' (first | simp -implicitDefEqProofs (maxSteps := 1000000) (disch := (first | omega | (simp only [go_sem] <;> omega) | fail)) only [go_sem, ints, bools, mat, c_laws_FnExactSplitSlip, ly1] | ((first | apply goIf_b | apply goG_b | apply goTG_b | apply goOG_b) <;> intro h <;> ((try simp only [hnq] at h); (try simp only [h]); (try simp only [hnr] at h))))
  first | refine goC_call [.r, .r] (hz) ?_ | refine goOC_call [.r, .r] (hz) ?_
  repeat' (first | simp -implicitDefEqProofs (maxSteps := 1000000) (disch := (first | omega | (simp only [go_sem] <;> omega) | fail)) only [go_sem, ints, bools, mat] | ((first | apply goIf_b | apply goG_b | apply goTG_b | apply goOG_b) <;> intro h <;> ((try simp only [hnq] at h); (try simp only [h]); (try simp only [hnr] at h)) <;> (try (exfalso; omega))))
  repeat' (first | simp -implicitDefEqProofs (maxSteps := 1000000) (disch := (first | omega | (simp only [go_sem] <;> omega) | fail)) only [go_sem, ints, bools, mat] | ((first | apply goIf_b | apply goG_b | apply goTG_b | apply goOG_b) <;> intro h <;> ((try simp only [hnq] at h); (try simp only [h]); (try simp only [hnr] at h)) <;> (try (exfalso; omega))) | ((first | refine goC_call [.r] (d_laws_toSpace x0 l0 hx0 (by omega)) ?_ | refine goOC_call [.r] (d_laws_toSpace x0 l0 hx0 (by omega)) ?_); simp -implicitDefEqProofs (maxSteps := 1000000) (disch := (first | omega | (simp only [go_sem] <;> omega) | fail)) only [go_sem, ints, bools, mat]; fail_if_success (with_reducible show chk _ _)) | ((first | refine goC_call [.r, .r] (d_laws_eqSpace l0 l0 (by omega)) ?_ | refine goOC_call [.r, .r] (d_laws_eqSpace l0 l0 (by omega)) ?_); simp -implicitDefEqProofs (maxSteps := 1000000) (disch := (first | omega | (simp only [go_sem] <;> omega) | fail)) only [go_sem, ints, bools, mat]; fail_if_success (with_reducible show chk _ _)) | ((first | refine goC_call [.r] (d_laws_toSlip x1 l1 hx1 (by omega)) ?_ | refine goOC_call [.r] (d_laws_toSlip x1 l1 hx1 (by omega)) ?_); simp -implicitDefEqProofs (maxSteps := 1000000) (disch := (first | omega | (simp only [go_sem] <;> omega) | fail)) only [go_sem, ints, bools, mat]; fail_if_success (with_reducible show chk _ _)) | ((first | refine goC_call [.r, .r] (d_laws_eqSlip l1 l1 (by omega)) ?_ | refine goOC_call [.r, .r] (d_laws_eqSlip l1 l1 (by omega)) ?_); simp -implicitDefEqProofs (maxSteps := 1000000) (disch := (first | omega | (simp only [go_sem] <;> omega) | fail)) only [go_sem, ints, bools, mat]; fail_if_success (with_reducible show chk _ _)) | ((first | refine goC_call [.a [.o], .r] (d_laws_markSpace l0 1 (by omega) (by omega) (by omega)) ?_ | refine goOC_call [.a [.o], .r] (d_laws_markSpace l0 1 (by omega) (by omega) (by omega)) ?_); simp -implicitDefEqProofs (maxSteps := 1000000) (disch := (first | omega | (simp only [go_sem] <;> omega) | fail)) only [go_sem, ints, bools, mat]; fail_if_success (with_reducible show chk _ _)) | ((first | refine goC_call [.o, .r] (d_laws_markSlip l1 (1 + l0.length) (by omega) (by omega) (by omega)) ?_ | refine goOC_call [.o, .r] (d_laws_markSlip l1 (1 + l0.length) (by omega) (by omega) (by omega)) ?_); simp -implicitDefEqProofs (maxSteps := 1000000) (disch := (first | omega | (simp only [go_sem] <;> omega) | fail)) only [go_sem, ints, bools, mat]; fail_if_success (with_reducible show chk _ _)) | ((first | refine goC_call [.r, .r, .r] (hi) ?_ | refine goOC_call [.r, .r, .r] (hi) ?_); simp -implicitDefEqProofs (maxSteps := 1000000) (disch := (first | omega | (simp only [go_sem] <;> omega) | fail)) only [go_sem, ints, bools, mat]; fail_if_success (with_reducible show chk _ _)) | ((first | refine goC_call [.r, .r, .r] (hp) ?_ | refine goOC_call [.r, .r, .r] (hp) ?_); simp -implicitDefEqProofs (maxSteps := 1000000) (disch := (first | omega | (simp only [go_sem] <;> omega) | fail)) only [go_sem, ints, bools, mat]; fail_if_success (with_reducible show chk _ _)) | ((first | refine goC_call [.r, .r] (d_nil_eqSlipS) ?_ | refine goOC_call [.r, .r] (d_nil_eqSlipS) ?_); simp -implicitDefEqProofs (maxSteps := 1000000) (disch := (first | omega | (simp only [go_sem] <;> omega) | fail)) only [go_sem, ints, bools, mat]; fail_if_success (with_reducible show chk _ _)) | ((first | refine goC_call [.r, .r] (d_nil_markSlipS 1) ?_ | refine goOC_call [.r, .r] (d_nil_markSlipS 1) ?_); simp -implicitDefEqProofs (maxSteps := 1000000) (disch := (first | omega | (simp only [go_sem] <;> omega) | fail)) only [go_sem, ints, bools, mat]; fail_if_success (with_reducible show chk _ _)) | ((first | refine goC_call [.r, .r] (d_nil_heldSlipS 1) ?_ | refine goOC_call [.r, .r] (d_nil_heldSlipS 1) ?_); simp -implicitDefEqProofs (maxSteps := 1000000) (disch := (first | omega | (simp only [go_sem] <;> omega) | fail)) only [go_sem, ints, bools, mat]; fail_if_success (with_reducible show chk _ _)))
theorem w_split1 (x0 : D) (l0 : List Int) (hx0 : IsInts x0 l0) (x1 : D) (l1 : List Int) (hx1 : IsInts x1 l1) (n2 : Int) (hz : Den PA f_laws_szSpace [.d (.agg [x0]), .d (di 1048576)] [.any, .any] (.d (di (1048576 - l0.length)))) (hs0 : (l0.length : Int) ≤ 1048576) (hs1 : l1.length ≤ 1048576) (a : List Int) (ha : a.length ≤ 1048576) (hi : Den PA f_impl_SplitSlip [.d (.agg [ints l0]), .d (ints l1), .d (di n2)] [.any, .any, .any] (.tup [.ownm [.own 1 (a.map di)], .d (di 0)])) (hp0 : Den PA f_spec_SplitSlip [.d (.agg [ints l0]), .d (ints l1), .d (di n2)] [.any, .any, .any] (.tup [.ownm [.own 1 (a.map di)], .d (di 0)])) :
    Den PA f_laws_FnExactSplitSlip [.d (.agg [x0]), .d x1, .d (di n2)] [.any, .any, .any] (.d (db true)) := by
  have ly1 := lenA_is hx1
  have hp : Den PA f_spec_SplitSlip [.d (.agg [ints l0]), .d (ints l1), .d (di n2)] [.any, .any, .any] (.tup [.d (mat [a]), .d (di 0)]) := hp0.le (.tup (.cons (RLe.frzM (z := 1) (L := [a.map di])) (.cons .refl .nil)))
  refine den_go [] l_laws_FnExactSplitSlip ?_
  repeat' (first | simp -implicitDefEqProofs (maxSteps := 1000000) (disch := (first | omega | (simp only [go_sem] <;> omega) | fail)) only [go_sem, ints, bools, mat, c_laws_FnExactSplitSlip, ly1] | ((first | apply goIf_b | apply goG_b | apply goTG_b | apply goOG_b) <;> intro h <;> ((try simp only [hnq] at h); (try simp only [h]); (try simp only [hnr] at h))))
  first | refine goC_call [.r, .r] (hz) ?_ | refine goOC_call [.r, .r] (hz) ?_
  repeat' (first | simp -implicitDefEqProofs (maxSteps := 1000000) (disch := (first | omega | (simp only [go_sem] <;> omega) | fail)) only [go_sem, ints, bools, mat] | ((first | apply goIf_b | apply goG_b | apply goTG_b | apply goOG_b) <;> intro h <;> ((try simp only [hnq] at h); (try simp only [h]); (try simp only [hnr] at h)) <;> (try (exfalso; omega))))
  repeat' (first | simp -implicitDefEqProofs (maxSteps := 1000000) (disch := (first | omega | (simp only [go_sem] <;> omega) | fail)) only [go_sem, ints, bools, mat] | ((first | apply goIf_b | apply goG_b | apply goTG_b | apply goOG_b) <;> intro h <;> ((try simp only [hnq] at h); (try simp only [h]); (try simp only [hnr] at h)) <;> (try (exfalso; omega))) | ((first | refine goC_call [.r] (d_laws_toSpace x0 l0 hx0 (by omega)) ?_ | refine goOC_call [.r] (d_laws_toSpace x0 l0 hx0 (by omega)) ?_); simp -implicitDefEqProofs (maxSteps := 1000000) (disch := (first | omega | (simp only [go_sem] <;> omega) | fail)) only [go_sem, ints, bools, mat]; fail_if_success (with_reducible show chk _ _)) | ((first | refine goC_call [.r, .r] (d_laws_eqSpace l0 l0 (by omega)) ?_ | refine goOC_call [.r, .r] (d_laws_eqSpace l0 l0 (by omega)) ?_); simp -implicitDefEqProofs (maxSteps := 1000000) (disch := (first | omega | (simp only [go_sem] <;> omega) | fail)) only [go_sem, ints, bools, mat]; fail_if_success (with_reducible show chk _ _)) | ((first | refine goC_call [.r] (d_laws_toSlip x1 l1 hx1 (by omega)) ?_ | refine goOC_call [.r] (d_laws_toSlip x1 l1 hx1 (by omega)) ?_); simp -implicitDefEqProofs (maxSteps := 1000000) (disch := (first | omega | (simp only [go_sem] <;> omega) | fail)) only [go_sem, ints, bools, mat]; fail_if_success (with_reducible show chk _ _)) | ((first | refine goC_call [.r, .r] (d_laws_eqSlip l1 l1 (by omega)) ?_ | refine goOC_call [.r, .r] (d_laws_eqSlip l1 l1 (by omega)) ?_); simp -implicitDefEqProofs (maxSteps := 1000000) (disch := (first | omega | (simp only [go_sem] <;> omega) | fail)) only [go_sem, ints, bools, mat]; fail_if_success (with_reducible show chk _ _)) | ((first | refine goC_call [.a [.o], .r] (d_laws_markSpace l0 1 (by omega) (by omega) (by omega)) ?_ | refine goOC_call [.a [.o], .r] (d_laws_markSpace l0 1 (by omega) (by omega) (by omega)) ?_); simp -implicitDefEqProofs (maxSteps := 1000000) (disch := (first | omega | (simp only [go_sem] <;> omega) | fail)) only [go_sem, ints, bools, mat]; fail_if_success (with_reducible show chk _ _)) | ((first | refine goC_call [.o, .r] (d_laws_markSlip l1 (1 + l0.length) (by omega) (by omega) (by omega)) ?_ | refine goOC_call [.o, .r] (d_laws_markSlip l1 (1 + l0.length) (by omega) (by omega) (by omega)) ?_); simp -implicitDefEqProofs (maxSteps := 1000000) (disch := (first | omega | (simp only [go_sem] <;> omega) | fail)) only [go_sem, ints, bools, mat]; fail_if_success (with_reducible show chk _ _)) | ((first | refine goC_call [.r, .r, .r] (hi) ?_ | refine goOC_call [.r, .r, .r] (hi) ?_); simp -implicitDefEqProofs (maxSteps := 1000000) (disch := (first | omega | (simp only [go_sem] <;> omega) | fail)) only [go_sem, ints, bools, mat]; fail_if_success (with_reducible show chk _ _)) | ((first | refine goC_call [.f, .f, .r] (hp) ?_ | refine goOC_call [.f, .f, .r] (hp) ?_); simp -implicitDefEqProofs (maxSteps := 1000000) (disch := (first | omega | (simp only [go_sem] <;> omega) | fail)) only [go_sem, ints, bools, mat]; fail_if_success (with_reducible show chk _ _)) | ((first | refine goC_call [.o, .r] (d_laws_eqSlipS_1 a (by omega)) ?_ | refine goOC_call [.o, .r] (d_laws_eqSlipS_1 a (by omega)) ?_); simp -implicitDefEqProofs (maxSteps := 1000000) (disch := (first | omega | (simp only [go_sem] <;> omega) | fail)) only [go_sem, ints, bools, mat]; fail_if_success (with_reducible show chk _ _)) | ((first | refine goC_call [.o, .r] (d_laws_markSlipS_1 a (by omega) 1 (by omega) (by omega)) ?_ | refine goOC_call [.o, .r] (d_laws_markSlipS_1 a (by omega) 1 (by omega) (by omega)) ?_); simp -implicitDefEqProofs (maxSteps := 1000000) (disch := (first | omega | (simp only [go_sem] <;> omega) | fail)) only [go_sem, ints, bools, mat]; fail_if_success (with_reducible show chk _ _)) | ((first | refine goC_call [.o, .r] (d_laws_heldSlipS_1 a (by omega) 1 (by omega) (by omega)) ?_ | refine goOC_call [.o, .r] (d_laws_heldSlipS_1 a (by omega) 1 (by omega) (by omega)) ?_); simp -implicitDefEqProofs (maxSteps := 1000000) (disch := (first | omega | (simp only [go_sem] <;> omega) | fail)) only [go_sem, ints, bools, mat]; fail_if_success (with_reducible show chk _ _)))
theorem w_split2 (x0 : D) (l0 : List Int) (hx0 : IsInts x0 l0) (x1 : D) (l1 : List Int) (hx1 : IsInts x1 l1) (n2 : Int) (hz : Den PA f_laws_szSpace [.d (.agg [x0]), .d (di 1048576)] [.any, .any] (.d (di (1048576 - l0.length)))) (hs0 : (l0.length : Int) ≤ 1048576) (hs1 : l1.length ≤ 1048576) (a b : List Int) (ha : a.length ≤ 1048576) (hb : b.length ≤ 1048576) (hi : Den PA f_impl_SplitSlip [.d (.agg [ints l0]), .d (ints l1), .d (di n2)] [.any, .any, .any] (.tup [.ownm [.own 1 (a.map di), .own 1 (b.map di)], .d (di 0)])) (hp0 : Den PA f_spec_SplitSlip [.d (.agg [ints l0]), .d (ints l1), .d (di n2)] [.any, .any, .any] (.tup [.ownm [.own 1 (a.map di), .own 1 (b.map di)], .d (di 0)])) :
    Den PA f_laws_FnExactSplitSlip [.d (.agg [x0]), .d x1, .d (di n2)] [.any, .any, .any] (.d (db true)) := by
  have ly1 := lenA_is hx1
  have hp : Den PA f_spec_SplitSlip [.d (.agg [ints l0]), .d (ints l1), .d (di n2)] [.any, .any, .any] (.tup [.d (mat [a, b]), .d (di 0)]) := hp0.le (.tup (.cons (RLe.frzM (z := 1) (L := [a.map di, b.map di])) (.cons .refl .nil)))
  refine den_go [] l_laws_FnExactSplitSlip ?_
  repeat' (first | simp -implicitDefEqProofs (maxSteps := 1000000) (disch := (first | omega | (simp only [go_sem] <;> omega) | fail)) only [go_sem, ints, bools, mat, c_laws_FnExactSplitSlip, ly1] | ((first | apply goIf_b | apply goG_b | apply goTG_b | apply goOG_b) <;> intro h <;> ((try simp only [hnq] at h); (try simp only [h]); (try simp only [hnr] at h))))
  first | refine goC_call [.r, .r] (hz) ?_ | refine goOC_call [.r, .r] (hz) ?_
  repeat' (first | simp -implicitDefEqProofs (maxSteps := 1000000) (disch := (first | omega | (simp only [go_sem] <;> omega) | fail)) only [go_sem, ints, bools, mat] | ((first | apply goIf_b | apply goG_b | apply goTG_b | apply goOG_b) <;> intro h <;> ((try simp only [hnq] at h); (try simp only [h]); (try simp only [hnr] at h)) <;> (try (exfalso; omega))))
  repeat' (first | simp -implicitDefEqProofs (maxSteps := 1000000) (disch := (first | omega | (simp only [go_sem] <;> omega) | fail)) only [go_sem, ints, bools, mat] | ((first | apply goIf_b | apply goG_b | apply goTG_b | apply goOG_b) <;> intro h <;> ((try simp only [hnq] at h); (try simp only [h]); (try simp only [hnr] at h)) <;> (try (exfalso; omega))) | ((first | refine goC_call [.r] (d_laws_toSpace x0 l0 hx0 (by omega)) ?_ | refine goOC_call [.r] (d_laws_toSpace x0 l0 hx0 (by omega)) ?_); simp -implicitDefEqProofs (maxSteps := 1000000) (disch := (first | omega | (simp only [go_sem] <;> omega) | fail)) only [go_sem, ints, bools, mat]; fail_if_success (with_reducible show chk _ _)) | ((first | refine goC_call [.r, .r] (d_laws_eqSpace l0 l0 (by omega)) ?_ | refine goOC_call [.r, .r] (d_laws_eqSpace l0 l0 (by omega)) ?_); simp -implicitDefEqProofs (maxSteps := 1000000) (disch := (first | omega | (simp only [go_sem] <;> omega) | fail)) only [go_sem, ints, bools, mat]; fail_if_success (with_reducible show chk _ _)) | ((first | refine goC_call [.r] (d_laws_toSlip x1 l1 hx1 (by omega)) ?_ | refine goOC_call [.r] (d_laws_toSlip x1 l1 hx1 (by omega)) ?_); simp -implicitDefEqProofs (maxSteps := 1000000) (disch := (first | omega | (simp only [go_sem] <;> omega) | fail)) only [go_sem, ints, bools, mat]; fail_if_success (with_reducible show chk _ _)) | ((first | refine goC_call [.r, .r] (d_laws_eqSlip l1 l1 (by omega)) ?_ | refine goOC_call [.r, .r] (d_laws_eqSlip l1 l1 (by omega)) ?_); simp -implicitDefEqProofs (maxSteps := 1000000) (disch := (first | omega | (simp only [go_sem] <;> omega) | fail)) only [go_sem, ints, bools, mat]; fail_if_success (with_reducible show chk _ _)) | ((first | refine goC_call [.a [.o], .r] (d_laws_markSpace l0 1 (by omega) (by omega) (by omega)) ?_ | refine goOC_call [.a [.o], .r] (d_laws_markSpace l0 1 (by omega) (by omega) (by omega)) ?_); simp -implicitDefEqProofs (maxSteps := 1000000) (disch := (first | omega | (simp only [go_sem] <;> omega) | fail)) only [go_sem, ints, bools, mat]; fail_if_success (with_reducible show chk _ _)) | ((first | refine goC_call [.o, .r] (d_laws_markSlip l1 (1 + l0.length) (by omega) (by omega) (by omega)) ?_ | refine goOC_call [.o, .r] (d_laws_markSlip l1 (1 + l0.length) (by omega) (by omega) (by omega)) ?_); simp -implicitDefEqProofs (maxSteps := 1000000) (disch := (first | omega | (simp only [go_sem] <;> omega) | fail)) only [go_sem, ints, bools, mat]; fail_if_success (with_reducible show chk _ _)) | ((first | refine goC_call [.r, .r, .r] (hi) ?_ | refine goOC_call [.r, .r, .r] (hi) ?_); simp -implicitDefEqProofs (maxSteps := 1000000) (disch := (first | omega | (simp only [go_sem] <;> omega) | fail)) only [go_sem, ints, bools, mat]; fail_if_success (with_reducible show chk _ _)) | ((first | refine goC_call [.f, .f, .r] (hp) ?_ | refine goOC_call [.f, .f, .r] (hp) ?_); simp -implicitDefEqProofs (maxSteps := 1000000) (disch := (first | omega | (simp only [go_sem] <;> omega) | fail)) only [go_sem, ints, bools, mat]; fail_if_success (with_reducible show chk _ _)) | ((first | refine goC_call [.o, .r] (d_laws_eqSlipS_2 a b (by omega) (by omega)) ?_ | refine goOC_call [.o, .r] (d_laws_eqSlipS_2 a b (by omega) (by omega)) ?_); simp -implicitDefEqProofs (maxSteps := 1000000) (disch := (first | omega | (simp only [go_sem] <;> omega) | fail)) only [go_sem, ints, bools, mat]; fail_if_success (with_reducible show chk _ _)) | ((first | refine goC_call [.o, .r] (d_laws_markSlipS_2 a b (by omega) (by omega) 1 (by omega) (by omega)) ?_ | refine goOC_call [.o, .r] (d_laws_markSlipS_2 a b (by omega) (by omega) 1 (by omega) (by omega)) ?_); simp -implicitDefEqProofs (maxSteps := 1000000) (disch := (first | omega | (simp only [go_sem] <;> omega) | fail)) only [go_sem, ints, bools, mat]; fail_if_success (with_reducible show chk _ _)) | ((first | refine goC_call [.o, .r] (d_laws_heldSlipS_2 a b (by omega) (by omega) 1 (by omega) (by omega)) ?_ | refine goOC_call [.o, .r] (d_laws_heldSlipS_2 a b (by omega) (by omega) 1 (by omega) (by omega)) ?_); simp -implicitDefEqProofs (maxSteps := 1000000) (disch := (first | omega | (simp only [go_sem] <;> omega) | fail)) only [go_sem, ints, bools, mat]; fail_if_success (with_reducible show chk _ _)))
theorem w_split3 (x0 : D) (l0 : List Int) (hx0 : IsInts x0 l0) (x1 : D) (l1 : List Int) (hx1 : IsInts x1 l1) (n2 : Int) (hz : Den PA f_laws_szSpace [.d (.agg [x0]), .d (di 1048576)] [.any, .any] (.d (di (1048576 - l0.length)))) (hs0 : (l0.length : Int) ≤ 1048576) (hs1 : l1.length ≤ 1048576) (a b c : List Int) (ha : a.length ≤ 1048576) (hb : b.length ≤ 1048576) (hc : c.length ≤ 1048576) (hi : Den PA f_impl_SplitSlip [.d (.agg [ints l0]), .d (ints l1), .d (di n2)] [.any, .any, .any] (.tup [.ownm [.own 1 (a.map di), .own 1 (b.map di), .own 1 (c.map di)], .d (di 0)])) (hp0 : Den PA f_spec_SplitSlip [.d (.agg [ints l0]), .d (ints l1), .d (di n2)] [.any, .any, .any] (.tup [.ownm [.own 1 (a.map di), .own 1 (b.map di), .own 1 (c.map di)], .d (di 0)])) :
    Den PA f_laws_FnExactSplitSlip [.d (.agg [x0]), .d x1, .d (di n2)] [.any, .any, .any] (.d (db true)) := by
  have ly1 := lenA_is hx1
  have hp : Den PA f_spec_SplitSlip [.d (.agg [ints l0]), .d (ints l1), .d (di n2)] [.any, .any, .any] (.tup [.d (mat [a, b, c]), .d (di 0)]) := hp0.le (.tup (.cons (RLe.frzM (z := 1) (L := [a.map di, b.map di, c.map di])) (.cons .refl .nil)))
  refine den_go [] l_laws_FnExactSplitSlip ?_
  repeat' (first | simp -implicitDefEqProofs (maxSteps := 1000000) (disch := (first | omega | (simp only [go_sem] <;> omega) | fail)) only [go_sem, ints, bools, mat, c_laws_FnExactSplitSlip, ly1] | ((first | apply goIf_b | apply goG_b | apply goTG_b | apply goOG_b) <;> intro h <;> ((try simp only [hnq] at h); (try simp only [h]); (try simp only [hnr] at h))))
  first | refine goC_call [.r, .r] (hz) ?_ | refine goOC_call [.r, .r] (hz) ?_
  repeat' (first | simp -implicitDefEqProofs (maxSteps := 1000000) (disch := (first | omega | (simp only [go_sem] <;> omega) | fail)) only [go_sem, ints, bools, mat] | ((first | apply goIf_b | apply goG_b | apply goTG_b | apply goOG_b) <;> intro h <;> ((try simp only [hnq] at h); (try simp only [h]); (try simp only [hnr] at h)) <;> (try (exfalso; omega))))
  repeat' (first | simp -implicitDefEqProofs (maxSteps := 1000000) (disch := (first | omega | (simp only [go_sem] <;> omega) | fail)) only [go_sem, ints, bools, mat] | ((first | apply goIf_b | apply goG_b | apply goTG_b | apply goOG_b) <;> intro h <;> ((try simp only [hnq] at h); (try simp only [h]); (try simp only [hnr] at h)) <;> (try (exfalso; omega))) | ((first | refine goC_call [.r] (d_laws_toSpace x0 l0 hx0 (by omega)) ?_ | refine goOC_call [.r] (d_laws_toSpace x0 l0 hx0 (by omega)) ?_); simp -implicitDefEqProofs (maxSteps := 1000000) (disch := (first | omega | (simp only [go_sem] <;> omega) | fail)) only [go_sem, ints, bools, mat]; fail_if_success (with_reducible show chk _ _)) | ((first | refine goC_call [.r, .r] (d_laws_eqSpace l0 l0 (by omega)) ?_ | refine goOC_call [.r, .r] (d_laws_eqSpace l0 l0 (by omega)) ?_); simp -implicitDefEqProofs (maxSteps := 1000000) (disch := (first | omega | (simp only [go_sem] <;> omega) | fail)) only [go_sem, ints, bools, mat]; fail_if_success (with_reducible show chk _ _)) | ((first | refine goC_call [.r] (d_laws_toSlip x1 l1 hx1 (by omega)) ?_ | refine goOC_call [.r] (d_laws_toSlip x1 l1 hx1 (by omega)) ?_); simp -implicitDefEqProofs (maxSteps := 1000000) (disch := (first | omega | (simp only [go_sem] <;> omega) | fail)) only [go_sem, ints, bools, mat]; fail_if_success (with_reducible show chk _ _)) | ((first | refine goC_call [.r, .r] (d_laws_eqSlip l1 l1 (by omega)) ?_ | refine goOC_call [.r, .r] (d_laws_eqSlip l1 l1 (by omega)) ?_); simp -implicitDefEqProofs (maxSteps := 1000000) (disch := (first | omega | (simp only [go_sem] <;> omega) | fail)) only [go_sem, ints, bools, mat]; fail_if_success (with_reducible show chk _ _)) | ((first | refine goC_call [.a [.o], .r] (d_laws_markSpace l0 1 (by omega) (by omega) (by omega)) ?_ | refine goOC_call [.a [.o], .r] (d_laws_markSpace l0 1 (by omega) (by omega) (by omega)) ?_); simp -implicitDefEqProofs (maxSteps := 1000000) (disch := (first | omega | (simp only [go_sem] <;> omega) | fail)) only [go_sem, ints, bools, mat]; fail_if_success (with_reducible show chk _ _)) | ((first | refine goC_call [.o, .r] (d_laws_markSlip l1 (1 + l0.length) (by omega) (by omega) (by omega)) ?_ | refine goOC_call [.o, .r] (d_laws_markSlip l1 (1 + l0.length) (by omega) (by omega) (by omega)) ?_); simp -implicitDefEqProofs (maxSteps := 1000000) (disch := (first | omega | (simp only [go_sem] <;> omega) | fail)) only [go_sem, ints, bools, mat]; fail_if_success (with_reducible show chk _ _)) | ((first | refine goC_call [.r, .r, .r] (hi) ?_ | refine goOC_call [.r, .r, .r] (hi) ?_); simp -implicitDefEqProofs (maxSteps := 1000000) (disch := (first | omega | (simp only [go_sem] <;> omega) | fail)) only [go_sem, ints, bools, mat]; fail_if_success (with_reducible show chk _ _)) | ((first | refine goC_call [.f, .f, .r] (hp) ?_ | refine goOC_call [.f, .f, .r] (hp) ?_); simp -implicitDefEqProofs (maxSteps := 1000000) (disch := (first | omega | (simp only [go_sem] <;> omega) | fail)) only [go_sem, ints, bools, mat]; fail_if_success (with_reducible show chk _ _)) | ((first | refine goC_call [.o, .r] (d_laws_eqSlipS_3 a b c (by omega) (by omega) (by omega)) ?_ | refine goOC_call [.o, .r] (d_laws_eqSlipS_3 a b c (by omega) (by omega) (by omega)) ?_); simp -implicitDefEqProofs (maxSteps := 1000000) (disch := (first | omega | (simp only [go_sem] <;> omega) | fail)) only [go_sem, ints, bools, mat]; fail_if_success (with_reducible show chk _ _)) | ((first | refine goC_call [.o, .r] (d_laws_markSlipS_3 a b c (by omega) (by omega) (by omega) 1 (by omega) (by omega)) ?_ | refine goOC_call [.o, .r] (d_laws_markSlipS_3 a b c (by omega) (by omega) (by omega) 1 (by omega) (by omega)) ?_); simp -implicitDefEqProofs (maxSteps := 1000000) (disch := (first | omega | (simp only [go_sem] <;> omega) | fail)) only [go_sem, ints, bools, mat]; fail_if_success (with_reducible show chk _ _)) | ((first | refine goC_call [.o, .r] (d_laws_heldSlipS_3 a b c (by omega) (by omega) (by omega) 1 (by omega) (by omega)) ?_ | refine goOC_call [.o, .r] (d_laws_heldSlipS_3 a b c (by omega) (by omega) (by omega) 1 (by omega) (by omega)) ?_); simp -implicitDefEqProofs (maxSteps := 1000000) (disch := (first | omega | (simp only [go_sem] <;> omega) | fail)) only [go_sem, ints, bools, mat]; fail_if_success (with_reducible show chk _ _)))
theorem w_split4 (x0 : D) (l0 : List Int) (hx0 : IsInts x0 l0) (x1 : D) (l1 : List Int) (hx1 : IsInts x1 l1) (n2 : Int) (hz : Den PA f_laws_szSpace [.d (.agg [x0]), .d (di 1048576)] [.any, .any] (.d (di (1048576 - l0.length)))) (hs0 : (l0.length : Int) ≤ 1048576) (hs1 : l1.length ≤ 1048576) (a b c e : List Int) (ha : a.length ≤ 1048576) (hb : b.length ≤ 1048576) (hc : c.length ≤ 1048576) (he : e.length ≤ 1048576) (hi : Den PA f_impl_SplitSlip [.d (.agg [ints l0]), .d (ints l1), .d (di n2)] [.any, .any, .any] (.tup [.ownm [.own 1 (a.map di), .own 1 (b.map di), .own 1 (c.map di), .own 1 (e.map di)], .d (di 0)])) (hp0 : Den PA f_spec_SplitSlip [.d (.agg [ints l0]), .d (ints l1), .d (di n2)] [.any, .any, .any] (.tup [.ownm [.own 1 (a.map di), .own 1 (b.map di), .own 1 (c.map di), .own 1 (e.map di)], .d (di 0)])) :
    Den PA f_laws_FnExactSplitSlip [.d (.agg [x0]), .d x1, .d (di n2)] [.any, .any, .any] (.d (db true)) := by
  have ly1 := lenA_is hx1
  have hp : Den PA f_spec_SplitSlip [.d (.agg [ints l0]), .d (ints l1), .d (di n2)] [.any, .any, .any] (.tup [.d (mat [a, b, c, e]), .d (di 0)]) := hp0.le (.tup (.cons (RLe.frzM (z := 1) (L := [a.map di, b.map di, c.map di, e.map di])) (.cons .refl .nil)))
  refine den_go [] l_laws_FnExactSplitSlip ?_
  repeat' (first | simp -implicitDefEqProofs (maxSteps := 1000000) (disch := (first | omega | (simp only [go_sem] <;> omega) | fail)) only [go_sem, ints, bools, mat, c_laws_FnExactSplitSlip, ly1] | ((first | apply goIf_b | apply goG_b | apply goTG_b | apply goOG_b) <;> intro h <;> ((try simp only [hnq] at h); (try simp only [h]); (try simp only [hnr] at h))))
  first | refine goC_call [.r, .r] (hz) ?_ | refine goOC_call [.r, .r] (hz) ?_
  repeat' (first | simp -implicitDefEqProofs (maxSteps := 1000000) (disch := (first | omega | (simp only [go_sem] <;> omega) | fail)) only [go_sem, ints, bools, mat] | ((first | apply goIf_b | apply goG_b | apply goTG_b | apply goOG_b) <;> intro h <;> ((try simp only [hnq] at h); (try simp only [h]); (try simp only [hnr] at h)) <;> (try (exfalso; omega))))
  repeat' (first | simp -implicitDefEqProofs (maxSteps := 1000000) (disch := (first | omega | (simp only [go_sem] <;> omega) | fail)) only [go_sem, ints, bools, mat] | ((first | apply goIf_b | apply goG_b | apply goTG_b | apply goOG_b) <;> intro h <;> ((try simp only [hnq] at h); (try simp only [h]); (try simp only [hnr] at h)) <;> (try (exfalso; omega))) | ((first | refine goC_call [.r] (d_laws_toSpace x0 l0 hx0 (by omega)) ?_ | refine goOC_call [.r] (d_laws_toSpace x0 l0 hx0 (by omega)) ?_); simp -implicitDefEqProofs (maxSteps := 1000000) (disch := (first | omega | (simp only [go_sem] <;> omega) | fail)) only [go_sem, ints, bools, mat]; fail_if_success (with_reducible show chk _ _)) | ((first | refine goC_call [.r, .r] (d_laws_eqSpace l0 l0 (by omega)) ?_ | refine goOC_call [.r, .r] (d_laws_eqSpace l0 l0 (by omega)) ?_); simp -implicitDefEqProofs (maxSteps := 1000000) (disch := (first | omega | (simp only [go_sem] <;> omega) | fail)) only [go_sem, ints, bools, mat]; fail_if_success (with_reducible show chk _ _)) | ((first | refine goC_call [.r] (d_laws_toSlip x1 l1 hx1 (by omega)) ?_ | refine goOC_call [.r] (d_laws_toSlip x1 l1 hx1 (by omega)) ?_); simp -implicitDefEqProofs (maxSteps := 1000000) (disch := (first | omega | (simp only [go_sem] <;> omega) | fail)) only [go_sem, ints, bools, mat]; fail_if_success (with_reducible show chk _ _)) | ((first | refine goC_call [.r, .r] (d_laws_eqSlip l1 l1 (by omega)) ?_ | refine goOC_call [.r, .r] (d_laws_eqSlip l1 l1 (by omega)) ?_); simp -implicitDefEqProofs (maxSteps := 1000000) (disch := (first | omega | (simp only [go_sem] <;> omega) | fail)) only [go_sem, ints, bools, mat]; fail_if_success (with_reducible show chk _ _)) | ((first | refine goC_call [.a [.o], .r] (d_laws_markSpace l0 1 (by omega) (by omega) (by omega)) ?_ | refine goOC_call [.a [.o], .r] (d_laws_markSpace l0 1 (by omega) (by omega) (by omega)) ?_); simp -implicitDefEqProofs (maxSteps := 1000000) (disch := (first | omega | (simp only [go_sem] <;> omega) | fail)) only [go_sem, ints, bools, mat]; fail_if_success (with_reducible show chk _ _)) | ((first | refine goC_call [.o, .r] (d_laws_markSlip l1 (1 + l0.length) (by omega) (by omega) (by omega)) ?_ | refine goOC_call [.o, .r] (d_laws_markSlip l1 (1 + l0.length) (by omega) (by omega) (by omega)) ?_); simp -implicitDefEqProofs (maxSteps := 1000000) (disch := (first | omega | (simp only [go_sem] <;> omega) | fail)) only [go_sem, ints, bools, mat]; fail_if_success (with_reducible show chk _ _)) | ((first | refine goC_call [.r, .r, .r] (hi) ?_ | refine goOC_call [.r, .r, .r] (hi) ?_); simp -implicitDefEqProofs (maxSteps := 1000000) (disch := (first | omega | (simp only [go_sem] <;> omega) | fail)) only [go_sem, ints, bools, mat]; fail_if_success (with_reducible show chk _ _)) | ((first | refine goC_call [.f, .f, .r] (hp) ?_ | refine goOC_call [.f, .f, .r] (hp) ?_); simp -implicitDefEqProofs (maxSteps := 1000000) (disch := (first | omega | (simp only [go_sem] <;> omega) | fail)) only [go_sem, ints, bools, mat]; fail_if_success (with_reducible show chk _ _)) | ((first | refine goC_call [.o, .r] (d_laws_eqSlipS_4 a b c e (by omega) (by omega) (by omega) (by omega)) ?_ | refine goOC_call [.o, .r] (d_laws_eqSlipS_4 a b c e (by omega) (by omega) (by omega) (by omega)) ?_); simp -implicitDefEqProofs (maxSteps := 1000000) (disch := (first | omega | (simp only [go_sem] <;> omega) | fail)) only [go_sem, ints, bools, mat]; fail_if_success (with_reducible show chk _ _)) | ((first | refine goC_call [.o, .r] (d_laws_markSlipS_4 a b c e (by omega) (by omega) (by omega) (by omega) 1 (by omega) (by omega)) ?_ | refine goOC_call [.o, .r] (d_laws_markSlipS_4 a b c e (by omega) (by omega) (by omega) (by omega) 1 (by omega) (by omega)) ?_); simp -implicitDefEqProofs (maxSteps := 1000000) (disch := (first | omega | (simp only [go_sem] <;> omega) | fail)) only [go_sem, ints, bools, mat]; fail_if_success (with_reducible show chk _ _)) | ((first | refine goC_call [.o, .r] (d_laws_heldSlipS_4 a b c e (by omega) (by omega) (by omega) (by omega) 1 (by omega) (by omega)) ?_ | refine goOC_call [.o, .r] (d_laws_heldSlipS_4 a b c e (by omega) (by omega) (by omega) (by omega) 1 (by omega) (by omega)) ?_); simp -implicitDefEqProofs (maxSteps := 1000000) (disch := (first | omega | (simp only [go_sem] <;> omega) | fail)) only [go_sem, ints, bools, mat]; fail_if_success (with_reducible show chk _ _)))
theorem d_laws_FnExactSplitSlip (x0 : D) (l0 : List Int) (hx0 : IsInts x0 l0) (hl0 : l0.length ≤ maxLen) (hi0 : ∀ n, n ∈ l0 → in64 n) (x1 : D) (l1 : List Int) (hx1 : IsInts x1 l1) (hl1 : l1.length ≤ maxLen) (hi1 : ∀ n, n ∈ l1 → in64 n) (n2 : Int) (hi2 : in64 n2) :
    Den PA f_laws_FnExactSplitSlip [.d (.agg [x0]), .d x1, .d (di n2)] [.any, .any, .any] (.d (db true)) := by
  have ly1 := lenA_is hx1
  have hz := d_laws_szSpace x0 l0 hx0 1048576 hl0 (by omega) (by omega)
  by_cases hs1 : l1.length ≤ 1048576
  · by_cases hs0 : (1048576 : Int) < l0.length
    · rw [if_pos hs0] at hz
      refine den_go [] l_laws_FnExactSplitSlip ?_
      repeat' (first | simp -implicitDefEqProofs (maxSteps := 1000000) (disch := (first | omega | (simp only [go_sem] <;> omega) | fail)) only [go_sem, ints, bools, mat, c_laws_FnExactSplitSlip, ly1] | ((first | apply goIf_b | apply goG_b | apply goTG_b | apply goOG_b) <;> intro h <;> ((try simp only [hnq] at h); (try simp only [h]); (try simp only [hnr] at h))))
      first | refine goC_call [.r, .r] (hz) ?_ | refine goOC_call [.r, .r] (hz) ?_
      repeat' (first | simp -implicitDefEqProofs (maxSteps := 1000000) (disch := (first | omega | (simp only [go_sem] <;> omega) | fail)) only [go_sem, ints, bools, mat] | ((first | apply goIf_b | apply goG_b | apply goTG_b | apply goOG_b) <;> intro h <;> ((try simp only [hnq] at h); (try simp only [h]); (try simp only [hnr] at h)) <;> (try (exfalso; omega))))
    · rw [if_neg hs0] at hz
      have hi := d_impl_SplitSlip l0 l1 n2 (by omega) (by omega)
      have hp := d_spec_SplitSlip l0 l1 n2 (by omega) (by omega)
      by_cases he : seE l0 l1 n2 = 0
      · rw [lstM_ok _ he] at hi hp
        have hrow : ∀ r, r ∈ slM l1 n2.toNat → r.length ≤ 1048576 := fun r hr => by rw [slN_row hr]; omega
        have hl4 : (slM l1 n2.toNat).length ≤ 4 := slN_len l1 n2.toNat 4
        have hne : slM l1 n2.toNat ≠ [] := by
          have h0 : scM l0 [l1] = 0 := by
            unfold seE at he; split at he
            · assumption
            · rename_i h1; exact absurd he h1
          have hii : 0 ≤ n2 ∧ n2 < l0.length := by
            unfold seE at he; rw [if_pos h0] at he; split at he
            · assumption
            · cases he
          obtain ⟨hs, hst⟩ := sc_ok h0
          obtain ⟨htl, hti⟩ := (isSlipM_ok l0 l1).1 hst
          have hq := isSpaceM_q hs n2.toNat (by omega)
          have hm := hti n2.toNat (by omega)
          have h4 : (2 : Int) ^ (l0.getD n2.toNat 0).toNat ≤ 2 ^ 4 := by
            have := Nat.pow_le_pow_right (n := 2) (by omega) (show (l0.getD n2.toNat 0).toNat ≤ 4 by omega)
            exact_mod_cast this
          exact slM_ne hm.1 (by omega)
        generalize slM l1 n2.toNat = L at hi hp hrow hl4 hne
        rcases L with _ | ⟨a, _ | ⟨b, _ | ⟨c, _ | ⟨e, _ | ⟨f, L⟩⟩⟩⟩⟩
        · exact (hne rfl).elim
        · exact w_split1 x0 l0 hx0 x1 l1 hx1 n2 hz (by omega) hs1 a (hrow a (by simp)) hi hp
        · exact w_split2 x0 l0 hx0 x1 l1 hx1 n2 hz (by omega) hs1 a b (hrow a (by simp)) (hrow b (by simp)) hi hp
        · exact w_split3 x0 l0 hx0 x1 l1 hx1 n2 hz (by omega) hs1 a b c (hrow a (by simp)) (hrow b (by simp)) (hrow c (by simp)) hi hp
        · exact w_split4 x0 l0 hx0 x1 l1 hx1 n2 hz (by omega) hs1 a b c e (hrow a (by simp)) (hrow b (by simp)) (hrow c (by simp)) (hrow e (by simp)) hi hp
        · simp at hl4
      · rw [lstM_no _ he] at hi hp
        exact w_split0 x0 l0 hx0 x1 l1 hx1 n2 hz (by omega) hs1 he hi hp
  · refine den_go [] l_laws_FnExactSplitSlip ?_
    repeat' (first | simp -implicitDefEqProofs (maxSteps := 1000000) (disch := (first | omega | (simp only [go_sem] <;> omega) | fail)) only [go_sem, ints, bools, mat, c_laws_FnExactSplitSlip, ly1] | ((first | apply goIf_b | apply goG_b | apply goTG_b | apply goOG_b) <;> intro h <;> ((try simp only [hnq] at h); (try simp only [h]); (try simp only [hnr] at h))))
    all_goals (exfalso; omega)
end Go.Proofs.Ytccfejnckmokkaa.Va
