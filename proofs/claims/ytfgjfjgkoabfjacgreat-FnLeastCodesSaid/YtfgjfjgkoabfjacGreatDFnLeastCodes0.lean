/- Contracts of the functions that FnLeastCodes reaches (part 0). Condition: none. -/
import Derived.Test.YtfgjfjgkoabfjacGreatCFnLeastCodes
import Derived.Sort.AssemblyPlain
set_option linter.all false
set_option linter.unusedSimpArgs false
set_option linter.unusedVariables false
namespace Go.Proofs.YtfgjfjgkoabfjacGreat.Va
open Go
set_option maxHeartbeats 4000000
set_option maxRecDepth 100000
attribute [go_sem_proc] reduceIte Nat.reduceEqDiff Nat.reduceAdd Nat.reduceBEq Nat.reduceMul Nat.reduceLeDiff Nat.reduceLT Nat.reduceMod Nat.reduceDiv Nat.reduceSub reduceCtorEq
theorem hnq : (∀ {b : Bool}, ((!b) = true) = (b = false)) ∧ (∀ {b : Bool}, ((!b) = false) = (b = true)) := ⟨by intro b; cases b <;> simp, by intro b; cases b <;> simp⟩
theorem hnr : (∀ {p : Prop} [Decidable p], (decide p = true) = p) ∧ (∀ {p : Prop} [Decidable p], (decide p = false) = ¬p) ∧ (∀ {α : Type} [BEq α] [LawfulBEq α] {a b : α}, ((a != b) = true) ↔ a ≠ b) ∧ (∀ {α : Type} [BEq α] [LawfulBEq α] {a b : α}, ((a != b) = false) ↔ a = b) ∧
  (∀ {α : Type} [BEq α] [LawfulBEq α] {a b : α}, ((a == b) = true) ↔ a = b) ∧ (∀ {α : Type} [BEq α] [LawfulBEq α] {a b : α}, ((a == b) = false) ↔ a ≠ b) ∧ (∀ {α : Type} {a b : α}, (a ≠ b) = ¬ a = b) ∧ (∀ {a b : Int}, ¬ a < b ↔ b ≤ a) ∧ (∀ {a b : Int}, ¬ a ≤ b ↔ b < a) ∧
  (∀ {a b : Bool}, ((a && b) = true) = (a = true ∧ b = true)) ∧ (∀ {a b : Bool}, ((a && b) = false) = (a = false ∨ b = false)) ∧ (∀ {a b : Bool}, ((a || b) = true) = (a = true ∨ b = true)) ∧ (∀ {a b : Bool}, ((a || b) = false) = (a = false ∧ b = false)) :=
  ⟨decide_eq_true_eq, decide_eq_false_iff_not .. |> propext, bne_iff_ne, bne_eq_false_iff_eq, beq_iff_eq, beq_eq_false_iff_ne, rfl, Int.not_lt, Int.not_le, by simp, by simp, by simp, by simp⟩
theorem d_spec_l01In (a lo hi : Int) : Den PA f_spec_l01In [.d (di a), .d (di lo), .d (di hi)] [.any, .any, .any] (.d (db (decide (lo ≤ a) && decide (a ≤ hi)))) := by
  refine den_go [] l_spec_l01In ?_
  repeat' (first | simp -implicitDefEqProofs (maxSteps := 1000000) (disch := (first | omega | (simp only [go_sem] <;> omega) | fail)) only [go_sem, ints, bools, mat, c_spec_l01In] | ((first | apply goIf_b | apply goG_b | apply goTG_b | apply goOG_b) <;> intro h <;> ((try simp only [hnq] at h); (try simp only [h]); (try simp only [hnr] at h))))
def prodM (l : List Int) : Int := l.foldl (· * ·) 1
theorem take_one (l : List Int) {j : Nat} (h : j < l.length) : l.take (j + 1) = l.take j ++ [l.getD j 0] := by
  rw [List.take_add_one]; simp [h]
theorem prodM_step (l : List Int) {j : Nat} (h : j < l.length) : prodM (l.take (j + 1)) = prodM (l.take j) * l.getD j 0 := by
  rw [take_one l h]; simp [prodM]
theorem prodM_bnd (l : List Int) : ∀ j, j ≤ l.length → (∀ i, i < j → 2 ≤ l.getD i 0 ∧ l.getD i 0 ≤ 4) → 1 ≤ prodM (l.take j) ∧ prodM (l.take j) ≤ 4 ^ j
  | 0, _, _ => by simp [prodM]
  | j + 1, hj, h => by
    obtain ⟨h1, h2⟩ := prodM_bnd l j (by omega) (fun i hi => h i (by omega))
    obtain ⟨h3, h4⟩ := h j (by omega)
    rw [prodM_step l (by omega)]
    constructor
    · have := Int.mul_le_mul h1 (show (1 : Int) ≤ l.getD j 0 by omega) (by omega) (by omega)
      simpa using this
    · rw [Int.pow_succ]
      exact Int.mul_le_mul h2 h4 (by omega) (by omega)
theorem pow4 {j : Nat} (h : j ≤ 8) : (4 : Int) ^ j ≤ 65536 := by
  exact (by decide : ∀ j : Fin 9, (4 : Int) ^ (j : Nat) ≤ 65536) ⟨j, by omega⟩
theorem prodM_small (l : List Int) {j : Nat} (h8 : j ≤ 8) (hj : j ≤ l.length) (h : ∀ i, i < j → 2 ≤ l.getD i 0 ∧ l.getD i 0 ≤ 4) : 1 ≤ prodM (l.take j) ∧ prodM (l.take j) ≤ 65536 := by
  obtain ⟨h1, h2⟩ := prodM_bnd l j hj h
  exact ⟨h1, Int.le_trans h2 (pow4 h8)⟩
def isSpaceM (l : List Int) : Bool := decide (1 ≤ l.length) && decide (l.length ≤ 8) && l.all (fun n => decide (2 ≤ n) && decide (n ≤ 4)) && decide (prodM l ≤ 1024)
theorem isSpaceM_ok (l : List Int) : isSpaceM l = true ↔ (1 ≤ l.length ∧ l.length ≤ 8) ∧ (∀ j, j < l.length → 2 ≤ l.getD j 0 ∧ l.getD j 0 ≤ 4) ∧ prodM l ≤ 1024 := by
  simp only [isSpaceM, Bool.and_eq_true, decide_eq_true_eq, all_getD, and_assoc]
theorem d_spec_l01N (l : List Int) (h8 : l.length ≤ 8) (h : ∀ i, i < l.length → 2 ≤ l.getD i 0 ∧ l.getD i 0 ≤ 4) :
    Den PA f_spec_l01N [.d (.agg [ints l])] [.any] (.d (di (prodM l))) := by
  refine den_go [] l_spec_l01N ?_
  simp -implicitDefEqProofs (maxSteps := 1000000) (disch := (first | omega | (simp only [go_sem] <;> omega) | fail)) only [go_sem, ints, bools, mat, c_spec_l01N]
  refine go_loop (fun (j : Nat) => ⟨[(1, .ref 0 0), (3, .d (di (prodM (l.take j)))), (4, .d (di j))], [some (.var [ints l])]⟩) (fun j => j ≤ l.length) (fun j => l.length - j) 0 ?_ ?_ ?_
  · simp -implicitDefEqProofs (maxSteps := 1000000) (disch := (first | omega | (simp only [go_sem] <;> omega) | fail)) only [go_sem, ints, bools, mat]; rfl
  · simp
  · rintro j hj J hJ
    have hb := prodM_small l (j := j) (by omega) hj (fun i hi => h i (by omega))
    have hb' := fun hj' => prodM_small l (j := j + 1) (by omega) hj' (fun i hi => h i (by omega))
    have hs := fun hj' => prodM_step l (j := j) hj'
    repeat' (first | simp -implicitDefEqProofs (maxSteps := 1000000) (disch := (first | omega | (simp only [go_sem] <;> omega) | fail)) only [go_sem, ints, bools, mat] | ((first | apply goIf_b | apply goG_b | apply goTG_b | apply goOG_b) <;> intro h <;> ((try simp only [hnq] at h); (try simp only [h]); (try simp only [hnr] at h))))
    · rename_i hlt
      have hlt : j < l.length := by omega
      have h1 := hb' (by omega)
      rw [hs hlt] at h1
      refine hJ (j + 1) (by omega) (by omega) _ ?_
      simp -implicitDefEqProofs (maxSteps := 1000000) (disch := (first | omega | (simp only [go_sem] <;> omega) | fail)) only [go_sem, ints, bools, mat]
      rw [hs hlt]; rfl
theorem d_spec_l01Is (l : List Int) (hl : l.length < 1048577) :
    Den PA f_spec_l01Is [.d (.agg [ints l])] [.any] (.d (db (isSpaceM l))) := by
  have e := isSpaceM_ok l
  refine den_go [] l_spec_l01Is ?_
  simp -implicitDefEqProofs (maxSteps := 1000000) (disch := (first | omega | (simp only [go_sem] <;> omega) | fail)) only [go_sem, ints, bools, mat, c_spec_l01Is]
  first | refine goC_call [.r, .r, .r] (d_spec_l01In l.length 1 8) ?_ | refine goOC_call [.r, .r, .r] (d_spec_l01In l.length 1 8) ?_
  repeat' (first | simp -implicitDefEqProofs (maxSteps := 1000000) (disch := (first | omega | (simp only [go_sem] <;> omega) | fail)) only [go_sem, ints, bools, mat] | ((first | apply goIf_b | apply goG_b | apply goTG_b | apply goOG_b) <;> intro h <;> ((try simp only [hnq] at h); (try simp only [h]); (try simp only [hnr] at h))))
  rotate_left
  · exact dbF fun h' => by have := (e.1 h').1; omega
  refine go_loop (fun (j : Nat) => ⟨[(1, .ref 0 0), (3, .d (di j))], [some (.var [ints l])]⟩) (fun j => j ≤ l.length ∧ ∀ i, i < j → 2 ≤ l.getD i 0 ∧ l.getD i 0 ≤ 4) (fun j => l.length - j) 0 ?_ ?_ ?_
  · simp -implicitDefEqProofs (maxSteps := 1000000) (disch := (first | omega | (simp only [go_sem] <;> omega) | fail)) only [go_sem, ints, bools, mat]; rfl
  · simp
  · rintro j ⟨hj, hi⟩ J hJ
    repeat' (first | simp -implicitDefEqProofs (maxSteps := 1000000) (disch := (first | omega | (simp only [go_sem] <;> omega) | fail)) only [go_sem, ints, bools, mat] | ((first | apply goIf_b | apply goG_b | apply goTG_b | apply goOG_b) <;> intro h <;> ((try simp only [hnq] at h); (try simp only [h]); (try simp only [hnr] at h))))
    · first | refine goC_call [.r, .r, .r] (d_spec_l01In (l.getD j 0) 2 4) ?_ | refine goOC_call [.r, .r, .r] (d_spec_l01In (l.getD j 0) 2 4) ?_
      repeat' (first | simp -implicitDefEqProofs (maxSteps := 1000000) (disch := (first | omega | (simp only [go_sem] <;> omega) | fail)) only [go_sem, ints, bools, mat] | ((first | apply goIf_b | apply goG_b | apply goTG_b | apply goOG_b) <;> intro h <;> ((try simp only [hnq] at h); (try simp only [h]); (try simp only [hnr] at h))))
      · refine hJ (j + 1) ⟨by omega, fun i hi' => ?_⟩ (by omega) _ (by simp -implicitDefEqProofs (maxSteps := 1000000) (disch := (first | omega | (simp only [go_sem] <;> omega) | fail)) only [go_sem, ints, bools, mat]; rfl)
        rcases Nat.lt_or_ge i j with h' | h'
        · exact hi i h'
        · have : i = j := by omega
          subst this; assumption
      · exact dbF fun h' => by have := (e.1 h').2.1 j (by omega); omega
    · have hj' : j = l.length := by omega
      subst hj'
      first | refine goC_call [.r] (d_spec_l01N l (by omega) hi) ?_ | refine goOC_call [.r] (d_spec_l01N l (by omega) hi) ?_
      repeat' (first | simp -implicitDefEqProofs (maxSteps := 1000000) (disch := (first | omega | (simp only [go_sem] <;> omega) | fail)) only [go_sem, ints, bools, mat] | ((first | apply goIf_b | apply goG_b | apply goTG_b | apply goOG_b) <;> intro h <;> ((try simp only [hnq] at h); (try simp only [h]); (try simp only [hnr] at h))))
      refine dbv ?_
      cases hm : isSpaceM l with
      | true => exact decide_eq_true (e.1 hm).2.2
      | false =>
        refine decide_eq_false fun hp => ?_
        have := e.2 ⟨by omega, hi, hp⟩
        rw [hm] at this; cases this
theorem d_impl_IsSpace (l : List Int) (hl : l.length < 1048577) :
    Den PA f_impl_IsSpace [.d (.agg [ints l])] [.any] (.d (db (isSpaceM l))) := by
  have e := isSpaceM_ok l
  refine den_go [] l_impl_IsSpace ?_
  repeat' (first | simp -implicitDefEqProofs (maxSteps := 1000000) (disch := (first | omega | (simp only [go_sem] <;> omega) | fail)) only [go_sem, ints, bools, mat, c_impl_IsSpace] | ((first | apply goIf_b | apply goG_b | apply goTG_b | apply goOG_b) <;> intro h <;> ((try simp only [hnq] at h); (try simp only [h]); (try simp only [hnr] at h))))
  · exact dbF fun h' => by have := (e.1 h').1; omega
  · refine go_loop (fun (j : Nat) => ⟨[(3, .d (di (prodM (l.take j)))), (17, .d (ints l)), (18, .d (di l.length)), (19, .d (di j))], []⟩) (fun j => j ≤ l.length ∧ ∀ i, i < j → 2 ≤ l.getD i 0 ∧ l.getD i 0 ≤ 4) (fun j => l.length - j) 0 ?_ ?_ ?_
    · simp -implicitDefEqProofs (maxSteps := 1000000) (disch := (first | omega | (simp only [go_sem] <;> omega) | fail)) only [go_sem, ints, bools, mat]; rfl
    · simp
    · rintro j ⟨hj, hi⟩ J hJ
      have hb := prodM_small l (j := j) (by omega) hj hi
      repeat' (first | simp -implicitDefEqProofs (maxSteps := 1000000) (disch := (first | omega | (simp only [go_sem] <;> omega) | fail)) only [go_sem, ints, bools, mat] | ((first | apply goIf_b | apply goG_b | apply goTG_b | apply goOG_b) <;> intro h <;> ((try simp only [hnq] at h); (try simp only [h]); (try simp only [hnr] at h))))
      · exact dbF fun h' => by have := (e.1 h').2.1 j (by omega); omega
      · have hi' : ∀ i, i < j + 1 → 2 ≤ l.getD i 0 ∧ l.getD i 0 ≤ 4 := fun i hi' => by
          rcases Nat.lt_or_ge i j with h' | h'
          · exact hi i h'
          · have : i = j := by omega
            subst this; exact ⟨by assumption, by assumption⟩
        have hb' := prodM_small l (j := j + 1) (by omega) (by omega) hi'
        have hs := prodM_step l (j := j) (by omega)
        rw [hs] at hb'
        refine hJ (j + 1) ⟨by omega, hi'⟩ (by omega) _ ?_
        simp -implicitDefEqProofs (maxSteps := 1000000) (disch := (first | omega | (simp only [go_sem] <;> omega) | fail)) only [go_sem, ints, bools, mat]
        rw [hs]; rfl
      · exact dbF fun h' => by have := (e.1 h').2.1 j (by omega); omega
      · have hj' : j = l.length := by omega
        subst hj'
        refine dbv ?_
        cases hm : isSpaceM l with
        | true => exact decide_eq_true (e.1 hm).2.2
        | false =>
          refine decide_eq_false fun hp => ?_
          have := e.2 ⟨by omega, hi, hp⟩
          rw [hm] at this; cases this
  · exact dbF fun h' => by have := (e.1 h').1; omega
theorem isSpaceM_q {l : List Int} (h : isSpaceM l = true) : ∀ j, j < l.length → 2 ≤ l.getD j 0 ∧ l.getD j 0 ≤ 4 := ((isSpaceM_ok l).1 h).2.1
theorem isSpaceM_n {l : List Int} (h : isSpaceM l = true) : 1 ≤ l.length ∧ l.length ≤ 8 := ((isSpaceM_ok l).1 h).1
abbrev nil : D := .v (.slice none 0 0)
def markL (n : Nat) (k : Int) : List Int := (List.range n).map fun (i : Nat) => k + (i : Int)
@[go_sem] theorem markL_len (n : Nat) (k : Int) : (markL n k).length = n := by simp [markL]
@[go_sem] theorem take_markL (n : Nat) (k : Int) : (markL n k).take n = markL n k := List.take_of_length_le (by rw [markL_len]; exact Nat.le_refl _)
@[go_sem] theorem cast_succ_sub (i : Nat) : ((i + 1 : Nat) : Int) - 1 = (i : Int) := by omega
@[go_sem] theorem cast_zero0 : ((0 : Nat) : Int) = 0 := rfl
theorem foldl_mul (l : List Int) : ∀ a : Int, l.foldl (· * ·) a = a * l.foldl (· * ·) 1 := by
  induction l with
  | nil => intro a; simp
  | cons q r ih => intro a; simp only [List.foldl_cons]; rw [ih (a * q), ih (1 * q), Int.one_mul, Int.mul_assoc]
theorem prodM_cons (q : Int) (r : List Int) : prodM (q :: r) = q * prodM r := by
  simp only [prodM, List.foldl_cons]; rw [foldl_mul, Int.one_mul]
theorem prodM_nil : prodM [] = 1 := rfl
def digM : List Int → Int → List Int
  | [], _ => []
  | q :: r, w => (w / prodM r) % q :: digM r w
theorem digM_len : ∀ (l : List Int) (w : Int), (digM l w).length = l.length
  | [], _ => rfl
  | _ :: r, w => by simp [digM, digM_len r w]
theorem drop_cons1 {l : List Int} {i : Nat} (h : i < l.length) : l.drop i = l.getD i 0 :: l.drop (i + 1) := by
  rw [List.drop_eq_getElem_cons h]; simp [h]
theorem digM_drop {l : List Int} (w : Int) {i : Nat} (h : i < l.length) : digM (l.drop i) w = (w / prodM (l.drop (i + 1))) % l.getD i 0 :: digM (l.drop (i + 1)) w := by
  rw [drop_cons1 h]; rfl
theorem prodM_drop {l : List Int} {i : Nat} (h : i < l.length) : prodM (l.drop i) = l.getD i 0 * prodM (l.drop (i + 1)) := by
  rw [drop_cons1 h, prodM_cons]
def szs (l : List Int) : Prop := ∀ j, j < l.length → 2 ≤ l.getD j 0 ∧ l.getD j 0 ≤ 4
theorem szs_tail {q : Int} {r : List Int} (h : szs (q :: r)) : szs r := fun j hj => by simpa using h (j + 1) (by simpa using hj)
theorem prodM_pos : ∀ {l : List Int}, szs l → 1 ≤ prodM l
  | [], _ => by simp [prodM]
  | q :: r, h => by
    have h1 := prodM_pos (szs_tail h)
    have h2 := h 0 (by simp)
    simp at h2
    rw [prodM_cons]
    have := Int.mul_le_mul (show (1 : Int) ≤ q by omega) h1 (by omega) (by omega)
    simpa using this
theorem szs_drop {l : List Int} (h : szs l) (k : Nat) : szs (l.drop k) := fun j hj => by
  have := h (k + j) (by simp at hj; omega)
  simpa [List.getD_eq_getElem?_getD, List.getElem?_drop] using this
theorem div_le_self {w p : Int} (h : 0 ≤ w) (hp : 1 ≤ p) : 0 ≤ w / p ∧ w / p ≤ w := by
  refine ⟨Int.ediv_nonneg h (by omega), Int.ediv_le_self _ h⟩
theorem div_step {l : List Int} {w : Int} {i : Nat} (hs : szs l) (h : i < l.length) : w / prodM (l.drop (i + 1)) / l.getD i 0 = w / prodM (l.drop i) := by
  rw [prodM_drop h, Int.mul_comm, Int.ediv_ediv_of_nonneg (by have := prodM_pos (szs_drop hs (i + 1)); omega)]
theorem mod_bnd {x q : Int} (h : 2 ≤ q ∧ q ≤ 4) : 0 ≤ x % q ∧ x % q < q ∧ x % q < 4 := by
  have h1 := Int.emod_nonneg x (show q ≠ 0 by omega)
  have h2 := Int.emod_lt_of_pos x (show 0 < q by omega)
  omega
def pad8 (ds : List Int) : List Int := (ds ++ List.replicate 8 0).take 8
@[go_sem] theorem pad8_len (ds : List Int) : (pad8 ds).length = 8 := by simp [pad8]
theorem pad8_eq {ds : List Int} (h : ds.length ≤ 8) : pad8 ds = ds ++ List.replicate (8 - ds.length) 0 := by
  rw [pad8, List.take_append, List.take_of_length_le h, List.take_replicate]
  congr 2; omega
abbrev dig (ds : List Int) : D := .agg ((pad8 ds).map dy)
theorem set_rep {i : Nat} (v : Int) (r : List Int) : (List.replicate (i + 1) 0 ++ r).set i v = List.replicate i 0 ++ v :: r := by
  rw [List.replicate_succ', List.append_assoc, List.set_append_right _ _ (by simp)]
  simp
theorem isSpaceM_szs {l : List Int} (h : isSpaceM l = true) : szs l := isSpaceM_q h
theorem isSpaceM_prod {l : List Int} (h : isSpaceM l = true) : prodM l ≤ 1024 := ((isSpaceM_ok l).1 h).2.2
theorem d_impl_count (l : List Int) (hs : isSpaceM l = true) : Den PA f_impl_count [.d (.agg [ints l])] [.any] (.d (di (prodM l))) := by
  have hn := isSpaceM_n hs
  refine den_go [] l_impl_count ?_
  repeat' (first | simp -implicitDefEqProofs (maxSteps := 1000000) (disch := (first | omega | (simp only [go_sem] <;> omega) | fail)) only [go_sem, ints, bools, mat, c_impl_count] | ((first | apply goIf_b | apply goG_b | apply goTG_b | apply goOG_b) <;> intro h <;> ((try simp only [hnq] at h); (try simp only [h]); (try simp only [hnr] at h))))
  refine go_loop (fun (j : Nat) => ⟨[(3, .d (di (prodM (l.take j)))), (7, .d (ints l)), (8, .d (di l.length)), (9, .d (di j))], []⟩) (fun j => j ≤ l.length) (fun j => l.length - j) 0 ?_ ?_ ?_
  · (simp -implicitDefEqProofs (maxSteps := 1000000) (disch := (first | omega | (simp only [go_sem] <;> omega) | fail)) only [go_sem, ints, bools, mat] <;> rfl)
  · simp
  · rintro j hj J hJ
    have hb := prodM_small l (j := j) (by omega) hj (fun i hi => isSpaceM_q hs i (by omega))
    have hb' := fun hj' => prodM_small l (j := j + 1) (by omega) hj' (fun i hi => isSpaceM_q hs i (by omega))
    have hst := fun hj' => prodM_step l (j := j) hj'
    repeat' (first | simp -implicitDefEqProofs (maxSteps := 1000000) (disch := (first | omega | (simp only [go_sem] <;> omega) | fail)) only [go_sem, ints, bools, mat] | ((first | apply goIf_b | apply goG_b | apply goTG_b | apply goOG_b) <;> intro h <;> ((try simp only [hnq] at h); (try simp only [h]); (try simp only [hnr] at h))))
    · have h1 := hb' (by omega)
      rw [hst (by omega)] at h1
      refine hJ (j + 1) (by omega) (by omega) _ ?_
      simp -implicitDefEqProofs (maxSteps := 1000000) (disch := (first | omega | (simp only [go_sem] <;> omega) | fail)) only [go_sem, ints, bools, mat]
      rw [hst (by omega)]; rfl
theorem d_impl_places (l : List Int) (hl : l.length < 1048577) : Den PA f_impl_places [.d (.agg [ints l])] [.any] (.d (di l.length)) := by
  refine den_go [] l_impl_places ?_
  repeat' (first | simp -implicitDefEqProofs (maxSteps := 1000000) (disch := (first | omega | (simp only [go_sem] <;> omega) | fail)) only [go_sem, ints, bools, mat, c_impl_places] | ((first | apply goIf_b | apply goG_b | apply goTG_b | apply goOG_b) <;> intro h <;> ((try simp only [hnq] at h); (try simp only [h]); (try simp only [hnr] at h))))
def inW (l : List Int) (w : Int) : Bool := decide (0 ≤ w) && decide (w < prodM l)
def areW (l ws : List Int) : Bool := ws.all (inW l)
theorem areW_ok (l ws : List Int) : areW l ws = true ↔ ∀ j, j < ws.length → 0 ≤ ws.getD j 0 ∧ ws.getD j 0 < prodM l := by
  simp only [areW, all_getD, inW, Bool.and_eq_true, decide_eq_true_eq]
theorem d_impl_areWords (l : List Int) (hs : isSpaceM l = true) (x : D) (ws : List Int) (hx : IsInts x ws) (hw : ws.length < 1048577) : Den PA f_impl_areWords [.d (.agg [ints l]), .d x] [.any, .any] (.d (db (areW l ws))) := by
  have e := areW_ok l ws
  refine den_go [] l_impl_areWords ?_
  simp -implicitDefEqProofs (maxSteps := 1000000) (disch := (first | omega | (simp only [go_sem] <;> omega) | fail)) only [go_sem, ints, bools, mat, c_impl_areWords]
  first | refine goC_call [.r] (d_impl_count l hs) ?_ | refine goOC_call [.r] (d_impl_count l hs) ?_
  rcases hx with rfl | ⟨rfl, rfl⟩
  · repeat' (first | simp -implicitDefEqProofs (maxSteps := 1000000) (disch := (first | omega | (simp only [go_sem] <;> omega) | fail)) only [go_sem, ints, bools, mat] | ((first | apply goIf_b | apply goG_b | apply goTG_b | apply goOG_b) <;> intro h <;> ((try simp only [hnq] at h); (try simp only [h]); (try simp only [hnr] at h))))
    refine go_loop (fun (j : Nat) => ⟨[(5, .d (di (prodM l))), (10, .d (ints ws)), (11, .d (di ws.length)), (12, .d (di j))], []⟩) (fun j => j ≤ ws.length ∧ ∀ i, i < j → 0 ≤ ws.getD i 0 ∧ ws.getD i 0 < prodM l) (fun j => ws.length - j) 0 ?_ ?_ ?_
    · (simp -implicitDefEqProofs (maxSteps := 1000000) (disch := (first | omega | (simp only [go_sem] <;> omega) | fail)) only [go_sem, ints, bools, mat] <;> rfl)
    · simp
    · rintro j ⟨hj, hi⟩ J hJ
      repeat' (first | simp -implicitDefEqProofs (maxSteps := 1000000) (disch := (first | omega | (simp only [go_sem] <;> omega) | fail)) only [go_sem, ints, bools, mat] | ((first | apply goIf_b | apply goG_b | apply goTG_b | apply goOG_b) <;> intro h <;> ((try simp only [hnq] at h); (try simp only [h]); (try simp only [hnr] at h))))
      · exact dbF fun h' => by have := e.1 h' j (by omega); omega
      · refine hJ (j + 1) ⟨by omega, all_ext hi (by omega)⟩ (by omega) _ (by (simp -implicitDefEqProofs (maxSteps := 1000000) (disch := (first | omega | (simp only [go_sem] <;> omega) | fail)) only [go_sem, ints, bools, mat] <;> rfl))
      · exact dbF fun h' => by have := e.1 h' j (by omega); omega
      · exact dbT (e.2 fun i hi' => hi i (by omega))
  · repeat' (first | simp -implicitDefEqProofs (maxSteps := 1000000) (disch := (first | omega | (simp only [go_sem] <;> omega) | fail)) only [go_sem, ints, bools, mat] | ((first | apply goIf_b | apply goG_b | apply goTG_b | apply goOG_b) <;> intro h <;> ((try simp only [hnq] at h); (try simp only [h]); (try simp only [hnr] at h))))
    refine go_loop (fun (_ : Unit) => ⟨[(5, .d (di (prodM l))), (10, .d nil), (11, .d (di 0)), (12, .d (di 0))], []⟩) (fun _ => True) (fun _ => 0) () ?_ trivial ?_
    · (simp -implicitDefEqProofs (maxSteps := 1000000) (disch := (first | omega | (simp only [go_sem] <;> omega) | fail)) only [go_sem, ints, bools, mat] <;> rfl)
    · intro _ _ J _
      repeat' (first | simp -implicitDefEqProofs (maxSteps := 1000000) (disch := (first | omega | (simp only [go_sem] <;> omega) | fail)) only [go_sem, ints, bools, mat] | ((first | apply goIf_b | apply goG_b | apply goTG_b | apply goOG_b) <;> intro h <;> ((try simp only [hnq] at h); (try simp only [h]); (try simp only [hnr] at h))))
      exact dbT rfl
abbrev wcM (l ws : List Int) : Int := if isSpaceM l then (if areW l ws then 0 else 2) else 1
theorem d_impl_wordCode (l : List Int) (hl : l.length < 1048577) (x : D) (ws : List Int) (hx : IsInts x ws) (hw : ws.length < 1048577) : Den PA f_impl_wordCode [.d (.agg [ints l]), .d x] [.any, .any] (.d (di (wcM l ws))) := by
  refine den_go [] l_impl_wordCode ?_
  simp -implicitDefEqProofs (maxSteps := 1000000) (disch := (first | omega | (simp only [go_sem] <;> omega) | fail)) only [go_sem, ints, bools, mat, c_impl_wordCode, wcM]
  first | refine goC_call [.r] (d_impl_IsSpace l hl) ?_ | refine goOC_call [.r] (d_impl_IsSpace l hl) ?_
  repeat' (first | simp -implicitDefEqProofs (maxSteps := 1000000) (disch := (first | omega | (simp only [go_sem] <;> omega) | fail)) only [go_sem, ints, bools, mat] | ((first | apply goIf_b | apply goG_b | apply goTG_b | apply goOG_b) <;> intro h <;> ((try simp only [hnq] at h); (try simp only [h]); (try simp only [hnr] at h))))
  first | refine goC_call [.r, .r] (d_impl_areWords l h x ws hx hw) ?_ | refine goOC_call [.r, .r] (d_impl_areWords l h x ws hx hw) ?_
  repeat' (first | simp -implicitDefEqProofs (maxSteps := 1000000) (disch := (first | omega | (simp only [go_sem] <;> omega) | fail)) only [go_sem, ints, bools, mat] | ((first | apply goIf_b | apply goG_b | apply goTG_b | apply goOG_b) <;> intro h <;> ((try simp only [hnq] at h); (try simp only [h]); (try simp only [hnr] at h))))
theorem d_impl_digitsOf (l : List Int) (hs : isSpaceM l = true) (w : Int) (hw : 0 ≤ w) (hw2 : w < 1000000000000) : Den PA f_impl_digitsOf [.d (.agg [ints l]), .d (di w)] [.any, .any] (.d (dig (digM l w))) := by
  have hn := isSpaceM_n hs
  have hz := isSpaceM_szs hs
  refine den_go [] l_impl_digitsOf ?_
  repeat' (first | simp -implicitDefEqProofs (maxSteps := 1000000) (disch := (first | omega | (simp only [go_sem] <;> omega) | fail)) only [go_sem, ints, bools, mat, c_impl_digitsOf] | ((first | apply goIf_b | apply goG_b | apply goTG_b | apply goOG_b) <;> intro h <;> ((try simp only [hnq] at h); (try simp only [h]); (try simp only [hnr] at h))))
  refine go_loop (fun (k : Nat) => ⟨[(1, .d (di (w / prodM (l.drop k)))), (2, .ref 0 0), (4, .ref 1 0), (5, .ref 2 0), (6, .d (di ((k : Int) - 1)))], [some (.var [ints l]), some (.var [dy 0, dy 0, dy 0, dy 0, dy 0, dy 0, dy 0, dy 0]), some (.var ((List.replicate k 0 ++ (digM (l.drop k) w ++ List.replicate (8 - l.length) 0)).map dy))]⟩) (fun k => k ≤ l.length) (fun k => k) l.length ?_ ?_ ?_
  · simp -implicitDefEqProofs (maxSteps := 1000000) (disch := (first | omega | (simp only [go_sem] <;> omega) | fail)) only [go_sem, ints, bools, mat]
    have e1 : l.drop l.length = [] := by simp
    have e2 : List.replicate l.length (0 : Int) ++ List.replicate (8 - l.length) 0 = List.replicate 8 0 := by
      rw [List.replicate_append_replicate]; congr 1; omega
    rw [e1, digM, List.nil_append, e2, prodM_nil, Int.ediv_one]; rfl
  · simp
  · intro k hk J hJ
    rcases k with _ | i
    · have hdl := digM_len l w
      repeat' (first | simp -implicitDefEqProofs (maxSteps := 1000000) (disch := (first | omega | (simp only [go_sem] <;> omega) | fail)) only [go_sem, ints, bools, mat] | ((first | apply goIf_b | apply goG_b | apply goTG_b | apply goOG_b) <;> intro h <;> ((try simp only [hnq] at h); (try simp only [h]); (try simp only [hnr] at h)) <;> (try (exfalso; omega))))
      simp [dig, pad8_eq (ds := digM l w) (by rw [digM_len]; omega), digM_len]
    · have hq := hz i (by omega)
      have hp := prodM_pos (szs_drop hz (i + 1))
      have hw' := div_le_self hw hp
      have hm := mod_bnd (x := w / prodM (l.drop (i + 1))) hq
      have hd := div_step (w := w) hz (i := i) (by omega)
      have hp' := prodM_pos (szs_drop hz i)
      have hw'' := div_le_self hw hp'
      have hlen : (List.replicate (i + 1) (0 : Int) ++ (digM (l.drop (i + 1)) w ++ List.replicate (8 - l.length) 0)).length = 8 := by simp [digM_len]; omega
      rw [← hd] at hw''
      repeat' (first | simp -implicitDefEqProofs (maxSteps := 1000000) (disch := (first | omega | (simp only [go_sem] <;> omega) | fail)) only [go_sem, ints, bools, mat] | ((first | apply goIf_b | apply goG_b | apply goTG_b | apply goOG_b) <;> intro h <;> ((try simp only [hnq] at h); (try simp only [h]); (try simp only [hnr] at h)) <;> (try (exfalso; omega))))
      refine hJ i (by omega) (by omega) _ ?_
      simp -implicitDefEqProofs (maxSteps := 1000000) (disch := (first | omega | (simp only [go_sem] <;> omega) | fail)) only [go_sem, ints, bools, mat]
      rw [set_rep, hd, digM_drop w (i := i) (by omega)]; rfl
theorem d_spec_l01Digits (l : List Int) (hs : isSpaceM l = true) (w : Int) (hw : 0 ≤ w) (hw2 : w < 1000000000000) : Den PA f_spec_l01Digits [.d (.agg [ints l]), .d (di w)] [.any, .any] (.own 1 ((digM l w).map di)) := by
  have hn := isSpaceM_n hs
  have hz := isSpaceM_szs hs
  refine den_go [] l_spec_l01Digits ?_
  repeat' (first | simp -implicitDefEqProofs (maxSteps := 1000000) (disch := (first | omega | (simp only [go_sem] <;> omega) | fail)) only [go_sem, ints, bools, mat, c_spec_l01Digits] | ((first | apply goIf_b | apply goG_b | apply goTG_b | apply goOG_b) <;> intro h <;> ((try simp only [hnq] at h); (try simp only [h]); (try simp only [hnr] at h))))
  refine go_loop (fun (k : Nat) => ⟨[(1, .d (di (w / prodM (l.drop k)))), (2, .ref 0 0), (5, .sl 1 0 l.length 1), (6, .d (di ((k : Int) - 1)))], [some (.var [ints l]), some (.dat 1 ((List.replicate k 0 ++ digM (l.drop k) w).map di))]⟩) (fun k => k ≤ l.length) (fun k => k) l.length ?_ ?_ ?_
  · simp -implicitDefEqProofs (maxSteps := 1000000) (disch := (first | omega | (simp only [go_sem] <;> omega) | fail)) only [go_sem, ints, bools, mat]
    have e1 : l.drop l.length = [] := by simp
    rw [e1, digM, List.append_nil, prodM_nil, Int.ediv_one]
  · simp
  · intro k hk J hJ
    rcases k with _ | i
    · have := digM_len l w
      repeat' (first | simp -implicitDefEqProofs (maxSteps := 1000000) (disch := (first | omega | (simp only [go_sem] <;> omega) | fail)) only [go_sem, ints, bools, mat] | ((first | apply goIf_b | apply goG_b | apply goTG_b | apply goOG_b) <;> intro h <;> ((try simp only [hnq] at h); (try simp only [h]); (try simp only [hnr] at h)) <;> (try (exfalso; omega))))
      simp
    · have hq := hz i (by omega)
      have hp := prodM_pos (szs_drop hz (i + 1))
      have hw' := div_le_self hw hp
      have hm := mod_bnd (x := w / prodM (l.drop (i + 1))) hq
      have hd := div_step (w := w) hz (i := i) (by omega)
      have hp' := prodM_pos (szs_drop hz i)
      have hw'' := div_le_self hw hp'
      have hlen : (List.replicate (i + 1) (0 : Int) ++ digM (l.drop (i + 1)) w).length = l.length := by simp [digM_len]; omega
      rw [← hd] at hw''
      repeat' (first | simp -implicitDefEqProofs (maxSteps := 1000000) (disch := (first | omega | (simp only [go_sem] <;> omega) | fail)) only [go_sem, ints, bools, mat] | ((first | apply goIf_b | apply goG_b | apply goTG_b | apply goOG_b) <;> intro h <;> ((try simp only [hnq] at h); (try simp only [h]); (try simp only [hnr] at h)) <;> (try (exfalso; omega))))
      refine hJ i (by omega) (by omega) _ ?_
      simp -implicitDefEqProofs (maxSteps := 1000000) (disch := (first | omega | (simp only [go_sem] <;> omega) | fail)) only [go_sem, ints, bools, mat]
      rw [set_rep, hd, digM_drop w (i := i) (by omega)]
def farM : List Int → List Int → Int
  | a :: r, b :: s => (if a = b then 0 else 1) + farM r s
  | _, _ => 0
def farN (a b : List Int) : Nat → Int
  | 0 => 0
  | j + 1 => farN a b j + (if a.getD j 0 = b.getD j 0 then 0 else 1)
abbrev distM (l : List Int) (u w : Int) : Int := farM (digM l u) (digM l w)
theorem farN_cons (x y : Int) (a b : List Int) : ∀ j, farN (x :: a) (y :: b) (j + 1) = (if x = y then 0 else 1) + farN a b j
  | 0 => by simp [farN]
  | j + 1 => by rw [farN, farN_cons x y a b j, farN, Int.add_assoc]; rfl
theorem farN_nn (a b : List Int) : ∀ j : Nat, 0 ≤ farN a b j ∧ farN a b j ≤ j
  | 0 => by simp [farN]
  | j + 1 => by have := farN_nn a b j; simp only [farN]; split <;> omega
theorem farN_farM : ∀ (a b z : List Int) (k : Nat), a.length = b.length → k = a.length + z.length → farN (a ++ z) (b ++ z) k = farM a b
  | [], [], z, k, _, hk => by
    simp only [List.nil_append, farM]
    clear hk
    induction k with
    | zero => rfl
    | succ k ih => simp [farN, ih]
  | x :: a, y :: b, z, k, h, hk => by
    rcases k with _ | k
    · simp only [List.length_cons] at hk; omega
    · rw [List.cons_append, List.cons_append, farN_cons, farN_farM a b z k (by simpa using h) (by simp at hk; omega)]; rfl
  | [], _ :: _, _, _, h, _ => by simp at h
  | _ :: _, [], _, _, h, _ => by simp at h
theorem farM_bnd : ∀ (a b : List Int), 0 ≤ farM a b ∧ farM a b ≤ a.length
  | [], _ => by simp [farM]
  | _ :: _, [] => by simp [farM]; omega
  | x :: a, y :: b => by have := farM_bnd a b; simp only [farM, List.length_cons]; split <;> omega
theorem d_impl_far (a b : List Int) (ha : a.length = b.length) (h8 : a.length ≤ 8) : Den PA f_impl_far [.d (dig a), .d (dig b)] [.any, .any] (.d (di (farM a b))) := by
  have e := farN_farM a b (List.replicate (8 - a.length) 0) 8 ha (by simp; omega)
  have ea := pad8_len a
  have eb := pad8_len b
  have e' : farN (pad8 a) (pad8 b) 8 = farM a b := by rw [← e, pad8_eq h8, pad8_eq (ds := b) (by omega)]; simp only [ha]
  refine den_go [] l_impl_far ?_
  repeat' (first | simp -implicitDefEqProofs (maxSteps := 1000000) (disch := (first | omega | (simp only [go_sem] <;> omega) | fail)) only [go_sem, ints, bools, mat, c_impl_far] | ((first | apply goIf_b | apply goG_b | apply goTG_b | apply goOG_b) <;> intro h <;> ((try simp only [hnq] at h); (try simp only [h]); (try simp only [hnr] at h))))
  refine go_loop (fun (j : Nat) => ⟨[(3, .ref 0 0), (5, .d (di (farN (pad8 a) (pad8 b) j))), (8, .d (dig a)), (9, .d (di j))], [some (.var ((pad8 b).map dy))]⟩) (fun j => j ≤ 8) (fun j => 8 - j) 0 ?_ ?_ ?_
  · (simp -implicitDefEqProofs (maxSteps := 1000000) (disch := (first | omega | (simp only [go_sem] <;> omega) | fail)) only [go_sem, ints, bools, mat] <;> rfl)
  · simp
  · rintro j hj J hJ
    have hb := farN_nn (pad8 a) (pad8 b) j
    repeat' (first | simp -implicitDefEqProofs (maxSteps := 1000000) (disch := (first | omega | (simp only [go_sem] <;> omega) | fail)) only [go_sem, ints, bools, mat] | ((first | apply goIf_b | apply goG_b | apply goTG_b | apply goOG_b) <;> intro h <;> ((try simp only [hnq] at h); (try simp only [h]); (try simp only [hnr] at h)) <;> (try (exfalso; omega))))
    · refine hJ (j + 1) (by omega) (by omega) _ ?_
      simp -implicitDefEqProofs (maxSteps := 1000000) (disch := (first | omega | (simp only [go_sem] <;> omega) | fail)) only [go_sem, ints, bools, mat]
      rw [farN, if_neg (by assumption)]; rfl
    · refine hJ (j + 1) (by omega) (by omega) _ ?_
      simp -implicitDefEqProofs (maxSteps := 1000000) (disch := (first | omega | (simp only [go_sem] <;> omega) | fail)) only [go_sem, ints, bools, mat]
      rw [farN, if_pos (by assumption), Int.add_zero]; rfl
    · have : j = 8 := by omega
      subst this; rw [e']
theorem d_spec_l01Distance (l : List Int) (hs : isSpaceM l = true) (u w : Int) (hu : 0 ≤ u) (hu2 : u < 1000000000000) (hw : 0 ≤ w) (hw2 : w < 1000000000000) : Den PA f_spec_l01Distance [.d (.agg [ints l]), .d (di u), .d (di w)] [.any, .any, .any] (.d (di (distM l u w))) := by
  have hn := isSpaceM_n hs
  have hz := isSpaceM_szs hs
  refine den_go [] l_spec_l01Distance ?_
  repeat' (first | simp -implicitDefEqProofs (maxSteps := 1000000) (disch := (first | omega | (simp only [go_sem] <;> omega) | fail)) only [go_sem, ints, bools, mat, c_spec_l01Distance] | ((first | apply goIf_b | apply goG_b | apply goTG_b | apply goOG_b) <;> intro h <;> ((try simp only [hnq] at h); (try simp only [h]); (try simp only [hnr] at h))))
  refine go_loop (fun (k : Nat) => ⟨[(1, .d (di (u / prodM (l.drop k)))), (2, .d (di (w / prodM (l.drop k)))), (3, .ref 0 0), (7, .d (di (farM (digM (l.drop k) u) (digM (l.drop k) w)))), (8, .d (di ((k : Int) - 1)))], [some (.var [ints l])]⟩) (fun k => k ≤ l.length) (fun k => k) l.length ?_ ?_ ?_
  · simp -implicitDefEqProofs (maxSteps := 1000000) (disch := (first | omega | (simp only [go_sem] <;> omega) | fail)) only [go_sem, ints, bools, mat]
    have e1 : l.drop l.length = [] := by simp
    rw [e1, digM, digM, farM, prodM_nil, Int.ediv_one, Int.ediv_one]
    intros; simp_all
  · simp
  · intro k hk J hJ
    rcases k with _ | i
    · repeat' (first | simp -implicitDefEqProofs (maxSteps := 1000000) (disch := (first | omega | (simp only [go_sem] <;> omega) | fail)) only [go_sem, ints, bools, mat] | ((first | apply goIf_b | apply goG_b | apply goTG_b | apply goOG_b) <;> intro h <;> ((try simp only [hnq] at h); (try simp only [h]); (try simp only [hnr] at h)) <;> (try (exfalso; omega))))
    · have hq := hz i (by omega)
      have hp := prodM_pos (szs_drop hz (i + 1))
      have hw' := div_le_self hw hp
      have hu' := div_le_self hu hp
      have hd := div_step (w := w) hz (i := i) (by omega)
      have hd2 := div_step (w := u) hz (i := i) (by omega)
      have hp' := prodM_pos (szs_drop hz i)
      have hw'' := div_le_self hw hp'
      have hu'' := div_le_self hu hp'
      have hf := farM_bnd (digM (l.drop (i + 1)) u) (digM (l.drop (i + 1)) w)
      rw [digM_len, List.length_drop] at hf
      rw [← hd] at hw''
      rw [← hd2] at hu''
      repeat' (first | simp -implicitDefEqProofs (maxSteps := 1000000) (disch := (first | omega | (simp only [go_sem] <;> omega) | fail)) only [go_sem, ints, bools, mat] | ((first | apply goIf_b | apply goG_b | apply goTG_b | apply goOG_b) <;> intro h <;> ((try simp only [hnq] at h); (try simp only [h]); (try simp only [hnr] at h)) <;> (try (exfalso; omega))))
      · refine hJ i (by omega) (by omega) _ ?_
        simp -implicitDefEqProofs (maxSteps := 1000000) (disch := (first | omega | (simp only [go_sem] <;> omega) | fail)) only [go_sem, ints, bools, mat]
        rw [hd, hd2, digM_drop w (i := i) (by omega), digM_drop u (i := i) (by omega), farM, if_neg h, Int.add_comm]
      · refine hJ i (by omega) (by omega) _ ?_
        simp -implicitDefEqProofs (maxSteps := 1000000) (disch := (first | omega | (simp only [go_sem] <;> omega) | fail)) only [go_sem, ints, bools, mat]
        rw [hd, hd2, digM_drop w (i := i) (by omega), digM_drop u (i := i) (by omega), farM, if_pos h, Int.zero_add]
@[go_sem] theorem and1_norm {x : Int} (h : 0 ≤ x) : ((x.toNat &&& (1 : Int).toNat : Nat) : Int) = x % 2 := by
  rw [show (1 : Int).toNat = 1 from rfl, and_one_toNat]; omega
theorem binA_shr_u {k : IntKind} {a b : Int} (h : 0 ≤ b) (h' : b ≤ 63) : binA .shr (.d (.v (.int .u64 a))) (.d (.v (.int k b))) = some (.d (.v (.int .u64 (a / 2 ^ b.toNat)))) := by
  have e : min b.toNat 64 = b.toNat := by omega
  have h1 : (0 : Int) ≤ 2 ^ b.toNat := Int.pow_nonneg (by omega)
  simp only [binA, binI, BinOp.isShift, true_or, if_true, if_neg (show ¬ b < 0 by omega), IntKind.bits, e, Option.map_some, Int.fdiv_eq_ediv_of_nonneg _ h1]
theorem ofInt_nat_u {a : Int} (h : 0 ≤ a) (h' : a < 18446744073709551616) : (BitVec.ofInt 64 a).toNat = a.toNat := by
  rw [BitVec.toNat_ofInt]; omega
theorem binA_and_u {a b : Int} (h : 0 ≤ a) (h1 : a < 18446744073709551616) (h2 : 0 ≤ b) (h3 : b < 18446744073709551616) :
    binA .and (.d (.v (.int .u64 a))) (.d (.v (.int .u64 b))) = some (.d (.v (.int .u64 ((a.toNat &&& b.toNat : Nat) : Int)))) := by
  have e : (BitVec.ofInt 64 a &&& BitVec.ofInt 64 b).toNat = a.toNat &&& b.toNat := by rw [BitVec.toNat_and, ofInt_nat_u h h1, ofInt_nat_u h2 h3]
  have hl : a.toNat &&& b.toNat < 18446744073709551616 := Nat.lt_of_le_of_lt Nat.and_le_left (by omega)
  have e2 : binI .and .u64 a b = some (.int .u64 (IntKind.wrap .u64 ((BitVec.ofInt 64 a &&& BitVec.ofInt 64 b).toNat : Nat))) := rfl
  simp only [binA, e2, BinOp.isShift, or_true, if_true, e, Option.map_some, wrap_u64 (x := ((a.toNat &&& b.toNat : Nat) : Int)) (by omega) (by omega)]
theorem binA_add_u {a b : Int} (h : 0 ≤ a + b) (h1 : a + b < 18446744073709551616) : binA .add (.d (.v (.int .u64 a))) (.d (.v (.int .u64 b))) = some (.d (.v (.int .u64 (a + b)))) := by
  rw [binA_add, wrap_u64 h h1]
def isCodeM (l c : List Int) : Bool := areW l c && (List.range (c.length - 1)).all fun j => decide (c.getD j 0 < c.getD (j + 1) 0)
theorem isCodeM_ok (l c : List Int) : isCodeM l c = true ↔ (∀ j, j < c.length → 0 ≤ c.getD j 0 ∧ c.getD j 0 < prodM l) ∧ ∀ j, j + 1 < c.length → c.getD j 0 < c.getD (j + 1) 0 := by
  simp only [isCodeM, Bool.and_eq_true, areW_ok, List.all_eq_true, List.mem_range, decide_eq_true_eq]
  constructor
  · rintro ⟨h1, h2⟩; exact ⟨h1, fun j hj => h2 j (by omega)⟩
  · rintro ⟨h1, h2⟩; exact ⟨h1, fun j hj => h2 j (by omega)⟩
theorem isCodeM_ge {l c : List Int} (h : isCodeM l c = true) : ∀ j : Nat, j < c.length → (j : Int) ≤ c.getD j 0
  | 0, hj => by have := ((isCodeM_ok l c).1 h).1 0 hj; simpa using this.1
  | j + 1, hj => by have := isCodeM_ge h j (by omega); have := ((isCodeM_ok l c).1 h).2 j hj; omega
theorem isCodeM_len {l c : List Int} (h : isCodeM l c = true) : (c.length : Int) ≤ prodM l ∨ c.length = 0 := by
  rcases Nat.eq_zero_or_pos c.length with h0 | h0
  · exact .inr h0
  · have h1 := isCodeM_ge h (c.length - 1) (by omega)
    have h2 := ((isCodeM_ok l c).1 h).1 (c.length - 1) (by omega)
    left; omega
theorem d_impl_isCode (l : List Int) (hs : isSpaceM l = true) (c : List Int) (hc : c.length < 1048577) : Den PA f_impl_isCode [.d (.agg [ints l]), .d (ints c)] [.any, .any] (.d (db (isCodeM l c))) := by
  have e := isCodeM_ok l c
  have hp1 := prodM_pos (isSpaceM_szs hs)
  refine den_go [] l_impl_isCode ?_
  simp -implicitDefEqProofs (maxSteps := 1000000) (disch := (first | omega | (simp only [go_sem] <;> omega) | fail)) only [go_sem, ints, bools, mat, c_impl_isCode]
  first | refine goC_call [.r] (d_impl_count l hs) ?_ | refine goOC_call [.r] (d_impl_count l hs) ?_
  repeat' (first | simp -implicitDefEqProofs (maxSteps := 1000000) (disch := (first | omega | (simp only [go_sem] <;> omega) | fail)) only [go_sem, ints, bools, mat] | ((first | apply goIf_b | apply goG_b | apply goTG_b | apply goOG_b) <;> intro h <;> ((try simp only [hnq] at h); (try simp only [h]); (try simp only [hnr] at h))))
  rotate_left
  · exact dbF fun h' => by have := isCodeM_len (l := l) (c := c) h'; omega
  first | refine goC_call [.r, .r] (d_impl_areWords l hs _ c (.inl rfl) hc) ?_ | refine goOC_call [.r, .r] (d_impl_areWords l hs _ c (.inl rfl) hc) ?_
  repeat' (first | simp -implicitDefEqProofs (maxSteps := 1000000) (disch := (first | omega | (simp only [go_sem] <;> omega) | fail)) only [go_sem, ints, bools, mat] | ((first | apply goIf_b | apply goG_b | apply goTG_b | apply goOG_b) <;> intro h <;> ((try simp only [hnq] at h); (try simp only [h]); (try simp only [hnr] at h))))
  rotate_left
  · refine dbF fun h' => ?_
    have := (areW_ok l c).2 (e.1 h').1
    rw [h] at this; cases this
  have hw := (areW_ok l c).1 h
  refine go_loop (fun (j : Nat) => ⟨[(1, .d (ints c)), (5, .d (di ((j + 1 : Nat) : Int)))], []⟩) (fun j => (j + 1 ≤ c.length ∨ j = 0) ∧ ∀ i, i < j → c.getD i 0 < c.getD (i + 1) 0) (fun j => c.length - j) 0 ?_ ?_ ?_
  · (simp -implicitDefEqProofs (maxSteps := 1000000) (disch := (first | omega | (simp only [go_sem] <;> omega) | fail)) only [go_sem, ints, bools, mat] <;> rfl)
  · simp
  · rintro j ⟨hj, hi⟩ J hJ
    repeat' (first | simp -implicitDefEqProofs (maxSteps := 1000000) (disch := (first | omega | (simp only [go_sem] <;> omega) | fail)) only [go_sem, ints, bools, mat] | ((first | apply goIf_b | apply goG_b | apply goTG_b | apply goOG_b) <;> intro h <;> ((try simp only [hnq] at h); (try simp only [h]); (try simp only [hnr] at h)) <;> (try (exfalso; omega))))
    · exact dbF fun h' => by have := (e.1 h').2 j (by omega); omega
    · refine hJ (j + 1) ⟨.inl (by omega), all_ext hi (by omega)⟩ (by omega) _ (by (simp -implicitDefEqProofs (maxSteps := 1000000) (disch := (first | omega | (simp only [go_sem] <;> omega) | fail)) only [go_sem, ints, bools, mat] <;> rfl))
    · exact dbT (e.2 ⟨hw, fun i hi' => hi i (by omega)⟩)
abbrev gcM (l c ws : List Int) : Int := if wcM l ws = 0 then (if isCodeM l c then 0 else 2) else wcM l ws
theorem wcM_space {l ws : List Int} (h : wcM l ws = 0) : isSpaceM l = true ∧ areW l ws = true := by
  unfold wcM at h
  split at h
  · rename_i hs
    split at h
    · rename_i hw; exact ⟨hs, hw⟩
    · cases h
  · cases h
theorem gcM_ok {l c ws : List Int} (h : gcM l c ws = 0) : isSpaceM l = true ∧ areW l ws = true ∧ isCodeM l c = true := by
  unfold gcM at h
  split at h
  · rename_i hw
    split at h
    · rename_i hc; exact ⟨(wcM_space hw).1, (wcM_space hw).2, hc⟩
    · cases h
  · rename_i hw; exact (hw h).elim
theorem d_impl_codeCode (l : List Int) (hl : l.length < 1048577) (c : List Int) (hc : c.length < 1048577) (x : D) (ws : List Int) (hx : IsInts x ws) (hw : ws.length < 1048577) :
    Den PA f_impl_codeCode [.d (.agg [ints l]), .d (ints c), .d x] [.any, .any, .any] (.d (di (gcM l c ws))) := by
  refine den_go [] l_impl_codeCode ?_
  simp -implicitDefEqProofs (maxSteps := 1000000) (disch := (first | omega | (simp only [go_sem] <;> omega) | fail)) only [go_sem, ints, bools, mat, c_impl_codeCode, gcM]
  first | refine goC_call [.r, .r] (d_impl_wordCode l hl x ws hx hw) ?_ | refine goOC_call [.r, .r] (d_impl_wordCode l hl x ws hx hw) ?_
  by_cases h : wcM l ws = 0
  · rw [h]
    repeat' (first | simp -implicitDefEqProofs (maxSteps := 1000000) (disch := (first | omega | (simp only [go_sem] <;> omega) | fail)) only [go_sem, ints, bools, mat] | ((first | apply goIf_b | apply goG_b | apply goTG_b | apply goOG_b) <;> intro h <;> ((try simp only [hnq] at h); (try simp only [h]); (try simp only [hnr] at h))))
    first | refine goC_call [.r, .r] (d_impl_isCode l (wcM_space h).1 c hc) ?_ | refine goOC_call [.r, .r] (d_impl_isCode l (wcM_space h).1 c hc) ?_
    repeat' (first | simp -implicitDefEqProofs (maxSteps := 1000000) (disch := (first | omega | (simp only [go_sem] <;> omega) | fail)) only [go_sem, ints, bools, mat] | ((first | apply goIf_b | apply goG_b | apply goTG_b | apply goOG_b) <;> intro h <;> ((try simp only [hnq] at h); (try simp only [h]); (try simp only [hnr] at h))))
  · rw [if_neg h]
    generalize wcM l ws = a at h
    repeat' (first | simp -implicitDefEqProofs (maxSteps := 1000000) (disch := (first | omega | (simp only [go_sem] <;> omega) | fail)) only [go_sem, ints, bools, mat] | ((first | apply goIf_b | apply goG_b | apply goTG_b | apply goOG_b) <;> intro h <;> ((try simp only [hnq] at h); (try simp only [h]); (try simp only [hnr] at h))))
    omega
theorem wcM_nil (l : List Int) : wcM l [] = if isSpaceM l then 0 else 1 := by simp [wcM, areW]
abbrev ggM (l c : List Int) : Int := if isSpaceM l then (if isCodeM l c then 0 else 2) else 1
theorem gcM_nil (l c : List Int) : gcM l c [] = ggM l c := by
  simp only [gcM, wcM_nil]
  by_cases h : isSpaceM l = true
  · simp [h]
  · simp [h]
theorem ggM_ok {l c : List Int} (h : ggM l c = 0) : isSpaceM l = true ∧ isCodeM l c = true := by
  rw [← gcM_nil] at h; exact ⟨(gcM_ok h).1, (gcM_ok h).2.2⟩
theorem d_impl_isRadius (r : Int) : Den PA f_impl_isRadius [.d (di r)] [.any] (.d (db (decide (0 ≤ r) && decide (r ≤ 8)))) := by
  refine den_go [] l_impl_isRadius ?_
  repeat' (first | simp -implicitDefEqProofs (maxSteps := 1000000) (disch := (first | omega | (simp only [go_sem] <;> omega) | fail)) only [go_sem, ints, bools, mat, c_impl_isRadius] | ((first | apply goIf_b | apply goG_b | apply goTG_b | apply goOG_b) <;> intro h <;> ((try simp only [hnq] at h); (try simp only [h]); (try simp only [hnr] at h))))
abbrev scM5 (l c ws : List Int) : Int := if gcM l c ws = 0 then (if c.length = 0 then 5 else 0) else gcM l c ws
theorem d_impl_someCode (l : List Int) (hl : l.length < 1048577) (c : List Int) (hc : c.length < 1048577) (x : D) (ws : List Int) (hx : IsInts x ws) (hw : ws.length < 1048577) :
    Den PA f_impl_someCode [.d (.agg [ints l]), .d (ints c), .d x] [.any, .any, .any] (.d (di (scM5 l c ws))) := by
  refine den_go [] l_impl_someCode ?_
  simp -implicitDefEqProofs (maxSteps := 1000000) (disch := (first | omega | (simp only [go_sem] <;> omega) | fail)) only [go_sem, ints, bools, mat, c_impl_someCode, scM5]
  first | refine goC_call [.r, .r, .r] (d_impl_codeCode l hl c hc x ws hx hw) ?_ | refine goOC_call [.r, .r, .r] (d_impl_codeCode l hl c hc x ws hx hw) ?_
  by_cases h : gcM l c ws = 0
  · rw [h]
    repeat' (first | simp -implicitDefEqProofs (maxSteps := 1000000) (disch := (first | omega | (simp only [go_sem] <;> omega) | fail)) only [go_sem, ints, bools, mat] | ((first | apply goIf_b | apply goG_b | apply goTG_b | apply goOG_b) <;> intro h <;> ((try simp only [hnq] at h); (try simp only [h]); (try simp only [hnr] at h))))
    · rw [if_pos (by omega)]
    · rw [if_neg (by omega)]
  · rw [if_neg h]
    generalize gcM l c ws = a at h
    repeat' (first | simp -implicitDefEqProofs (maxSteps := 1000000) (disch := (first | omega | (simp only [go_sem] <;> omega) | fail)) only [go_sem, ints, bools, mat] | ((first | apply goIf_b | apply goG_b | apply goTG_b | apply goOG_b) <;> intro h <;> ((try simp only [hnq] at h); (try simp only [h]); (try simp only [hnr] at h))))
    all_goals (exfalso; omega)
theorem flat_dig (ds : List (List Int)) : flat (ds.map fun d => D.agg ((pad8 d).map dy)) = ds.flatMap fun d => (pad8 d).map dy := by
  induction ds with
  | nil => rfl
  | cons d r ih => simp only [flat, List.map_cons, List.flatMap_cons] at ih ⊢; rw [ih]; rfl
theorem drop_dig (ds : List (List Int)) : ∀ i, i < ds.length → ((ds.flatMap fun d => (pad8 d).map dy).drop (i * 8)).take 8 = (pad8 (ds.getD i [])).map dy := by
  induction ds with
  | nil => intro i hi; simp at hi
  | cons d r ih =>
    intro i hi
    rcases i with _ | i
    · rw [List.flatMap_cons, Nat.zero_mul, List.drop_zero, List.take_left' (by simp [pad8_len])]; rfl
    · rw [List.flatMap_cons, Nat.succ_mul, Nat.add_comm, ← List.drop_drop, List.drop_left' (by simp [pad8_len]), ih i (by simpa using hi)]; rfl
theorem len_dig (ds : List (List Int)) : (ds.flatMap fun d => (pad8 d).map dy).length = ds.length * 8 := by
  induction ds with
  | nil => rfl
  | cons d r ih => simp [List.flatMap_cons, ih, Nat.succ_mul, Nat.add_comm, pad8_len]
abbrev digs (ds : List (List Int)) : List D := ds.map fun d => D.agg ((pad8 d).map dy)
@[go_sem] theorem ldC_dig {ds : List (List Int)} {i : Nat} (h : i < ds.length) : ldC true 8 (flat (ds.map fun d => D.agg ((pad8 d).map dy))) (i * 8) = some (.d (.agg ((pad8 (ds.getD i [])).map dy))) := by
  rw [flat_dig]
  have h1 := drop_dig ds i h
  have h2 := len_dig ds
  unfold ldC
  rw [if_pos rfl]
  split
  · rename_i hc
    rw [hc.1, List.drop_zero, List.take_of_length_le (by omega)] at h1
    rw [h1]
  · rw [if_pos (by omega), h1]
@[go_sem] theorem get_dig {ds : List (List Int)} {i : Nat} (h : i < ds.length) : (ds.map fun d => D.agg ((pad8 d).map dy))[i]? = some (D.agg ((pad8 (ds.getD i [])).map dy)) := by simp [h]
@[go_sem] theorem app_dig (ds : List (List Int)) (d : List Int) : (ds.map fun d => D.agg ((pad8 d).map dy)) ++ [D.agg ((pad8 d).map dy)] = (ds ++ [d]).map fun d => D.agg ((pad8 d).map dy) := by simp
@[go_sem] theorem mul_mod8 (i : Nat) : i * 8 % 8 = 0 := Nat.mul_mod_left i 8
@[go_sem] theorem mul_div8 (i : Nat) : i * 8 / 8 = i := by omega
def digsM (l c : List Int) : List (List Int) := c.map (digM l)
@[go_sem] theorem digsM_len (l c : List Int) : (digsM l c).length = c.length := by simp [digsM]
theorem digsM_get (l c : List Int) {i : Nat} (h : i < c.length) : (digsM l c).getD i [] = digM l (c.getD i 0) := by simp [digsM, h]
theorem digsM_step (l c : List Int) {j : Nat} (h : j < c.length) : digsM l (c.take (j + 1)) = digsM l (c.take j) ++ [digM l (c.getD j 0)] := by
  rw [take_one c h]; simp [digsM]
theorem d_impl_digitsOfAll (l : List Int) (hs : isSpaceM l = true) (c : List Int) (hc : c.length < 1048577) (hz : ∀ j, j < c.length → 0 ≤ c.getD j 0 ∧ c.getD j 0 < 1000000000000) :
    Den PA f_impl_digitsOfAll [.d (.agg [ints l]), .d (ints c)] [.any, .any] (.own 8 (digs (digsM l c))) := by
  refine den_go [] l_impl_digitsOfAll ?_
  repeat' (first | simp -implicitDefEqProofs (maxSteps := 1000000) (disch := (first | omega | (simp only [go_sem] <;> omega) | fail)) only [go_sem, ints, bools, mat, c_impl_digitsOfAll] | ((first | apply goIf_b | apply goG_b | apply goTG_b | apply goOG_b) <;> intro h <;> ((try simp only [hnq] at h); (try simp only [h]); (try simp only [hnr] at h))))
  refine go_loop (fun (j : Nat) => ⟨[(2, .ref 0 0), (5, .sl 1 0 j 8), (9, .d (ints c)), (10, .d (di c.length)), (11, .d (di j))], [some (.var [ints l]), some (.dat 8 (digs (digsM l (c.take j))))]⟩) (fun j => j ≤ c.length) (fun j => c.length - j) 0 ?_ ?_ ?_
  · (simp -implicitDefEqProofs (maxSteps := 1000000) (disch := (first | omega | (simp only [go_sem] <;> omega) | fail)) only [go_sem, ints, bools, mat] <;> rfl)
  · simp
  · rintro j hj J hJ
    have hst := fun h => digsM_step l c (j := j) h
    have hlen : (c.take j).length = j := by simp; omega
    have hlen2 : (digsM l (c.take j)).length = j := by rw [digsM_len]; exact hlen
    repeat' (first | simp -implicitDefEqProofs (maxSteps := 1000000) (disch := (first | omega | (simp only [go_sem] <;> omega) | fail)) only [go_sem, ints, bools, mat] | ((first | apply goIf_b | apply goG_b | apply goTG_b | apply goOG_b) <;> intro h <;> ((try simp only [hnq] at h); (try simp only [h]); (try simp only [hnr] at h))))
    · first | refine goC_call [.r, .r] (d_impl_digitsOf l hs (c.getD j 0) (hz j (by omega)).1 (hz j (by omega)).2) ?_ | refine goOC_call [.r, .r] (d_impl_digitsOf l hs (c.getD j 0) (hz j (by omega)).1 (hz j (by omega)).2) ?_
      repeat' (first | simp -implicitDefEqProofs (maxSteps := 1000000) (disch := (first | omega | (simp only [go_sem] <;> omega) | fail)) only [go_sem, ints, bools, mat] | ((first | apply goIf_b | apply goG_b | apply goTG_b | apply goOG_b) <;> intro h <;> ((try simp only [hnq] at h); (try simp only [h]); (try simp only [hnr] at h))))
      refine hJ (j + 1) (by omega) (by omega) _ ?_
      simp -implicitDefEqProofs (maxSteps := 1000000) (disch := (first | omega | (simp only [go_sem] <;> omega) | fail)) only [go_sem, ints, bools, mat]
      rw [hst (by omega)]; rfl
def allW (l : List Int) : List Int := (List.range (prodM l).toNat).map fun (w : Nat) => (w : Int)
@[go_sem] theorem allW_len (l : List Int) : (allW l).length = (prodM l).toNat := by simp [allW]
theorem allW_get (l : List Int) {i : Nat} (h : i < (prodM l).toNat) : (allW l).getD i 0 = i := by simp [allW, h]
theorem take_allW (l : List Int) {j : Nat} (h : j < (prodM l).toNat) : (allW l).take (j + 1) = (allW l).take j ++ [(j : Int)] := by
  rw [take_one _ (by rw [allW_len]; exact h), allW_get l h]
theorem d_impl_allDigits (l : List Int) (hs : isSpaceM l = true) : Den PA f_impl_allDigits [.d (.agg [ints l])] [.any] (.own 8 (digs (digsM l (allW l)))) := by
  have hn := isSpaceM_n hs
  have hp := isSpaceM_prod hs
  have hp1 := prodM_pos (isSpaceM_szs hs)
  refine den_go [] l_impl_allDigits ?_
  repeat' (first | simp -implicitDefEqProofs (maxSteps := 1000000) (disch := (first | omega | (simp only [go_sem] <;> omega) | fail)) only [go_sem, ints, bools, mat, c_impl_allDigits] | ((first | apply goIf_b | apply goG_b | apply goTG_b | apply goOG_b) <;> intro h <;> ((try simp only [hnq] at h); (try simp only [h]); (try simp only [hnr] at h))))
  first | refine goC_call [.r] (d_impl_count l hs) ?_ | refine goOC_call [.r] (d_impl_count l hs) ?_
  repeat' (first | simp -implicitDefEqProofs (maxSteps := 1000000) (disch := (first | omega | (simp only [go_sem] <;> omega) | fail)) only [go_sem, ints, bools, mat] | ((first | apply goIf_b | apply goG_b | apply goTG_b | apply goOG_b) <;> intro h <;> ((try simp only [hnq] at h); (try simp only [h]); (try simp only [hnr] at h))))
  refine go_loop (fun (j : Nat) => ⟨[(1, .ref 0 0), (3, .sl 1 0 j 8), (7, .d (di (prodM l))), (8, .d (di j))], [some (.var [ints l]), some (.dat 8 (digs (digsM l ((allW l).take j))))]⟩) (fun j => j ≤ (prodM l).toNat) (fun j => (prodM l).toNat - j) 0 ?_ ?_ ?_
  · (simp -implicitDefEqProofs (maxSteps := 1000000) (disch := (first | omega | (simp only [go_sem] <;> omega) | fail)) only [go_sem, ints, bools, mat] <;> rfl)
  · simp
  · rintro j hj J hJ
    have hal := allW_len l
    have hlen2 : (digsM l ((allW l).take j)).length = j := by rw [digsM_len, List.length_take, hal]; omega
    have hlen3 : (digsM l (allW l)).length = (prodM l).toNat := by rw [digsM_len, hal]
    repeat' (first | simp -implicitDefEqProofs (maxSteps := 1000000) (disch := (first | omega | (simp only [go_sem] <;> omega) | fail)) only [go_sem, ints, bools, mat] | ((first | apply goIf_b | apply goG_b | apply goTG_b | apply goOG_b) <;> intro h <;> ((try simp only [hnq] at h); (try simp only [h]); (try simp only [hnr] at h))))
    · first | refine goC_call [.r, .r] (d_impl_digitsOf l hs j (by omega) (by omega)) ?_ | refine goOC_call [.r, .r] (d_impl_digitsOf l hs j (by omega) (by omega)) ?_
      repeat' (first | simp -implicitDefEqProofs (maxSteps := 1000000) (disch := (first | omega | (simp only [go_sem] <;> omega) | fail)) only [go_sem, ints, bools, mat] | ((first | apply goIf_b | apply goG_b | apply goTG_b | apply goOG_b) <;> intro h <;> ((try simp only [hnq] at h); (try simp only [h]); (try simp only [hnr] at h))))
      refine hJ (j + 1) (by omega) (by omega) _ ?_
      simp -implicitDefEqProofs (maxSteps := 1000000) (disch := (first | omega | (simp only [go_sem] <;> omega) | fail)) only [go_sem, ints, bools, mat]
      rw [digsM_step _ _ (by rw [hal]; omega), allW_get l (by omega)]; rfl
abbrev lstR (b : Int) (v : List Int) : R := if b = 0 then .tup [.own 1 (v.map di), .d (di 0)] else .tup [.d nil, .d (di b)]
theorem lstR_ok {b : Int} {v : List Int} (h : b = 0) : lstR b v = .tup [.own 1 (v.map di), .d (di 0)] := by simp [lstR, h]
theorem lstR_no {b : Int} {v : List Int} (h : ¬ b = 0) : lstR b v = .tup [.d nil, .d (di b)] := by simp [lstR, h]
def histS (o : List Int) (d : Int) : List Int := o.set d.toNat (o.getD d.toNat 0 + 1)
def hist (n : Nat) (ds : List Int) : List Int := ds.foldl histS (List.replicate n 0)
theorem foldl_hist_len (ds : List Int) : ∀ o : List Int, (ds.foldl histS o).length = o.length := by
  induction ds with
  | nil => intro o; rfl
  | cons d r ih => intro o; rw [List.foldl_cons, ih]; simp [histS]
@[go_sem] theorem hist_len (n : Nat) (ds : List Int) : (hist n ds).length = n := by rw [hist, foldl_hist_len]; simp
theorem isCodeM_get {l c : List Int} (h : isCodeM l c = true) {j : Nat} (hj : j < c.length) : 0 ≤ c.getD j 0 ∧ c.getD j 0 < prodM l := ((isCodeM_ok l c).1 h).1 j hj
theorem d_impl_codeCode0 (l : List Int) (hl : l.length < 1048577) (c : List Int) (hc : c.length < 1048577) :
    Den PA f_impl_codeCode [.d (.agg [ints l]), .d (ints c), .d nil] [.any, .any, .any] (.d (di (ggM l c))) := by
  rw [← gcM_nil]; exact d_impl_codeCode l hl c hc nil [] (.inr ⟨rfl, rfl⟩) (by simp)
theorem farM_comm : ∀ (a b : List Int), farM a b = farM b a
  | [], [] => rfl
  | [], _ :: _ => rfl
  | _ :: _, [] => rfl
  | x :: a, y :: b => by
    simp only [farM, farM_comm a b]
    by_cases h : x = y
    · simp [h]
    · rw [if_neg h, if_neg (fun e => h e.symm)]
theorem distM_comm (l : List Int) (u w : Int) : distM l u w = distM l w u := farM_comm _ _
theorem code_small {l c : List Int} (hs : isSpaceM l = true) (hcc : isCodeM l c = true) : ∀ j, j < c.length → 0 ≤ c.getD j 0 ∧ c.getD j 0 < 1000000000000 := fun j hj => by
  have := isCodeM_get hcc hj; have := isSpaceM_prod hs; omega
attribute [go_sem] Nat.sub_zero
def mn2 (a b : Int) : Int := if b < a then b else a
theorem le_mn2 (d a b : Int) : d ≤ mn2 a b ↔ d ≤ a ∧ d ≤ b := by unfold mn2; split <;> omega
def minD (l c : List Int) (w a : Int) : Nat → Int
  | 0 => a
  | k + 1 => mn2 (minD l c w a k) (distM l w (c.getD k 0))
theorem le_minD (l c : List Int) (w a d : Int) : ∀ k : Nat, d ≤ minD l c w a k ↔ d ≤ a ∧ ∀ i, i < k → d ≤ distM l w (c.getD i 0)
  | 0 => by simp [minD]
  | k + 1 => by
    rw [minD, le_mn2, le_minD l c w a d k]
    constructor
    · rintro ⟨⟨h1, h2⟩, h3⟩; exact ⟨h1, all_ext h2 h3⟩
    · rintro ⟨h1, h2⟩; exact ⟨⟨h1, fun i hi => h2 i (by omega)⟩, h2 k (by omega)⟩
theorem minD_le (l c : List Int) (w a : Int) (k : Nat) : minD l c w a k ≤ a := ((le_minD l c w a _ k).1 (Int.le_refl _)).1
@[go_sem] theorem mnA_mn2 (a b : Int) : mnA (.d (di a)) (.d (di b)) = some (.d (di (mn2 a b))) := rfl
theorem d_impl_farness (l c : List Int) (hs : isSpaceM l = true) (hc : c.length < 1048577) (hz : ∀ j, j < c.length → 0 ≤ c.getD j 0 ∧ c.getD j 0 < 1000000000000) :
    Den PA f_impl_farness [.d (.agg [ints l]), .d (ints c)] [.any, .any] (.own 1 (((allW l).map fun w => minD l c w 8 c.length).map di)) := by
  have hn := isSpaceM_n hs
  have hp := isSpaceM_prod hs
  have hp1 := prodM_pos (isSpaceM_szs hs)
  have hal := allW_len l
  refine den_go [] l_impl_farness ?_
  repeat' (first | simp -implicitDefEqProofs (maxSteps := 1000000) (disch := (first | omega | (simp only [go_sem] <;> omega) | fail)) only [go_sem, ints, bools, mat, c_impl_farness] | ((first | apply goIf_b | apply goG_b | apply goTG_b | apply goOG_b) <;> intro h <;> ((try simp only [hnq] at h); (try simp only [h]); (try simp only [hnr] at h))))
  first | refine goC_call [.r, .r] (d_impl_digitsOfAll l hs c hc hz) ?_ | refine goOC_call [.r, .r] (d_impl_digitsOfAll l hs c hc hz) ?_
  repeat' (first | simp -implicitDefEqProofs (maxSteps := 1000000) (disch := (first | omega | (simp only [go_sem] <;> omega) | fail)) only [go_sem, ints, bools, mat] | ((first | apply goIf_b | apply goG_b | apply goTG_b | apply goOG_b) <;> intro h <;> ((try simp only [hnq] at h); (try simp only [h]); (try simp only [hnr] at h))))
  first | refine goC_call [.r] (d_impl_allDigits l hs) ?_ | refine goOC_call [.r] (d_impl_allDigits l hs) ?_
  repeat' (first | simp -implicitDefEqProofs (maxSteps := 1000000) (disch := (first | omega | (simp only [go_sem] <;> omega) | fail)) only [go_sem, ints, bools, mat] | ((first | apply goIf_b | apply goG_b | apply goTG_b | apply goOG_b) <;> intro h <;> ((try simp only [hnq] at h); (try simp only [h]); (try simp only [hnr] at h))))
  refine go_loop (fun (j : Nat) => ⟨[(5, .sl 0 0 c.length 8), (6, .sl 1 0 j 1), (17, .sl 2 0 (prodM l).toNat 8), (18, .d (di (prodM l).toNat)), (19, .d (di j))], [some (.dat 8 (digs (digsM l c))), some (.dat 1 ((((allW l).take j).map fun w => minD l c w 8 c.length).map di)), some (.dat 8 (digs (digsM l (allW l))))]⟩) (fun j => j ≤ (prodM l).toNat) (fun j => (prodM l).toNat - j) 0 ?_ ?_ ?_
  · (simp -implicitDefEqProofs (maxSteps := 1000000) (disch := (first | omega | (simp only [go_sem] <;> omega) | fail)) only [go_sem, ints, bools, mat] <;> rfl)
  · simp
  · rintro j hj J hJ
    have hg := fun h => digsM_get l (allW l) (i := j) h
    have hw := fun h => allW_get l (i := j) h
    have hln : (((allW l).take j).map fun w => minD l c w 8 c.length).length = j := by simp [hal]; omega
    repeat' (first | simp -implicitDefEqProofs (maxSteps := 1000000) (disch := (first | omega | (simp only [go_sem] <;> omega) | fail)) only [go_sem, ints, bools, mat] | ((first | apply goIf_b | apply goG_b | apply goTG_b | apply goOG_b) <;> intro h <;> ((try simp only [hnq] at h); (try simp only [h]); (try simp only [hnr] at h))))
    · rw [hg (by omega), hw (by omega)]
      refine go_loop (fun (k : Nat) => ⟨[(5, .sl 0 0 c.length 8), (6, .sl 1 0 j 1), (8, .ref 2 0), (9, .d (di (minD l c j 8 k))), (17, .sl 3 0 (prodM l).toNat 8), (18, .d (di (prodM l).toNat)), (19, .d (di j)), (23, .sl 0 0 c.length 8), (24, .d (di c.length)), (25, .d (di k))], [some (.dat 8 (digs (digsM l c))), some (.dat 1 ((((allW l).take j).map fun w => minD l c w 8 c.length).map di)), some (.var ((pad8 (digM l j)).map dy)), some (.dat 8 (digs (digsM l (allW l))))]⟩) (fun k => k ≤ c.length) (fun k => c.length - k) 0 ?_ ?_ ?_
      · (simp -implicitDefEqProofs (maxSteps := 1000000) (disch := (first | omega | (simp only [go_sem] <;> omega) | fail)) only [go_sem, ints, bools, mat] <;> rfl)
      · simp
      · rintro k hk K hK
        have hg2 := fun h => digsM_get l c (i := k) h
        repeat' (first | simp -implicitDefEqProofs (maxSteps := 1000000) (disch := (first | omega | (simp only [go_sem] <;> omega) | fail)) only [go_sem, ints, bools, mat] | ((first | apply goIf_b | apply goG_b | apply goTG_b | apply goOG_b) <;> intro h <;> ((try simp only [hnq] at h); (try simp only [h]); (try simp only [hnr] at h))))
        · rw [hg2 (by omega)]
          first | refine goC_call [.r, .r] (d_impl_far (digM l j) (digM l (c.getD k 0)) (by rw [digM_len, digM_len]) (by rw [digM_len]; omega)) ?_ | refine goOC_call [.r, .r] (d_impl_far (digM l j) (digM l (c.getD k 0)) (by rw [digM_len, digM_len]) (by rw [digM_len]; omega)) ?_
          repeat' (first | simp -implicitDefEqProofs (maxSteps := 1000000) (disch := (first | omega | (simp only [go_sem] <;> omega) | fail)) only [go_sem, ints, bools, mat] | ((first | apply goIf_b | apply goG_b | apply goTG_b | apply goOG_b) <;> intro h <;> ((try simp only [hnq] at h); (try simp only [h]); (try simp only [hnr] at h))))
          refine hK (k + 1) (by omega) (by omega) _ ?_
          simp -implicitDefEqProofs (maxSteps := 1000000) (disch := (first | omega | (simp only [go_sem] <;> omega) | fail)) only [go_sem, ints, bools, mat]
          rfl
        · have : k = c.length := by omega
          subst this
          refine hJ (j + 1) (by omega) (by omega) _ ?_
          simp -implicitDefEqProofs (maxSteps := 1000000) (disch := (first | omega | (simp only [go_sem] <;> omega) | fail)) only [go_sem, ints, bools, mat]
          rw [take_allW l (by omega)]; simp
def mx2 (a b : Int) : Int := if a < b then b else a
@[go_sem] theorem mxA_mx2 (a b : Int) : mxA (.d (di a)) (.d (di b)) = some (.d (di (mx2 a b))) := rfl
theorem chk_intro {c p : Prop} (h : c) (k : p) : chk c p := ⟨h, k⟩
theorem fnOK_mk {P : Program} {sto : Sto} {f : FuncId} {caps : List AV} {g : List D → Value → Prop} (h : okF P f) (boxes : List (List D)) (hb : caps.map (boxR sto) = boxes.map some) (hg : ∀ ds r, g ds r → ∃ rs', Den P f (ds.map .d ++ boxes.map .box) rs' (.d (.v r))) :
    FnOK P sto (.fn f caps) g := ⟨h, boxes, hb, hg⟩
def fnD (n : Nat) (p : List Int → Bool) : List D → Value → Prop := fun ds r => ∃ a : List Int, a.length = n ∧ (∀ i, 0 ≤ a.getD i 0 ∧ a.getD i 0 < 4) ∧ ds = [D.agg ((pad8 a).map dy)] ∧ r = .bool (p a)
theorem digM_bnd : ∀ {l : List Int} (w : Int), szs l → ∀ i, 0 ≤ (digM l w).getD i 0 ∧ (digM l w).getD i 0 < 4
  | [], w, h, i => by simp [digM]
  | q :: r, w, h, 0 => by
    have h2 := h 0 (by simp)
    simp at h2
    have := mod_bnd (x := w / prodM r) h2
    simp [digM]; omega
  | q :: r, w, h, i + 1 => by simpa [digM] using digM_bnd w (szs_tail h) i
theorem fnD_mk {l : List Int} (hs : isSpaceM l = true) (p : List Int → Bool) (w : Int) : fnD l.length p [D.agg ((pad8 (digM l w)).map dy)] (.bool (p (digM l w))) := ⟨digM l w, digM_len l w, digM_bnd w (isSpaceM_szs hs), rfl, rfl⟩
def thoseM (l : List Int) (p : List Int → Bool) : List Int := (allW l).filter fun w => p (digM l w)
theorem filter_len_le {α : Type} (p : α → Bool) (l : List α) (n : Nat) (h : l.length ≤ n) : (l.filter p).length ≤ n := Nat.le_trans (List.length_filter_le p l) h
theorem d_impl_those (l : List Int) (hs : isSpaceM l = true) (p : List Int → Bool) (g : List D → Value → Prop) (hg : ∀ w, g [D.agg ((pad8 (digM l w)).map dy)] (.bool (p (digM l w)))) :
    Den PA f_impl_those [.d (.agg [ints l]), .pfn g] [.any, .any] (.own 1 ((thoseM l p).map di)) := by
  have hn := isSpaceM_n hs
  have hp := isSpaceM_prod hs
  have hp1 := prodM_pos (isSpaceM_szs hs)
  have hal := allW_len l
  refine den_go [] l_impl_those ?_
  repeat' (first | simp -implicitDefEqProofs (maxSteps := 1000000) (disch := (first | omega | (simp only [go_sem] <;> omega) | fail)) only [go_sem, ints, bools, mat, c_impl_those] | ((first | apply goIf_b | apply goG_b | apply goTG_b | apply goOG_b) <;> intro h <;> ((try simp only [hnq] at h); (try simp only [h]); (try simp only [hnr] at h))))
  first | refine goC_call [.r] (d_impl_allDigits l hs) ?_ | refine goOC_call [.r] (d_impl_allDigits l hs) ?_
  repeat' (first | simp -implicitDefEqProofs (maxSteps := 1000000) (disch := (first | omega | (simp only [go_sem] <;> omega) | fail)) only [go_sem, ints, bools, mat] | ((first | apply goIf_b | apply goG_b | apply goTG_b | apply goOG_b) <;> intro h <;> ((try simp only [hnq] at h); (try simp only [h]); (try simp only [hnr] at h))))
  refine go_loop (fun (j : Nat) => ⟨[(1, .pfn g), (5, .sl 0 0 (((allW l).take j).filter fun w => p (digM l w)).length 1), (10, .sl 1 0 (prodM l).toNat 8), (11, .d (di (prodM l).toNat)), (12, .d (di j))], [some (.dat 1 ((((allW l).take j).filter fun w => p (digM l w)).map di)), some (.dat 8 (digs (digsM l (allW l))))]⟩) (fun j => j ≤ (prodM l).toNat) (fun j => (prodM l).toNat - j) 0 ?_ ?_ ?_
  · (simp -implicitDefEqProofs (maxSteps := 1000000) (disch := (first | omega | (simp only [go_sem] <;> omega) | fail)) only [go_sem, ints, bools, mat] <;> rfl)
  · simp
  · rintro j hj J hJ
    have hgd := fun h => digsM_get l (allW l) (i := j) h
    have hw := fun h => allW_get l (i := j) h
    have hfl := filter_len_le (fun w => p (digM l w)) ((allW l).take j) j (by simp; omega)
    repeat' (first | simp -implicitDefEqProofs (maxSteps := 1000000) (disch := (first | omega | (simp only [go_sem] <;> omega) | fail)) only [go_sem, ints, bools, mat] | ((first | apply goIf_b | apply goG_b | apply goTG_b | apply goOG_b) <;> intro h <;> ((try simp only [hnq] at h); (try simp only [h]); (try simp only [hnr] at h))))
    · rw [hgd (by omega), hw (by omega)]
      refine goV_pfn [D.agg ((pad8 (digM l j)).map dy)] (.bool (p (digM l j))) (by simp -implicitDefEqProofs (maxSteps := 1000000) (disch := (first | omega | (simp only [go_sem] <;> omega) | fail)) only [go_sem, ints, bools, mat]) rfl (hg _) ?_
      repeat' (first | simp -implicitDefEqProofs (maxSteps := 1000000) (disch := (first | omega | (simp only [go_sem] <;> omega) | fail)) only [go_sem, ints, bools, mat] | ((first | apply goIf_b | apply goG_b | apply goTG_b | apply goOG_b) <;> intro h <;> ((try simp only [hnq] at h); (try simp only [h]); (try simp only [hnr] at h))))
      · refine hJ (j + 1) (by omega) (by omega) _ ?_
        simp -implicitDefEqProofs (maxSteps := 1000000) (disch := (first | omega | (simp only [go_sem] <;> omega) | fail)) only [go_sem, ints, bools, mat]
        rw [take_allW l (by omega), List.filter_append]; simp [h]
      · refine hJ (j + 1) (by omega) (by omega) _ ?_
        simp -implicitDefEqProofs (maxSteps := 1000000) (disch := (first | omega | (simp only [go_sem] <;> omega) | fail)) only [go_sem, ints, bools, mat]
        rw [take_allW l (by omega), List.filter_append]; simp [h]
    · have : j = (prodM l).toNat := by omega
      subst this
      repeat' (first | simp -implicitDefEqProofs (maxSteps := 1000000) (disch := (first | omega | (simp only [go_sem] <;> omega) | fail)) only [go_sem, ints, bools, mat] | ((first | apply goIf_b | apply goG_b | apply goTG_b | apply goOG_b) <;> intro h <;> ((try simp only [hnq] at h); (try simp only [h]); (try simp only [hnr] at h))))
      rfl
theorem d_spec_l04Code (l : List Int) (hl : l.length < 1048577) (d lo hi : Int) : Den PA f_spec_l04Code [.d (.agg [ints l]), .d (di d), .d (di lo), .d (di hi)] [.any, .any, .any, .any] (.d (di (if isSpaceM l then (if lo ≤ d ∧ d ≤ hi then 0 else 2) else 1))) := by
  refine den_go [] l_spec_l04Code ?_
  simp -implicitDefEqProofs (maxSteps := 1000000) (disch := (first | omega | (simp only [go_sem] <;> omega) | fail)) only [go_sem, ints, bools, mat, c_spec_l04Code]
  first | refine goC_call [.r] (d_spec_l01Is l hl) ?_ | refine goOC_call [.r] (d_spec_l01Is l hl) ?_
  repeat' (first | simp -implicitDefEqProofs (maxSteps := 1000000) (disch := (first | omega | (simp only [go_sem] <;> omega) | fail)) only [go_sem, ints, bools, mat] | ((first | apply goIf_b | apply goG_b | apply goTG_b | apply goOG_b) <;> intro h <;> ((try simp only [hnq] at h); (try simp only [h]); (try simp only [hnr] at h))))
  first | refine goC_call [.r, .r, .r] (d_spec_l01In d lo hi) ?_ | refine goOC_call [.r, .r, .r] (d_spec_l01In d lo hi) ?_
  repeat' (first | simp -implicitDefEqProofs (maxSteps := 1000000) (disch := (first | omega | (simp only [go_sem] <;> omega) | fail)) only [go_sem, ints, bools, mat] | ((first | apply goIf_b | apply goG_b | apply goTG_b | apply goOG_b) <;> intro h <;> ((try simp only [hnq] at h); (try simp only [h]); (try simp only [hnr] at h))))
  · rw [if_pos (by omega)]
  · rw [if_neg (by omega)]
theorem pad8_get {ds : List Int} (h : ds.length ≤ 8) (i : Nat) : (pad8 ds).getD i 0 = ds.getD i 0 := by
  rw [pad8_eq h, List.getD_eq_getElem?_getD, List.getElem?_append]
  split
  · rw [← List.getD_eq_getElem?_getD]
  · rename_i hge
    rw [List.getElem?_replicate]
    have : ds.getD i 0 = 0 := by simp [List.getD_eq_getElem?_getD, show ds[i]? = none by simp; omega]
    rw [this]; split <;> simp
def or2 (x d : Int) : Int := ((x.toNat ||| (2 ^ d.toNat : Int).toNat : Nat) : Int)
def orN (t a : List Int) : Nat → List Int
  | 0 => t
  | j + 1 => (orN t a j).set j (or2 ((orN t a j).getD j 0) (a.getD j 0))
@[go_sem] theorem orN_len (t a : List Int) : ∀ j, (orN t a j).length = t.length
  | 0 => rfl
  | j + 1 => by rw [orN, List.length_set, orN_len t a j]
def lsN (l c : List Int) : Nat → List Int
  | 0 => List.replicate l.length 0
  | j + 1 => orN (lsN l c j) (digM l (c.getD j 0)) l.length
@[go_sem] theorem lsN_len (l c : List Int) : ∀ j, (lsN l c j).length = l.length
  | 0 => by simp [lsN]
  | j + 1 => by rw [lsN, orN_len, lsN_len l c j]
abbrev sgM (l c : List Int) : Int := if ggM l c = 0 then (if c.length = 0 then 5 else 0) else ggM l c
theorem scM5_nil (l c : List Int) : scM5 l c [] = sgM l c := by simp only [scM5, gcM_nil]
theorem d_impl_someCode0 (l : List Int) (hl : l.length < 1048577) (c : List Int) (hc : c.length < 1048577) :
    Den PA f_impl_someCode [.d (.agg [ints l]), .d (ints c), .d nil] [.any, .any, .any] (.d (di (sgM l c))) := by
  rw [← scM5_nil]; exact d_impl_someCode l hl c hc nil [] (.inr ⟨rfl, rfl⟩) (by simp)
def cntN (l c : List Int) (r u : Int) : Nat → Int
  | 0 => 0
  | j + 1 => cntN l c r u j + (if distM l (c.getD j 0) u ≤ r then 1 else 0)
theorem cntN_bnd (l c : List Int) (r u : Int) : ∀ j : Nat, 0 ≤ cntN l c r u j ∧ cntN l c r u j ≤ j
  | 0 => by simp [cntN]
  | j + 1 => by have := cntN_bnd l c r u j; rw [cntN]; split <;> omega
def mixT (l c : List Int) (r : Int) (j k : Nat) : List Int := (List.range (prodM l).toNat).map fun (i : Nat) => cntN l c r i (if i < k then j + 1 else j)
@[go_sem] theorem mixT_len (l c : List Int) (r : Int) (j k : Nat) : (mixT l c r j k).length = (prodM l).toNat := by simp [mixT]
theorem mixT_get {l : List Int} (c : List Int) (r : Int) (j k : Nat) {i : Nat} (h : i < (prodM l).toNat) : (mixT l c r j k).getD i 0 = cntN l c r i (if i < k then j + 1 else j) := by simp [mixT, h]
theorem mixT_step (l c : List Int) (r : Int) (j k : Nat) (h : k < (prodM l).toNat) : (mixT l c r j k).set k (cntN l c r k (j + 1)) = mixT l c r j (k + 1) := by
  apply List.ext_getElem
  · simp [mixT]
  · intro i h1 h2
    simp [mixT] at h1 h2
    rw [List.getElem_set]
    split
    · subst_vars; simp [mixT]
    · simp only [mixT, List.getElem_map, List.getElem_range]
      congr 1
      by_cases hi : i < k
      · rw [if_pos hi, if_pos (by omega)]
      · rw [if_neg hi, if_neg (by omega)]
theorem mixT_same (l c : List Int) (r : Int) (j k : Nat) (h : k < (prodM l).toNat) (hd : ¬ distM l (c.getD j 0) k ≤ r) : mixT l c r j k = mixT l c r j (k + 1) := by
  unfold mixT
  apply List.map_congr_left
  intro i hi
  by_cases h1 : i < k
  · rw [if_pos h1, if_pos (by omega)]
  · by_cases h2 : i = k
    · subst h2; rw [if_neg h1, if_pos (by omega), cntN, if_neg hd, Int.add_zero]
    · rw [if_neg h1, if_neg (by omega)]
def timesN (l c : List Int) (r : Int) (j : Nat) : List Int := mixT l c r j 0
theorem mixT_full (l c : List Int) (r : Int) (j : Nat) : mixT l c r j (prodM l).toNat = timesN l c r (j + 1) := by
  unfold timesN mixT
  apply List.map_congr_left
  intro i hi
  rw [if_pos (List.mem_range.1 hi), if_neg (by omega)]
abbrev timesM (l c : List Int) (r : Int) : List Int := timesN l c r c.length
@[go_sem] theorem timesN_len (l c : List Int) (r : Int) (j : Nat) : (timesN l c r j).length = (prodM l).toNat := mixT_len _ _ _ _ _
theorem timesN_get {l : List Int} (c : List Int) (r : Int) (j : Nat) {i : Nat} (h : i < (prodM l).toNat) : (timesN l c r j).getD i 0 = cntN l c r i j := by
  rw [timesN, mixT_get c r j 0 h, if_neg (by omega)]
theorem timesN_zero (l c : List Int) (r : Int) : timesN l c r 0 = List.replicate (prodM l).toNat 0 := by
  apply List.ext_getElem
  · simp [timesN, mixT]
  · intro i h1 h2; simp [timesN, mixT, cntN]
theorem d_impl_times (l c : List Int) (r : Int) (hs : isSpaceM l = true) (hcc : isCodeM l c = true) (hc : c.length < 1048577) :
    Den PA f_impl_times [.d (.agg [ints l]), .d (ints c), .d (di r)] [.any, .any, .any] (.own 1 ((timesM l c r).map di)) := by
  have hn := isSpaceM_n hs
  have hp := isSpaceM_prod hs
  have hp1 := prodM_pos (isSpaceM_szs hs)
  have hal := allW_len l
  refine den_go [] l_impl_times ?_
  repeat' (first | simp -implicitDefEqProofs (maxSteps := 1000000) (disch := (first | omega | (simp only [go_sem] <;> omega) | fail)) only [go_sem, ints, bools, mat, c_impl_times] | ((first | apply goIf_b | apply goG_b | apply goTG_b | apply goOG_b) <;> intro h <;> ((try simp only [hnq] at h); (try simp only [h]); (try simp only [hnr] at h))))
  first | refine goC_call [.r] (d_impl_allDigits l hs) ?_ | refine goOC_call [.r] (d_impl_allDigits l hs) ?_
  repeat' (first | simp -implicitDefEqProofs (maxSteps := 1000000) (disch := (first | omega | (simp only [go_sem] <;> omega) | fail)) only [go_sem, ints, bools, mat] | ((first | apply goIf_b | apply goG_b | apply goTG_b | apply goOG_b) <;> intro h <;> ((try simp only [hnq] at h); (try simp only [h]); (try simp only [hnr] at h))))
  first | refine goC_call [.r] (d_impl_count l hs) ?_ | refine goOC_call [.r] (d_impl_count l hs) ?_
  repeat' (first | simp -implicitDefEqProofs (maxSteps := 1000000) (disch := (first | omega | (simp only [go_sem] <;> omega) | fail)) only [go_sem, ints, bools, mat] | ((first | apply goIf_b | apply goG_b | apply goTG_b | apply goOG_b) <;> intro h <;> ((try simp only [hnq] at h); (try simp only [h]); (try simp only [hnr] at h))))
  refine go_loop (fun (j : Nat) => ⟨[(2, .d (di r)), (7, .sl 0 0 (prodM l).toNat 8), (8, .sl 1 0 (prodM l).toNat 1), (18, .d (ints c)), (19, .d (di c.length)), (20, .d (di j))], [some (.dat 8 (digs (digsM l (allW l)))), some (.dat 1 ((timesN l c r j).map di))]⟩) (fun j => j ≤ c.length) (fun j => c.length - j) 0 ?_ ?_ ?_
  · simp -implicitDefEqProofs (maxSteps := 1000000) (disch := (first | omega | (simp only [go_sem] <;> omega) | fail)) only [go_sem, ints, bools, mat]
    rw [timesN_zero]
  · simp
  · rintro j hj J hJ
    have hg0 := fun h => isCodeM_get hcc (j := j) h
    repeat' (first | simp -implicitDefEqProofs (maxSteps := 1000000) (disch := (first | omega | (simp only [go_sem] <;> omega) | fail)) only [go_sem, ints, bools, mat] | ((first | apply goIf_b | apply goG_b | apply goTG_b | apply goOG_b) <;> intro h <;> ((try simp only [hnq] at h); (try simp only [h]); (try simp only [hnr] at h))))
    · refine go_loop (fun (k : Nat) => ⟨[(2, .d (di r)), (7, .sl 0 0 (prodM l).toNat 8), (8, .sl 1 0 (prodM l).toNat 1), (10, .d (di (c.getD j 0))), (18, .d (ints c)), (19, .d (di c.length)), (20, .d (di j)), (24, .sl 0 0 (prodM l).toNat 8), (25, .d (di (prodM l).toNat)), (26, .d (di k))], [some (.dat 8 (digs (digsM l (allW l)))), some (.dat 1 ((mixT l c r j k).map di))]⟩) (fun k => k ≤ (prodM l).toNat) (fun k => (prodM l).toNat - k) 0 ?_ ?_ ?_
      · (simp -implicitDefEqProofs (maxSteps := 1000000) (disch := (first | omega | (simp only [go_sem] <;> omega) | fail)) only [go_sem, ints, bools, mat] <;> rfl)
      · simp
      · rintro k hk K hK
        have hg1 := fun h => digsM_get l (allW l) (i := k) h
        have hw1 := fun h => allW_get l (i := k) h
        have hg2 := fun h => digsM_get l (allW l) (i := (c.getD j 0).toNat) h
        have hw2 := fun h => allW_get l (i := (c.getD j 0).toNat) h
        have hb := cntN_bnd l c r k j
        have hmg := fun h => mixT_get (l := l) c r j k (i := k) h
        repeat' (first | simp -implicitDefEqProofs (maxSteps := 1000000) (disch := (first | omega | (simp only [go_sem] <;> omega) | fail)) only [go_sem, ints, bools, mat] | ((first | apply goIf_b | apply goG_b | apply goTG_b | apply goOG_b) <;> intro h <;> ((try simp only [hnq] at h); (try simp only [h]); (try simp only [hnr] at h))))
        · have e2 : (((c.getD j 0).toNat : Nat) : Int) = c.getD j 0 := by omega
          rw [hg1 (by omega), hw1 (by omega), hg2 (by omega), hw2 (by omega), e2]
          have hmg := hmg (by omega)
          rw [if_neg (by omega)] at hmg
          first | refine goC_call [.r, .r] (d_impl_far (digM l (c.getD j 0)) (digM l k) (by rw [digM_len, digM_len]) (by rw [digM_len]; omega)) ?_ | refine goOC_call [.r, .r] (d_impl_far (digM l (c.getD j 0)) (digM l k) (by rw [digM_len, digM_len]) (by rw [digM_len]; omega)) ?_
          repeat' (first | simp -implicitDefEqProofs (maxSteps := 1000000) (disch := (first | omega | (simp only [go_sem] <;> omega) | fail)) only [go_sem, ints, bools, mat] | ((first | apply goIf_b | apply goG_b | apply goTG_b | apply goOG_b) <;> intro h <;> ((try simp only [hnq] at h); (try simp only [h]); (try simp only [hnr] at h))))
          · refine hK (k + 1) (by omega) (by omega) _ ?_
            simp -implicitDefEqProofs (maxSteps := 1000000) (disch := (first | omega | (simp only [go_sem] <;> omega) | fail)) only [go_sem, ints, bools, mat]
            rw [hmg, ← mixT_step l c r j k (by omega), cntN, if_pos (by assumption)]; rfl
          · refine hK (k + 1) (by omega) (by omega) _ ?_
            simp -implicitDefEqProofs (maxSteps := 1000000) (disch := (first | omega | (simp only [go_sem] <;> omega) | fail)) only [go_sem, ints, bools, mat]
            rw [mixT_same l c r j k (by omega) (by simp only [distM]; omega)]; rfl
        · have : k = (prodM l).toNat := by omega
          subst this
          refine hJ (j + 1) (by omega) (by omega) _ ?_
          simp -implicitDefEqProofs (maxSteps := 1000000) (disch := (first | omega | (simp only [go_sem] <;> omega) | fail)) only [go_sem, ints, bools, mat]
          rw [mixT_full]; rfl
    · have : j = c.length := by omega
      subst this
      repeat' (first | simp -implicitDefEqProofs (maxSteps := 1000000) (disch := (first | omega | (simp only [go_sem] <;> omega) | fail)) only [go_sem, ints, bools, mat] | ((first | apply goIf_b | apply goG_b | apply goTG_b | apply goOG_b) <;> intro h <;> ((try simp only [hnq] at h); (try simp only [h]); (try simp only [hnr] at h))))
def ballM (l : List Int) (w r : Int) : List Int := (allW l).filter fun u => decide (distM l u w ≤ r)
theorem d_spec_l01Ball (l : List Int) (hs : isSpaceM l = true) (w r : Int) (hw : 0 ≤ w) (hw2 : w < 1000000000000) : Den PA f_spec_l01Ball [.d (.agg [ints l]), .d (di w), .d (di r)] [.any, .any, .any] (.own 1 ((ballM l w r).map di)) := by
  have hn := isSpaceM_n hs
  have hp := isSpaceM_prod hs
  have hp1 := prodM_pos (isSpaceM_szs hs)
  have hal := allW_len l
  refine den_go [] l_spec_l01Ball ?_
  repeat' (first | simp -implicitDefEqProofs (maxSteps := 1000000) (disch := (first | omega | (simp only [go_sem] <;> omega) | fail)) only [go_sem, ints, bools, mat, c_spec_l01Ball] | ((first | apply goIf_b | apply goG_b | apply goTG_b | apply goOG_b) <;> intro h <;> ((try simp only [hnq] at h); (try simp only [h]); (try simp only [hnr] at h))))
  refine go_loop (fun (j : Nat) => ⟨[(1, .d (di w)), (2, .d (di r)), (3, .ref 0 0), (7, .sl 1 0 (((allW l).take j).filter fun u => decide (distM l u w ≤ r)).length 1), (8, .d (di j))], [some (.var [ints l]), some (.dat 1 ((((allW l).take j).filter fun u => decide (distM l u w ≤ r)).map di))]⟩) (fun j => j ≤ (prodM l).toNat) (fun j => (prodM l).toNat - j) 0 ?_ ?_ ?_
  · (simp -implicitDefEqProofs (maxSteps := 1000000) (disch := (first | omega | (simp only [go_sem] <;> omega) | fail)) only [go_sem, ints, bools, mat] <;> rfl)
  · simp
  · rintro j hj J hJ
    have hfl := filter_len_le (fun u => decide (distM l u w ≤ r)) ((allW l).take j) j (by simp; omega)
    repeat' (first | simp -implicitDefEqProofs (maxSteps := 1000000) (disch := (first | omega | (simp only [go_sem] <;> omega) | fail)) only [go_sem, ints, bools, mat] | ((first | apply goIf_b | apply goG_b | apply goTG_b | apply goOG_b) <;> intro h <;> ((try simp only [hnq] at h); (try simp only [h]); (try simp only [hnr] at h))))
    first | refine goC_call [.r] (d_spec_l01N l (by omega) (isSpaceM_q hs)) ?_ | refine goOC_call [.r] (d_spec_l01N l (by omega) (isSpaceM_q hs)) ?_
    repeat' (first | simp -implicitDefEqProofs (maxSteps := 1000000) (disch := (first | omega | (simp only [go_sem] <;> omega) | fail)) only [go_sem, ints, bools, mat] | ((first | apply goIf_b | apply goG_b | apply goTG_b | apply goOG_b) <;> intro h <;> ((try simp only [hnq] at h); (try simp only [h]); (try simp only [hnr] at h))))
    · first | refine goC_call [.r, .r, .r] (d_spec_l01Distance l hs j w (by omega) (by omega) hw hw2) ?_ | refine goOC_call [.r, .r, .r] (d_spec_l01Distance l hs j w (by omega) (by omega) hw hw2) ?_
      repeat' (first | simp -implicitDefEqProofs (maxSteps := 1000000) (disch := (first | omega | (simp only [go_sem] <;> omega) | fail)) only [go_sem, ints, bools, mat] | ((first | apply goIf_b | apply goG_b | apply goTG_b | apply goOG_b) <;> intro h <;> ((try simp only [hnq] at h); (try simp only [h]); (try simp only [hnr] at h))))
      · refine hJ (j + 1) (by omega) (by omega) _ ?_
        simp -implicitDefEqProofs (maxSteps := 1000000) (disch := (first | omega | (simp only [go_sem] <;> omega) | fail)) only [go_sem, ints, bools, mat]
        rw [take_allW l (by omega), List.filter_append]; simp [h]
      · refine hJ (j + 1) (by omega) (by omega) _ ?_
        simp -implicitDefEqProofs (maxSteps := 1000000) (disch := (first | omega | (simp only [go_sem] <;> omega) | fail)) only [go_sem, ints, bools, mat]
        rw [take_allW l (by omega), List.filter_append]; simp [show ¬ distM l j w ≤ r by omega]
    · have : j = (prodM l).toNat := by omega
      subst this
      repeat' (first | simp -implicitDefEqProofs (maxSteps := 1000000) (disch := (first | omega | (simp only [go_sem] <;> omega) | fail)) only [go_sem, ints, bools, mat] | ((first | apply goIf_b | apply goG_b | apply goTG_b | apply goOG_b) <;> intro h <;> ((try simp only [hnq] at h); (try simp only [h]); (try simp only [hnr] at h))))
      rfl
theorem allW_nodup (l : List Int) : (allW l).Nodup := by
  unfold allW
  refine List.Pairwise.map _ ?_ (List.nodup_range (n := (prodM l).toNat))
  intro a b h e
  exact h (by omega)
theorem allW_mem (l : List Int) (u : Int) : u ∈ allW l ↔ 0 ≤ u ∧ u < (prodM l).toNat := by
  unfold allW
  rw [List.mem_map]
  constructor
  · rintro ⟨i, hi, rfl⟩; have := List.mem_range.1 hi; omega
  · rintro ⟨h1, h2⟩; exact ⟨u.toNat, List.mem_range.2 (by omega), by omega⟩
theorem ballM_nodup (l : List Int) (w r : Int) : (ballM l w r).Nodup := (allW_nodup l).filter _
theorem ballM_mem (l : List Int) (w r u : Int) : u ∈ ballM l w r ↔ (0 ≤ u ∧ u < (prodM l).toNat) ∧ distM l u w ≤ r := by
  unfold ballM; rw [List.mem_filter, allW_mem]; simp
theorem getD_mem {l : List Int} {i : Nat} (h : i < l.length) : l.getD i 0 ∈ l := mem_getD h
abbrev ccM (l c : List Int) (r : Int) : Int := if ggM l c = 0 then (if 0 ≤ r ∧ r ≤ 8 then 0 else 2) else ggM l c
theorem ccM_ok {l c : List Int} {r : Int} (h : ccM l c r = 0) : isSpaceM l = true ∧ isCodeM l c = true ∧ 0 ≤ r ∧ r ≤ 8 := by
  unfold ccM at h
  split at h
  · rename_i hg
    split at h
    · rename_i hd; exact ⟨(ggM_ok hg).1, (ggM_ok hg).2, hd⟩
    · cases h
  · rename_i hg; exact (hg h).elim
theorem d_impl_coverCode (l c : List Int) (hl : l.length < 1048577) (hc : c.length < 1048577) (r : Int) : Den PA f_impl_coverCode [.d (.agg [ints l]), .d (ints c), .d (di r)] [.any, .any, .any] (.d (di (ccM l c r))) := by
  refine den_go [] l_impl_coverCode ?_
  simp -implicitDefEqProofs (maxSteps := 1000000) (disch := (first | omega | (simp only [go_sem] <;> omega) | fail)) only [go_sem, ints, bools, mat, c_impl_coverCode]
  first | refine goC_call [.r, .r, .r] (d_impl_codeCode0 l hl c hc) ?_ | refine goOC_call [.r, .r, .r] (d_impl_codeCode0 l hl c hc) ?_
  by_cases h : ggM l c = 0
  · rw [ccM, if_pos h, h]
    repeat' (first | simp -implicitDefEqProofs (maxSteps := 1000000) (disch := (first | omega | (simp only [go_sem] <;> omega) | fail)) only [go_sem, ints, bools, mat] | ((first | apply goIf_b | apply goG_b | apply goTG_b | apply goOG_b) <;> intro h <;> ((try simp only [hnq] at h); (try simp only [h]); (try simp only [hnr] at h))))
    first | refine goC_call [.r] (d_impl_isRadius r) ?_ | refine goOC_call [.r] (d_impl_isRadius r) ?_
    repeat' (first | simp -implicitDefEqProofs (maxSteps := 1000000) (disch := (first | omega | (simp only [go_sem] <;> omega) | fail)) only [go_sem, ints, bools, mat] | ((first | apply goIf_b | apply goG_b | apply goTG_b | apply goOG_b) <;> intro h <;> ((try simp only [hnq] at h); (try simp only [h]); (try simp only [hnr] at h))))
    · rw [if_pos (by omega)]
    · rw [if_neg (by omega)]
  · rw [ccM, if_neg h]
    generalize ggM l c = b at h
    repeat' (first | simp -implicitDefEqProofs (maxSteps := 1000000) (disch := (first | omega | (simp only [go_sem] <;> omega) | fail)) only [go_sem, ints, bools, mat] | ((first | apply goIf_b | apply goG_b | apply goTG_b | apply goOG_b) <;> intro h <;> ((try simp only [hnq] at h); (try simp only [h]); (try simp only [hnr] at h))))
    all_goals (exfalso; omega)
attribute [go_sem] isnA List.drop_length
def and2 (x y : Int) : Int := ((x.toNat &&& y.toNat : Nat) : Int)
def andM (t u : List Int) : List Int := (List.range t.length).map fun (i : Nat) => and2 (t.getD i 0) (u.getD i 0)
@[go_sem] theorem andM_len (t u : List Int) : (andM t u).length = t.length := by simp [andM]
def sN (a b : List Int) : Nat → Int
  | 0 => 0
  | j + 1 => sN a b j + a.getD j 0 * b.getD j 0
def synM (l c : List Int) (w : Int) : List Int := c.map fun u => sN (digM l w) (digM l u) l.length % l.getD 0 0
@[go_sem] theorem synM_len (l c : List Int) (w : Int) : (synM l c w).length = c.length := by simp [synM]
def fnI (q : Int → Prop) (p : Int → Bool) : List D → Value → Prop := fun ds r => ∃ n, q n ∧ ds = [di n] ∧ r = .bool (p n)
theorem d_slices_IndexFunc_in (l : List Int) (p : Int → Bool) (g : List D → Value → Prop) (hg : ∀ i, i < l.length → g [di (l.getD i 0)] (.bool (p (l.getD i 0)))) (hl : l.length < 1048577) :
    Den PA f_slices_IndexFunc___int64_int64_ [.d (ints l), .pfn g] [.any, .any] (.d (di (match l.findIdx? p with | some j => j | none => -1))) := by
  refine den_go [] l_slices_IndexFunc___int64_int64_ ?_
  repeat' (first | simp -implicitDefEqProofs (maxSteps := 1000000) (disch := (first | omega | (simp only [go_sem] <;> omega) | fail)) only [go_sem, ints, bools, mat, c_slices_IndexFunc___int64_int64_] | ((first | apply goIf_b | apply goG_b | apply goTG_b | apply goOG_b) <;> intro h <;> ((try simp only [hnq] at h); (try simp only [h]); (try simp only [hnr] at h))))
  refine go_loop (fun (j : Nat) => ⟨[(0, .d (ints l)), (1, .pfn g), (7, .d (di l.length)), (8, .d (di j))], []⟩) (fun j => j ≤ l.length ∧ ∀ i, i < j → p (l.getD i 0) = false) (fun j => l.length - j) 0 ?_ ?_ ?_
  · (simp -implicitDefEqProofs (maxSteps := 1000000) (disch := (first | omega | (simp only [go_sem] <;> omega) | fail)) only [go_sem, ints, bools, mat] <;> rfl)
  · simp
  · rintro j ⟨hj, hi⟩ J hJ
    repeat' (first | simp -implicitDefEqProofs (maxSteps := 1000000) (disch := (first | omega | (simp only [go_sem] <;> omega) | fail)) only [go_sem, ints, bools, mat] | ((first | apply goIf_b | apply goG_b | apply goTG_b | apply goOG_b) <;> intro h <;> ((try simp only [hnq] at h); (try simp only [h]); (try simp only [hnr] at h))))
    · refine goV_pfn [di (l.getD j 0)] (.bool (p (l.getD j 0))) (by simp -implicitDefEqProofs (maxSteps := 1000000) (disch := (first | omega | (simp only [go_sem] <;> omega) | fail)) only [go_sem, ints, bools, mat]) rfl (hg j (by omega)) ?_
      repeat' (first | simp -implicitDefEqProofs (maxSteps := 1000000) (disch := (first | omega | (simp only [go_sem] <;> omega) | fail)) only [go_sem, ints, bools, mat] | ((first | apply goIf_b | apply goG_b | apply goTG_b | apply goOG_b) <;> intro h <;> ((try simp only [hnq] at h); (try simp only [h]); (try simp only [hnr] at h))))
      · rw [findIdx_at (by omega) h hi]
      · refine hJ (j + 1) ⟨by omega, all_ext hi h⟩ (by omega) _ (by (simp -implicitDefEqProofs (maxSteps := 1000000) (disch := (first | omega | (simp only [go_sem] <;> omega) | fail)) only [go_sem, ints, bools, mat] <;> rfl))
    · rw [findIdx_no fun i hi' => hi i (by omega)]
def sumM (l a b : List Int) : List Int := (List.range l.length).map fun (i : Nat) => (a.getD i 0 + b.getD i 0) % l.getD i 0
@[go_sem] theorem sumM_len (l a b : List Int) : (sumM l a b).length = l.length := by simp [sumM]
def wordN (l d : List Int) : Nat → Int
  | 0 => 0
  | j + 1 => wordN l d j * l.getD j 0 + d.getD j 0
theorem wordN_bnd {l d : List Int} (hs : szs l) (hd : ∀ i, i < l.length → 0 ≤ d.getD i 0 ∧ d.getD i 0 < l.getD i 0) : ∀ j, j ≤ l.length → 0 ≤ wordN l d j ∧ wordN l d j < prodM (l.take j)
  | 0, _ => by simp [wordN, prodM]
  | j + 1, h => by
    have ih := wordN_bnd hs hd j (by omega)
    have h1 := hd j (by omega)
    have h2 := hs j (by omega)
    rw [wordN, prodM_step l (by omega)]
    have h3 := Int.mul_nonneg ih.1 (show 0 ≤ l.getD j 0 by omega)
    have h4 : (wordN l d j + 1) * l.getD j 0 ≤ prodM (l.take j) * l.getD j 0 := Int.mul_le_mul_of_nonneg_right (by omega) (by omega)
    rw [Int.add_mul, Int.one_mul] at h4
    omega
def sumW (l : List Int) (u w : Int) : Int := wordN l (sumM l (digM l u) (digM l w)) l.length
def setN (N : Nat) (c : List Int) : Nat → List Bool
  | 0 => List.replicate N false
  | j + 1 => (setN N c j).set (c.getD j 0).toNat true
@[go_sem] theorem setN_len (N : Nat) (c : List Int) : ∀ j, (setN N c j).length = N
  | 0 => by simp [setN]
  | j + 1 => by rw [setN, List.length_set, setN_len N c j]
def cntB (l c : List Int) (M b : Int) : Nat → Nat
  | 0 => 0
  | j + 1 => if distM l b (c.getD j 0) ≤ M then cntB l c M b j + 1 else cntB l c M b j
def lastB (l c : List Int) (M b : Int) : Nat → Nat
  | 0 => 0
  | j + 1 => if distM l b (c.getD j 0) ≤ M then j else lastB l c M b j
def needN (l c : List Int) (M : Int) (B : List Int) : Nat → List Bool
  | 0 => List.replicate c.length false
  | j + 1 => if cntB l c M (B.getD j 0) c.length = 1 then (needN l c M B j).set (lastB l c M (B.getD j 0) c.length) true else needN l c M B j
@[go_sem] theorem needN_len (l c : List Int) (M : Int) (B : List Int) : ∀ j, (needN l c M B j).length = c.length
  | 0 => by simp [needN]
  | j + 1 => by rw [needN]; split <;> simp [needN_len l c M B j]
theorem minD_le_iff (l c : List Int) (w x : Int) (k : Nat) : minD l c w 8 k ≤ x ↔ 8 ≤ x ∨ ∃ i, i < k ∧ distM l w (c.getD i 0) ≤ x := by
    have h := le_minD l c w 8 (x + 1) k
    constructor
    · intro h1
      by_cases h8 : 8 ≤ x
      · exact .inl h8
      · right
        apply Classical.byContradiction
        intro hne
        have : x + 1 ≤ minD l c w 8 k := h.2 ⟨by omega, fun i hi => by
          have : ¬ distM l w (c.getD i 0) ≤ x := fun hd => hne ⟨i, hi, hd⟩
          omega⟩
        omega
    · rintro (h1 | ⟨i, hi, hd⟩)
      · have := minD_le l c w 8 k; omega
      · have := (le_minD l c w 8 _ k).1 (Int.le_refl _)
        have := this.2 i hi; omega
@[go_sem] theorem toNat_succ (j : Nat) : ((j : Int) + 1).toNat = j + 1 := by omega
@[go_sem] theorem all_lf_digs (ds : List (List Int)) : (digs ds).all lfD = true := by
  rw [List.all_eq_true]; intro x hx
  obtain ⟨d, _, rfl⟩ := List.mem_map.1 hx
  rw [lfD, lfDs_all, List.all_eq_true]; intro y hy
  obtain ⟨i, _, rfl⟩ := List.mem_map.1 hy
  rfl
theorem d_spec_l01Own (t : List Int) (h : t.length < 1048577) : Den PA f_spec_l01Own [.d (ints t)] [.any] (.own 1 (t.map di)) := by
  refine den_go [] l_spec_l01Own ?_
  repeat' (first | simp -implicitDefEqProofs (maxSteps := 1000000) (disch := (first | omega | (simp only [go_sem] <;> omega) | fail)) only [go_sem, ints, bools, mat, c_spec_l01Own] | ((first | apply goIf_b | apply goG_b | apply goTG_b | apply goOG_b) <;> intro h <;> ((try simp only [hnq] at h); (try simp only [h]); (try simp only [hnr] at h))))
abbrev ltI : Int → Int → Bool := Go.Sort.ltInt
theorem arr_get (X : Array Int) (i : Nat) : X[i]! = X.toList.getD i 0 := by
  rw [List.getD_eq_getElem?_getD, Array.getElem?_toList]
  rw [Array.getElem!_eq_getD, Array.getD_eq_getD_getElem?]; rfl
theorem swp_list (X : Array Int) (i j : Nat) : (Go.Sort.swp X i j).toList = (X.toList.set i (X.toList.getD j 0)).set j (X.toList.getD i 0) := by
  rw [Go.Sort.swp, Array.toList_setIfInBounds, Array.toList_setIfInBounds, arr_get, arr_get]
theorem swp_size (X : Array Int) (i j : Nat) : (Go.Sort.swp X i j).size = X.size := by simp [Go.Sort.swp]
theorem insInner_eq (a j : Nat) (X : Array Int) : Go.Sort.insInner ltI a j X = if a < j ∧ X.toList.getD j 0 < X.toList.getD (j - 1) 0 then Go.Sort.insInner ltI a (j - 1) (Go.Sort.swp X j (j - 1)) else X := by
  cases j with
  | zero => simp [Go.Sort.insInner]
  | succ j => rw [Go.Sort.insInner, arr_get, arr_get]; simp [Go.Sort.ltInt]
theorem insOuter_step {a b i : Nat} {Y : Array Int} (h : i < b) : Go.Sort.insOuter ltI a b i Y = Go.Sort.insOuter ltI a b (i + 1) (Go.Sort.insInner ltI a i Y) := by
  rw [Go.Sort.insOuter, if_pos h]
theorem d_cmp_isNaN (x : Int) : Den PA f_cmp_isNaN_int64_ [.d (di x)] [.any] (.d (db false)) := by
  refine den_go [] l_cmp_isNaN_int64_ ?_
  repeat' (first | simp -implicitDefEqProofs (maxSteps := 1000000) (disch := (first | omega | (simp only [go_sem] <;> omega) | fail)) only [go_sem, ints, bools, mat, c_cmp_isNaN_int64_] | ((first | apply goIf_b | apply goG_b | apply goTG_b | apply goOG_b) <;> intro h <;> ((try simp only [hnq] at h); (try simp only [h]); (try simp only [hnr] at h))))
theorem d_cmp_Less (x y : Int) : Den PA f_cmp_Less_int64_ [.d (di x), .d (di y)] [.any, .any] (.d (db (decide (x < y)))) := by
  refine den_go [] l_cmp_Less_int64_ ?_
  repeat' (first | simp -implicitDefEqProofs (maxSteps := 1000000) (disch := (first | omega | (simp only [go_sem] <;> omega) | fail)) only [go_sem, ints, bools, mat, c_cmp_Less_int64_] | ((first | apply goIf_b | apply goG_b | apply goTG_b | apply goOG_b) <;> intro h <;> ((try simp only [hnq] at h); (try simp only [h]); (try simp only [hnr] at h))))
  first | refine goC_call [.r] (d_cmp_isNaN x) ?_ | refine goOC_call [.r] (d_cmp_isNaN x) ?_
  repeat' (first | simp -implicitDefEqProofs (maxSteps := 1000000) (disch := (first | omega | (simp only [go_sem] <;> omega) | fail)) only [go_sem, ints, bools, mat] | ((first | apply goIf_b | apply goG_b | apply goTG_b | apply goOG_b) <;> intro h <;> ((try simp only [hnq] at h); (try simp only [h]); (try simp only [hnr] at h))))
@[go_sem] theorem toNat_pred {j : Nat} : ((j : Int) - 1).toNat = j - 1 := by omega
theorem d_insertionSort (X : Array Int) (a b : Nat) (hX : X.size < 1048577) (ha : a ≤ b) (hb : b ≤ X.size) :
    Den PA f_slices_insertionSortOrdered_int64_ [.own 1 (X.toList.map di), .d (di a), .d (di b)] [.own 1 ((Go.Sort.insertionSort ltI X a b).toList.map di), .any, .any] (.tup []) := by
  refine den_go [0] l_slices_insertionSortOrdered_int64_ ?_
  have hXl : X.toList.length = X.size := Array.length_toList
  repeat' (first | simp -implicitDefEqProofs (maxSteps := 1000000) (disch := (first | omega | (simp only [go_sem] <;> omega) | fail)) only [go_sem, ints, bools, mat, c_slices_insertionSortOrdered_int64_] | ((first | apply goIf_b | apply goG_b | apply goTG_b | apply goOG_b) <;> intro h <;> ((try simp only [hnq] at h); (try simp only [h]); (try simp only [hnr] at h))))
  refine go_loop (fun (p : Nat × Array Int) => ⟨[(0, .sl 0 0 p.2.toList.length 1), (1, .d (di a)), (2, .d (di b)), (6, .d (di p.1)), (49, .sl 0 0 p.2.toList.length 1)], [some (.dat 1 (p.2.toList.map di))]⟩)
    (fun p => a + 1 ≤ p.1 ∧ (p.1 ≤ b ∨ p.1 = a + 1) ∧ p.2.toList.length = X.size ∧ Go.Sort.insOuter ltI a b p.1 p.2 = Go.Sort.insertionSort ltI X a b) (fun p => b - p.1) (a + 1, X) ?_ ?_ ?_
  · (simp -implicitDefEqProofs (maxSteps := 1000000) (disch := (first | omega | (simp only [go_sem] <;> omega) | fail)) only [go_sem, ints, bools, mat] <;> rfl)
  · exact ⟨Nat.le_refl _, .inr rfl, hXl, rfl⟩
  · rintro ⟨i, Y⟩ ⟨h1, h2, h3, h4⟩ J hJ
    simp only at h1 h2 h3 h4 hJ
    repeat' (first | simp -implicitDefEqProofs (maxSteps := 1000000) (disch := (first | omega | (simp only [go_sem] <;> omega) | fail)) only [go_sem, ints, bools, mat] | ((first | apply goIf_b | apply goG_b | apply goTG_b | apply goOG_b) <;> intro h <;> ((try simp only [hnq] at h); (try simp only [h]); (try simp only [hnr] at h))))
    · refine go_loop (fun (p : Nat × Array Int) => ⟨[(0, .sl 0 0 p.2.toList.length 1), (1, .d (di a)), (2, .d (di b)), (6, .d (di i)), (7, .d (di p.1)), (49, .sl 0 0 p.2.toList.length 1)], [some (.dat 1 (p.2.toList.map di))]⟩)
        (fun p => p.1 ≤ i ∧ p.2.toList.length = X.size ∧ Go.Sort.insInner ltI a p.1 p.2 = Go.Sort.insInner ltI a i Y) (fun p => p.1) (i, Y) ?_ ?_ ?_
      · (simp -implicitDefEqProofs (maxSteps := 1000000) (disch := (first | omega | (simp only [go_sem] <;> omega) | fail)) only [go_sem, ints, bools, mat] <;> rfl)
      · exact ⟨Nat.le_refl _, h3, rfl⟩
      · rintro ⟨j, Z⟩ ⟨g1, g2, g3⟩ K hK
        simp only at g1 g2 g3 hK
        have hsl := swp_list Z j (j - 1)
        repeat' (first | simp -implicitDefEqProofs (maxSteps := 1000000) (disch := (first | omega | (simp only [go_sem] <;> omega) | fail)) only [go_sem, ints, bools, mat] | ((first | apply goIf_b | apply goG_b | apply goTG_b | apply goOG_b) <;> intro h <;> ((try simp only [hnq] at h); (try simp only [h]); (try simp only [hnr] at h))))
        · first | refine goC_call [.r, .r] (d_cmp_Less (Z.toList.getD j 0) (Z.toList.getD (j - 1) 0)) ?_ | refine goOC_call [.r, .r] (d_cmp_Less (Z.toList.getD j 0) (Z.toList.getD (j - 1) 0)) ?_
          repeat' (first | simp -implicitDefEqProofs (maxSteps := 1000000) (disch := (first | omega | (simp only [go_sem] <;> omega) | fail)) only [go_sem, ints, bools, mat] | ((first | apply goIf_b | apply goG_b | apply goTG_b | apply goOG_b) <;> intro h <;> ((try simp only [hnq] at h); (try simp only [h]); (try simp only [hnr] at h))))
          · have hlt : Z.toList.getD j 0 < Z.toList.getD (j - 1) 0 := by assumption
            have hja : a < j := by omega
            refine hK (j - 1, Go.Sort.swp Z j (j - 1)) ⟨by omega, by simpa [swp_size] using g2, ?_⟩ (by simp only; omega) _ ?_
            · rw [← g3, insInner_eq a j Z, if_pos ⟨hja, hlt⟩]
            · simp -implicitDefEqProofs (maxSteps := 1000000) (disch := (first | omega | (simp only [go_sem] <;> omega) | fail)) only [go_sem, ints, bools, mat]
              rw [hsl]; simp [-List.getD_eq_getElem?_getD]; omega
          · refine hJ (i + 1, Z) ⟨by simp only; omega, by simp only; omega, g2, ?_⟩ (by simp only; omega) _ ?_
            · rw [← h4, insOuter_step (i := i) (by omega), ← g3, insInner_eq a j Z, if_neg (by omega)]
            · simp -implicitDefEqProofs (maxSteps := 1000000) (disch := (first | omega | (simp only [go_sem] <;> omega) | fail)) only [go_sem, ints, bools, mat]
              rfl
        · refine hJ (i + 1, Z) ⟨by simp only; omega, by simp only; omega, g2, ?_⟩ (by simp only; omega) _ ?_
          · rw [← h4, insOuter_step (i := i) (by omega), ← g3, insInner_eq a j Z, if_neg (by omega)]
          · simp -implicitDefEqProofs (maxSteps := 1000000) (disch := (first | omega | (simp only [go_sem] <;> omega) | fail)) only [go_sem, ints, bools, mat]
            rfl
    · have e : Y = Go.Sort.insertionSort ltI X a b := by rw [← h4, Go.Sort.insOuter, if_neg (by omega)]
      rw [e]
abbrev tab8 : Array UInt8 := #[0, 1, 2, 2, 3, 3, 3, 3, 4, 4, 4, 4, 4, 4, 4, 4, 5, 5, 5, 5, 5, 5, 5, 5, 5, 5, 5, 5, 5, 5, 5, 5, 6, 6, 6, 6, 6, 6, 6, 6, 6, 6, 6, 6, 6, 6, 6, 6, 6, 6, 6, 6, 6, 6, 6, 6, 6, 6, 6, 6, 6, 6, 6, 6, 7, 7, 7, 7, 7, 7, 7, 7, 7, 7, 7, 7, 7, 7, 7, 7, 7, 7, 7, 7, 7, 7, 7, 7, 7, 7, 7, 7, 7, 7, 7, 7, 7, 7, 7, 7, 7, 7, 7, 7, 7, 7, 7, 7, 7, 7, 7, 7, 7, 7, 7, 7, 7, 7, 7, 7, 7, 7, 7, 7, 7, 7, 7, 7, 8, 8, 8, 8, 8, 8, 8, 8, 8, 8, 8, 8, 8, 8, 8, 8, 8, 8, 8, 8, 8, 8, 8, 8, 8, 8, 8, 8, 8, 8, 8, 8, 8, 8, 8, 8, 8, 8, 8, 8, 8, 8, 8, 8, 8, 8, 8, 8, 8, 8, 8, 8, 8, 8, 8, 8, 8, 8, 8, 8, 8, 8, 8, 8, 8, 8, 8, 8, 8, 8, 8, 8, 8, 8, 8, 8, 8, 8, 8, 8, 8, 8, 8, 8, 8, 8, 8, 8, 8, 8, 8, 8, 8, 8, 8, 8, 8, 8, 8, 8, 8, 8, 8, 8, 8, 8, 8, 8, 8, 8, 8, 8, 8, 8, 8, 8, 8, 8, 8, 8, 8, 8, 8, 8, 8, 8, 8, 8]
theorem tab8_ok : ∀ n : Fin 256, (((⟨tab8⟩ : ByteArray)[n.1]?).map fun b => b.toNat) = some (Go.Sort.bitsLen n.1) := by decide +kernel
theorem bitsLen_lt {n : Nat} (h : n < 256) : Go.Sort.bitsLen n < 256 := by
  unfold Go.Sort.bitsLen
  split
  · omega
  · have := Nat.log2_lt (n := n) (k := 8) (by omega); omega
theorem ixt8 {n : Nat} (h : n < 256) : ixtA (.d (.v (.string ⟨#[0, 1, 2, 2, 3, 3, 3, 3, 4, 4, 4, 4, 4, 4, 4, 4, 5, 5, 5, 5, 5, 5, 5, 5, 5, 5, 5, 5, 5, 5, 5, 5, 6, 6, 6, 6, 6, 6, 6, 6, 6, 6, 6, 6, 6, 6, 6, 6, 6, 6, 6, 6, 6, 6, 6, 6, 6, 6, 6, 6, 6, 6, 6, 6, 7, 7, 7, 7, 7, 7, 7, 7, 7, 7, 7, 7, 7, 7, 7, 7, 7, 7, 7, 7, 7, 7, 7, 7, 7, 7, 7, 7, 7, 7, 7, 7, 7, 7, 7, 7, 7, 7, 7, 7, 7, 7, 7, 7, 7, 7, 7, 7, 7, 7, 7, 7, 7, 7, 7, 7, 7, 7, 7, 7, 7, 7, 7, 7, 8, 8, 8, 8, 8, 8, 8, 8, 8, 8, 8, 8, 8, 8, 8, 8, 8, 8, 8, 8, 8, 8, 8, 8, 8, 8, 8, 8, 8, 8, 8, 8, 8, 8, 8, 8, 8, 8, 8, 8, 8, 8, 8, 8, 8, 8, 8, 8, 8, 8, 8, 8, 8, 8, 8, 8, 8, 8, 8, 8, 8, 8, 8, 8, 8, 8, 8, 8, 8, 8, 8, 8, 8, 8, 8, 8, 8, 8, 8, 8, 8, 8, 8, 8, 8, 8, 8, 8, 8, 8, 8, 8, 8, 8, 8, 8, 8, 8, 8, 8, 8, 8, 8, 8, 8, 8, 8, 8, 8, 8, 8, 8, 8, 8, 8, 8, 8, 8, 8, 8, 8, 8, 8, 8, 8, 8, 8, 8]⟩))) n = some (.d (.v (.int .u8 (Go.Sort.bitsLen n)))) := by
  have h1 := tab8_ok ⟨n, h⟩
  unfold ixtA
  simp only [Int.natCast_nonneg, if_true, Int.toNat_natCast]
  revert h1
  generalize (⟨tab8⟩ : ByteArray)[n]? = o
  cases o with
  | none => intro h1; cases h1
  | some b => intro h1; simp only [Option.map_some, Option.some.injEq] at h1 ⊢; rw [h1]
theorem d_bits_Len64 (n : Nat) (h : n < 256) : Den PA f_math_bits_Len64 [.d (.v (.int .u64 n))] [.any] (.d (di (Go.Sort.bitsLen n))) := by
  refine den_go [] l_math_bits_Len64 ?_
  repeat' (first | simp -implicitDefEqProofs (maxSteps := 1000000) (disch := (first | omega | (simp only [go_sem] <;> omega) | fail)) only [go_sem, ints, bools, mat, c_math_bits_Len64] | ((first | apply goIf_b | apply goG_b | apply goTG_b | apply goOG_b) <;> intro h <;> ((try simp only [hnq] at h); (try simp only [h]); (try simp only [hnr] at h)) <;> (try (exfalso; omega))))
  first | rw [ixt8 (by assumption)] | (unfold Go.Lib.len8tab; rw [ixt8 (by assumption)])
  have hb := bitsLen_lt (n := n) (by assumption)
  repeat' (first | simp -implicitDefEqProofs (maxSteps := 1000000) (disch := (first | omega | (simp only [go_sem] <;> omega) | fail)) only [go_sem, ints, bools, mat] | ((first | apply goIf_b | apply goG_b | apply goTG_b | apply goOG_b) <;> intro h <;> ((try simp only [hnq] at h); (try simp only [h]); (try simp only [hnr] at h)) <;> (try (exfalso; omega))))
  rw [Int.zero_add]
theorem d_bits_Len (n : Nat) (h : n < 256) : Den PA f_math_bits_Len [.d (.v (.int .u64 n))] [.any] (.d (di (Go.Sort.bitsLen n))) := by
  refine den_go [] l_math_bits_Len ?_
  repeat' (first | simp -implicitDefEqProofs (maxSteps := 1000000) (disch := (first | omega | (simp only [go_sem] <;> omega) | fail)) only [go_sem, ints, bools, mat, c_math_bits_Len] | ((first | apply goIf_b | apply goG_b | apply goTG_b | apply goOG_b) <;> intro h <;> ((try simp only [hnq] at h); (try simp only [h]); (try simp only [hnr] at h))))
  first | refine goC_call [.r] (d_bits_Len64 n h) ?_ | refine goOC_call [.r] (d_bits_Len64 n h) ?_
  repeat' (first | simp -implicitDefEqProofs (maxSteps := 1000000) (disch := (first | omega | (simp only [go_sem] <;> omega) | fail)) only [go_sem, ints, bools, mat] | ((first | apply goIf_b | apply goG_b | apply goTG_b | apply goOG_b) <;> intro h <;> ((try simp only [hnq] at h); (try simp only [h]); (try simp only [hnr] at h))))
abbrev sortI (l : List Int) : List Int := l.mergeSort (fun x y => decide (x ≤ y))
@[go_sem] theorem sortI_len (l : List Int) : (sortI l).length = l.length := List.length_mergeSort l
theorem sort12 {l : List Int} (h : l.length ≤ 12) : (Go.Sort.insertionSort ltI l.toArray 0 l.toArray.size).toList = sortI l := by
  have := Go.Sort.sortInt l
  rw [Go.Sort.sort, Go.Sort.pdq, if_pos (by simpa using h)] at this; exact this
theorem d_insertionSort12 (l : List Int) (h : l.length ≤ 12) : Den PA f_slices_insertionSortOrdered_int64_ [.own 1 (l.map di), .d (di 0), .d (di l.length)] [.own 1 ((sortI l).map di), .any, .any] (.tup []) := by
  rw [← sort12 h]; exact d_insertionSort l.toArray 0 l.toArray.size (by simp; omega) (by omega) (by omega)
theorem d_pdq12 (l : List Int) (k : Int) (h : l.length ≤ 12) :
    Den PA f_slices_pdqsortOrdered_int64_ [.own 1 (l.map di), .d (di 0), .d (di l.length), .d (di k)] [.own 1 ((sortI l).map di), .any, .any, .any] (.tup []) := by
  refine den_go [0] l_slices_pdqsortOrdered_int64_ ?_
  repeat' (first | simp -implicitDefEqProofs (maxSteps := 1000000) (disch := (first | omega | (simp only [go_sem] <;> omega) | fail)) only [go_sem, ints, bools, mat, c_slices_pdqsortOrdered_int64_] | ((first | apply goIf_b | apply goG_b | apply goTG_b | apply goOG_b) <;> intro h <;> ((try simp only [hnq] at h); (try simp only [h]); (try simp only [hnr] at h))))
  refine go_loop (fun (_ : Unit) => ⟨[(0, .sl 0 0 l.length 1), (1, .d (di 0)), (2, .d (di l.length)), (3, .d (di k)), (8, .d (db true)), (9, .d (db true)), (134, .sl 0 0 l.length 1)], [some (.dat 1 (l.map di))]⟩) (fun _ => True) (fun _ => 0) () ?_ trivial ?_
  · (simp -implicitDefEqProofs (maxSteps := 1000000) (disch := (first | omega | (simp only [go_sem] <;> omega) | fail)) only [go_sem, ints, bools, mat] <;> rfl)
  · intro _ _ J _
    repeat' (first | simp -implicitDefEqProofs (maxSteps := 1000000) (disch := (first | omega | (simp only [go_sem] <;> omega) | fail)) only [go_sem, ints, bools, mat] | ((first | apply goIf_b | apply goG_b | apply goTG_b | apply goOG_b) <;> intro h <;> ((try simp only [hnq] at h); (try simp only [h]); (try simp only [hnr] at h)) <;> (try (exfalso; omega))))
    first | refine goC_call [.o, .r, .r] (d_insertionSort12 l (by omega)) ?_ | refine goOC_call [.o, .r, .r] (d_insertionSort12 l (by omega)) ?_
    repeat' (first | simp -implicitDefEqProofs (maxSteps := 1000000) (disch := (first | omega | (simp only [go_sem] <;> omega) | fail)) only [go_sem, ints, bools, mat] | ((first | apply goIf_b | apply goG_b | apply goTG_b | apply goOG_b) <;> intro h <;> ((try simp only [hnq] at h); (try simp only [h]); (try simp only [hnr] at h)) <;> (try (exfalso; omega))))
theorem d_slices_Sort12 (l : List Int) (h : l.length ≤ 12) : Den PA f_slices_Sort___int64_int64_ [.own 1 (l.map di)] [.own 1 ((sortI l).map di)] (.tup []) := by
  refine den_go [0] l_slices_Sort___int64_int64_ ?_
  repeat' (first | simp -implicitDefEqProofs (maxSteps := 1000000) (disch := (first | omega | (simp only [go_sem] <;> omega) | fail)) only [go_sem, ints, bools, mat, c_slices_Sort___int64_int64_] | ((first | apply goIf_b | apply goG_b | apply goTG_b | apply goOG_b) <;> intro h <;> ((try simp only [hnq] at h); (try simp only [h]); (try simp only [hnr] at h))))
  first | refine goC_call [.r] (d_bits_Len l.length (by omega)) ?_ | refine goOC_call [.r] (d_bits_Len l.length (by omega)) ?_
  repeat' (first | simp -implicitDefEqProofs (maxSteps := 1000000) (disch := (first | omega | (simp only [go_sem] <;> omega) | fail)) only [go_sem, ints, bools, mat] | ((first | apply goIf_b | apply goG_b | apply goTG_b | apply goOG_b) <;> intro h <;> ((try simp only [hnq] at h); (try simp only [h]); (try simp only [hnr] at h))))
  first | refine goC_call [.o, .r, .r, .r] (d_pdq12 l (Go.Sort.bitsLen l.length) h) ?_ | refine goOC_call [.o, .r, .r, .r] (d_pdq12 l (Go.Sort.bitsLen l.length) h) ?_
  repeat' (first | simp -implicitDefEqProofs (maxSteps := 1000000) (disch := (first | omega | (simp only [go_sem] <;> omega) | fail)) only [go_sem, ints, bools, mat] | ((first | apply goIf_b | apply goG_b | apply goTG_b | apply goOG_b) <;> intro h <;> ((try simp only [hnq] at h); (try simp only [h]); (try simp only [hnr] at h))))
theorem srt_eq {D l : List Int} (hp : D.Perm l) (hs : D.Pairwise (fun a b => b ≤ a)) : D = (sortI l).reverse := by
  have h1 : D.reverse = sortI l := by
    refine List.Perm.eq_of_pairwise (le := fun a b => a ≤ b) (fun a b _ _ h1 h2 => by omega) ?_ ?_ ?_
    · rw [List.pairwise_reverse]; exact hs
    · have := List.pairwise_mergeSort (le := fun x y : Int => decide (x ≤ y)) (fun a b c h1 h2 => by simp only [decide_eq_true_eq] at *; omega) (fun a b => by simp only [Bool.or_eq_true, decide_eq_true_eq]; omega) l
      exact this.imp (fun h => by simpa using h)
    · exact (List.reverse_perm D).trans (hp.trans (List.mergeSort_perm l _).symm)
  rw [← h1, List.reverse_reverse]
theorem prodM_perm {a b : List Int} (h : a.Perm b) : prodM a = prodM b := by
  induction h with
  | nil => rfl
  | cons x _ ih => rw [prodM_cons, prodM_cons, ih]
  | swap x y l => rw [prodM_cons, prodM_cons, prodM_cons, prodM_cons, Int.mul_left_comm]
  | trans _ _ h1 h2 => rw [h1, h2]
def divM (l : List Int) (k : Nat) : Int := prodM ((sortI l).take (l.length - k))
theorem divM_rev (l : List Int) (k : Nat) : prodM ((sortI l).reverse.drop k) = divM l k := by
  rw [divM, List.drop_reverse, sortI_len, prodM_perm (List.reverse_perm _)]
theorem szs_mem {l : List Int} : szs l ↔ ∀ x, x ∈ l → 2 ≤ x ∧ x ≤ 4 := by
  constructor
  · intro h x hx
    obtain ⟨j, hj, rfl⟩ := List.mem_iff_getElem.1 hx
    simpa [hj] using h j hj
  · intro h j hj
    exact h _ (mem_getD hj)
theorem szs_perm {a b : List Int} (h : a.Perm b) (hs : szs b) : szs a := szs_mem.2 fun x hx => szs_mem.1 hs x (h.mem_iff.1 hx)
theorem ins_pw {D : List Int} {v : Int} {p : Nat} (hD : D.Pairwise (fun a b => b ≤ a)) (hp : p ≤ D.length) (h1 : ∀ j, p ≤ j → j < D.length → D.getD j 0 < v) (h2 : p = 0 ∨ v ≤ D.getD (p - 1) 0) :
    (D.take p ++ v :: D.drop p).Pairwise (fun a b => b ≤ a) := by
  have hg := List.pairwise_iff_getElem.1 hD
  have hc := hD
  rw [← List.take_append_drop p D, List.pairwise_append] at hc
  obtain ⟨c1, c2, c3⟩ := hc
  rw [List.pairwise_append]
  refine ⟨c1, List.pairwise_cons.2 ⟨?_, c2⟩, ?_⟩
  · intro b hb
    obtain ⟨j, hj, rfl⟩ := List.mem_iff_getElem.1 hb
    simp at hj
    have := h1 (p + j) (by omega) (by omega)
    rw [List.getD_eq_getElem?_getD, List.getElem?_eq_getElem (by omega)] at this
    simp only [List.getElem_drop]; simp at this; omega
  · intro a ha b hb
    rcases List.mem_cons.1 hb with rfl | hb
    · obtain ⟨j, hj, rfl⟩ := List.mem_iff_getElem.1 ha
      simp at hj
      rcases h2 with h2 | h2
      · omega
      · rw [List.getD_eq_getElem?_getD, List.getElem?_eq_getElem (by omega)] at h2
        simp only [List.getElem_take]
        simp at h2
        by_cases e : j = p - 1
        · subst e; omega
        · have := hg j (p - 1) (by omega) (by omega) (by omega); omega
    · exact c3 a ha b hb
theorem ins_perm {D l : List Int} {v : Int} (p : Nat) (h : D.Perm l) : (D.take p ++ v :: D.drop p).Perm (l ++ [v]) := by
  refine List.perm_middle.trans ?_
  rw [List.take_append_drop]
  exact (List.Perm.cons v h).trans (List.perm_append_comm (l₁ := [v]))
theorem ins_get {D : List Int} {x : Int} {p : Nat} (hp : p ≤ D.length) {j : Nat} (h : j < p) : (D.take p ++ x :: D.drop p).getD j 0 = D.getD j 0 := by
  rw [List.getD_eq_getElem?_getD, List.getElem?_append_left (by simp; omega), List.getElem?_take_of_lt h, ← List.getD_eq_getElem?_getD]
theorem ins_set {D : List Int} {x y : Int} {p : Nat} (hp : p ≤ D.length) : (D.take p ++ x :: D.drop p).set p y = D.take p ++ y :: D.drop p := by
  rw [List.set_append_right _ _ (by simp; omega)]
  simp [Nat.min_eq_left hp]
theorem ins_back {D : List Int} {p : Nat} (hp : p ≤ D.length) (h0 : 1 ≤ p) : D.take p ++ D.getD (p - 1) 0 :: D.drop p = D.take (p - 1) ++ D.getD (p - 1) 0 :: D.drop (p - 1) := by
  obtain ⟨q, rfl⟩ : ∃ q, p = q + 1 := ⟨p - 1, by omega⟩
  rw [Nat.add_sub_cancel, take_one D (by omega), List.append_assoc, drop_cons1 (show q < D.length by omega)]; rfl
theorem d_slices_Clone_ints (t : List Int) (h : t.length < 1048577) : Den PA f_slices_Clone___int64_int64_ [.d (ints t)] [.any] (.own 1 (t.map di)) := by
  refine den_go [] l_slices_Clone___int64_int64_ ?_
  repeat' (first | simp -implicitDefEqProofs (maxSteps := 1000000) (disch := (first | omega | (simp only [go_sem] <;> omega) | fail)) only [go_sem, ints, bools, mat, c_slices_Clone___int64_int64_] | ((first | apply goIf_b | apply goG_b | apply goTG_b | apply goOG_b) <;> intro h <;> ((try simp only [hnq] at h); (try simp only [h]); (try simp only [hnr] at h))))
theorem d_impl_dividedBy (l : List Int) (k : Nat) (hs : isSpaceM l = true) (hk : k ≤ 8) : Den PA f_impl_dividedBy [.d (.agg [ints l]), .d (di k)] [.any, .any] (.d (di (divM l k))) := by
  have hn := isSpaceM_n hs
  have hz := szs_perm (List.mergeSort_perm l (fun x y => decide (x ≤ y))) (isSpaceM_szs hs)
  have hsl := sortI_len l
  refine den_go [] l_impl_dividedBy ?_
  repeat' (first | simp -implicitDefEqProofs (maxSteps := 1000000) (disch := (first | omega | (simp only [go_sem] <;> omega) | fail)) only [go_sem, ints, bools, mat, c_impl_dividedBy] | ((first | apply goIf_b | apply goG_b | apply goTG_b | apply goOG_b) <;> intro h <;> ((try simp only [hnq] at h); (try simp only [h]); (try simp only [hnr] at h))))
  first | refine goC_call [.r] (d_slices_Clone_ints l (by omega)) ?_ | refine goOC_call [.r] (d_slices_Clone_ints l (by omega)) ?_
  repeat' (first | simp -implicitDefEqProofs (maxSteps := 1000000) (disch := (first | omega | (simp only [go_sem] <;> omega) | fail)) only [go_sem, ints, bools, mat] | ((first | apply goIf_b | apply goG_b | apply goTG_b | apply goOG_b) <;> intro h <;> ((try simp only [hnq] at h); (try simp only [h]); (try simp only [hnr] at h))))
  first | refine goC_call [.o] (d_slices_Sort12 l (by omega)) ?_ | refine goOC_call [.o] (d_slices_Sort12 l (by omega)) ?_
  repeat' (first | simp -implicitDefEqProofs (maxSteps := 1000000) (disch := (first | omega | (simp only [go_sem] <;> omega) | fail)) only [go_sem, ints, bools, mat] | ((first | apply goIf_b | apply goG_b | apply goTG_b | apply goOG_b) <;> intro h <;> ((try simp only [hnq] at h); (try simp only [h]); (try simp only [hnr] at h))))
  first | refine goC_call [.r] (d_impl_places l (by omega)) ?_ | refine goOC_call [.r] (d_impl_places l (by omega)) ?_
  repeat' (first | simp -implicitDefEqProofs (maxSteps := 1000000) (disch := (first | omega | (simp only [go_sem] <;> omega) | fail)) only [go_sem, ints, bools, mat] | ((first | apply goIf_b | apply goG_b | apply goTG_b | apply goOG_b) <;> intro h <;> ((try simp only [hnq] at h); (try simp only [h]); (try simp only [hnr] at h))))
  rw [show (if (l.length : Int) - (k : Int) < 0 then 0 else (l.length : Int) - (k : Int)).toNat = l.length - k from by split <;> omega]
  have hSl : (sortI l).length = l.length := hsl
  generalize hS : sortI l = S at hSl
  have hSz : szs S := by rw [← hS]; exact hz
  refine go_loop (fun (j : Nat) => ⟨[(6, .d (di (prodM (S.take j)))), (20, .sl 0 0 (l.length - k) 1), (21, .d (di (l.length - k : Nat))), (22, .d (di j))], [some (.dat 1 (S.map di))]⟩) (fun j => j ≤ l.length - k) (fun j => l.length - k - j) 0 ?_ ?_ ?_
  · (simp -implicitDefEqProofs (maxSteps := 1000000) (disch := (first | omega | (simp only [go_sem] <;> omega) | fail)) only [go_sem, ints, bools, mat] <;> rfl)
  · simp
  · rintro j hj J hJ
    have hb := prodM_small S (j := j) (by omega) (by omega) (fun i hi => hSz i (by omega))
    have hb' := fun hj' => prodM_small S (j := j + 1) (by omega) hj' (fun i hi => hSz i (by omega))
    have hst := fun hj' => prodM_step S (j := j) hj'
    repeat' (first | simp -implicitDefEqProofs (maxSteps := 1000000) (disch := (first | omega | (simp only [go_sem] <;> omega) | fail)) only [go_sem, ints, bools, mat] | ((first | apply goIf_b | apply goG_b | apply goTG_b | apply goOG_b) <;> intro h <;> ((try simp only [hnq] at h); (try simp only [h]); (try simp only [hnr] at h))))
    · have h1 := hb' (by omega)
      rw [hst (by omega)] at h1
      refine hJ (j + 1) (by omega) (by omega) _ ?_
      simp -implicitDefEqProofs (maxSteps := 1000000) (disch := (first | omega | (simp only [go_sem] <;> omega) | fail)) only [go_sem, ints, bools, mat]
      rw [hst (by omega)]; rfl
    · have : j = l.length - k := by omega
      subst this; rw [divM, hS]
theorem d_spec_l04Over (l : List Int) (k : Nat) (hs : isSpaceM l = true) (hk : k ≤ 8) : Den PA f_spec_l04Over [.d (.agg [ints l]), .d (di k)] [.any, .any] (.d (di (divM l k))) := by
  have hn := isSpaceM_n hs
  have hp := isSpaceM_prod hs
  have hp1 := prodM_pos (isSpaceM_szs hs)
  refine den_go [] l_spec_l04Over ?_
  repeat' (first | simp -implicitDefEqProofs (maxSteps := 1000000) (disch := (first | omega | (simp only [go_sem] <;> omega) | fail)) only [go_sem, ints, bools, mat, c_spec_l04Over] | ((first | apply goIf_b | apply goG_b | apply goTG_b | apply goOG_b) <;> intro h <;> ((try simp only [hnq] at h); (try simp only [h]); (try simp only [hnr] at h))))
  first | refine goC_call [.r] (d_spec_l01N l (by omega) (isSpaceM_q hs)) ?_ | refine goOC_call [.r] (d_spec_l01N l (by omega) (isSpaceM_q hs)) ?_
  repeat' (first | simp -implicitDefEqProofs (maxSteps := 1000000) (disch := (first | omega | (simp only [go_sem] <;> omega) | fail)) only [go_sem, ints, bools, mat] | ((first | apply goIf_b | apply goG_b | apply goTG_b | apply goOG_b) <;> intro h <;> ((try simp only [hnq] at h); (try simp only [h]); (try simp only [hnr] at h))))
  refine go_loop (fun (p : Nat × List Int) => ⟨[(1, .d (di k)), (2, .ref 0 0), (5, .sl 1 0 p.2.length 1), (6, .d (di (prodM l))), (7, .d (di p.1))], [some (.var [ints l]), some (.dat 1 (p.2.map di))]⟩)
    (fun p => p.1 ≤ l.length ∧ p.2.length = p.1 ∧ p.2.Perm (l.take p.1) ∧ p.2.Pairwise (fun a b => b ≤ a)) (fun p => l.length - p.1) (0, []) ?_ ?_ ?_
  · (simp -implicitDefEqProofs (maxSteps := 1000000) (disch := (first | omega | (simp only [go_sem] <;> omega) | fail)) only [go_sem, ints, bools, mat] <;> rfl)
  · simp
  · rintro ⟨i, D⟩ ⟨h1, h2, h3, h4⟩ J hJ
    simp only at h1 h2 h3 h4 hJ
    repeat' (first | simp -implicitDefEqProofs (maxSteps := 1000000) (disch := (first | omega | (simp only [go_sem] <;> omega) | fail)) only [go_sem, ints, bools, mat] | ((first | apply goIf_b | apply goG_b | apply goTG_b | apply goOG_b) <;> intro h <;> ((try simp only [hnq] at h); (try simp only [h]); (try simp only [hnr] at h))))
    · refine go_loop (fun (p : Nat × Int) => ⟨[(1, .d (di k)), (2, .ref 0 0), (5, .sl 1 0 (D.length + 1) 1), (6, .d (di (prodM l))), (7, .d (di i)), (8, .d (di p.1))], [some (.var [ints l]), some (.dat 1 ((D.take p.1 ++ p.2 :: D.drop p.1).map di))]⟩)
        (fun p => p.1 ≤ D.length ∧ ∀ j, p.1 ≤ j → j < D.length → D.getD j 0 < l.getD i 0) (fun p => p.1) (D.length, l.getD i 0) ?_ ?_ ?_
      · simp -implicitDefEqProofs (maxSteps := 1000000) (disch := (first | omega | (simp only [go_sem] <;> omega) | fail)) only [go_sem, ints, bools, mat]
      · exact ⟨Nat.le_refl _, fun j a b => by omega⟩
      · rintro ⟨p, x⟩ ⟨g1, g2⟩ K hK
        simp only at g1 g2 hK
        have hgx := fun h => ins_get (D := D) (x := x) (p := p) g1 (j := p - 1) h
        have hst := fun y => ins_set (D := D) (x := x) (y := y) g1
        have hbk := ins_back g1
        repeat' (first | simp -implicitDefEqProofs (maxSteps := 1000000) (disch := (first | omega | (simp only [go_sem] <;> omega) | fail)) only [go_sem, ints, bools, mat] | ((first | apply goIf_b | apply goG_b | apply goTG_b | apply goOG_b) <;> intro h <;> ((try simp only [hnq] at h); (try simp only [h]); (try simp only [hnr] at h))))
        · have e := hgx (by omega)
          refine hK (p - 1, D.getD (p - 1) 0) ⟨by simp only; omega, fun j a b => ?_⟩ (by simp only; omega) _ ?_
          · by_cases hj : j = p - 1
            · subst hj; rw [← e]; assumption
            · exact g2 j (by simp only at a; omega) b
          · simp -implicitDefEqProofs (maxSteps := 1000000) (disch := (first | omega | (simp only [go_sem] <;> omega) | fail)) only [go_sem, ints, bools, mat]
            rw [e, hst, hbk (by omega)]
            simp [-List.getD_eq_getElem?_getD]; try omega
        · have e := hgx (by omega)
          refine hJ (i + 1, D.take p ++ l.getD i 0 :: D.drop p) ⟨by simp only; omega, by simp; omega, ?_, ?_⟩ (by simp only; omega) _ ?_
          · simp only; rw [take_one l (by omega)]; exact ins_perm p h3
          · exact ins_pw h4 g1 g2 (.inr (by omega))
          · simp -implicitDefEqProofs (maxSteps := 1000000) (disch := (first | omega | (simp only [go_sem] <;> omega) | fail)) only [go_sem, ints, bools, mat]
            rw [hst]
            simp [-List.getD_eq_getElem?_getD]; try omega
        · refine hJ (i + 1, D.take p ++ l.getD i 0 :: D.drop p) ⟨by simp only; omega, by simp; omega, ?_, ?_⟩ (by simp only; omega) _ ?_
          · simp only; rw [take_one l (by omega)]; exact ins_perm p h3
          · exact ins_pw h4 g1 g2 (.inl (by omega))
          · simp -implicitDefEqProofs (maxSteps := 1000000) (disch := (first | omega | (simp only [go_sem] <;> omega) | fail)) only [go_sem, ints, bools, mat]
            rw [hst]
            simp [-List.getD_eq_getElem?_getD]; try omega
    · have hi : i = l.length := by omega
      subst hi
      rw [List.take_length] at h3
      have hD := srt_eq h3 h4
      have hDz := szs_perm h3 (isSpaceM_szs hs)
      have hp0 : prodM D = prodM l := prodM_perm h3
      have hdv : ∀ j, prodM (D.drop j) = divM l j := fun j => by rw [hD]; exact divM_rev l j
      refine go_loop (fun (j : Nat) => ⟨[(1, .d (di k)), (5, .sl 0 0 D.length 1), (6, .d (di (prodM (D.drop j)))), (9, .d (di j))], [some (.dat 1 (D.map di))]⟩) (fun j => j ≤ l.length ∧ j ≤ k) (fun j => l.length - j) 0 ?_ ?_ ?_
      · simp -implicitDefEqProofs (maxSteps := 1000000) (disch := (first | omega | (simp only [go_sem] <;> omega) | fail)) only [go_sem, ints, bools, mat]; simp [hp0]
      · simp
      · rintro j ⟨g1, g2⟩ K hK
        have q1 := prodM_pos (szs_drop hDz j)
        have q2 := hDz j
        have q3 := fun h => prodM_drop (l := D) (i := j) h
        have q4 : j < D.length → prodM (D.drop j) / D.getD j 0 = prodM (D.drop (j + 1)) := fun h => by
          rw [q3 h]; exact Int.mul_ediv_cancel_left _ (by have := q2 h; omega)
        have q5 := prodM_small (D.drop (j + 1)) (j := (D.drop (j + 1)).length) (by simp; omega) (Nat.le_refl _) (fun i hi => szs_drop hDz (j + 1) i hi)
        rw [List.take_length] at q5
        repeat' (first | simp -implicitDefEqProofs (maxSteps := 1000000) (disch := (first | omega | (simp only [go_sem] <;> omega) | fail)) only [go_sem, ints, bools, mat] | ((first | apply goIf_b | apply goG_b | apply goTG_b | apply goOG_b) <;> intro h <;> ((try simp only [hnq] at h); (try simp only [h]); (try simp only [hnr] at h))))
        · have q6 := q4 (by omega)
          rw [q6]
          refine hK (j + 1) ⟨by omega, by omega⟩ (by omega) _ ?_
          (simp -implicitDefEqProofs (maxSteps := 1000000) (disch := (first | omega | (simp only [go_sem] <;> omega) | fail)) only [go_sem, ints, bools, mat] <;> rfl)
        · have : j = l.length := by omega
          subst this
          rw [hdv, divM, divM, Nat.sub_self, Nat.sub_eq_zero_of_le g2]
        · have : j = k := by omega
          subst this
          rw [hdv]
abbrev rcM (l : List Int) (r : Int) : Int := if isSpaceM l then (if 0 ≤ r ∧ r ≤ 8 then 0 else 2) else 1
theorem rcM_ok {l : List Int} {r : Int} (h : rcM l r = 0) : isSpaceM l = true ∧ 0 ≤ r ∧ r ≤ 8 := by
  unfold rcM at h
  split at h
  · rename_i hs
    split at h
    · rename_i hd; exact ⟨hs, hd⟩
    · cases h
  · cases h
theorem wcM_zero (l : List Int) : wcM l [0] = if isSpaceM l then 0 else 1 := by
  unfold wcM
  split
  · rename_i hs
    have := prodM_pos (isSpaceM_szs hs)
    rw [if_pos]
    rw [areW_ok]; intro j hj; simp at hj; subst hj; simp; omega
  · rfl
theorem d_impl_ballCode0 (l : List Int) (r : Int) (hl : l.length < 1048577) : Den PA f_impl_ballCode [.d (.agg [ints l]), .d (di 0), .d (di r)] [.any, .any, .any] (.d (di (rcM l r))) := by
  refine den_go [] l_impl_ballCode ?_
  repeat' (first | simp -implicitDefEqProofs (maxSteps := 1000000) (disch := (first | omega | (simp only [go_sem] <;> omega) | fail)) only [go_sem, ints, bools, mat, c_impl_ballCode] | ((first | apply goIf_b | apply goG_b | apply goTG_b | apply goOG_b) <;> intro h <;> ((try simp only [hnq] at h); (try simp only [h]); (try simp only [hnr] at h))))
  first | refine goC_call [.r, .r] (d_impl_wordCode l hl _ [0] (.inl rfl) (by simp)) ?_ | refine goOC_call [.r, .r] (d_impl_wordCode l hl _ [0] (.inl rfl) (by simp)) ?_
  rw [wcM_zero, rcM]
  cases hs : isSpaceM l with
  | false => 
    simp only [Bool.false_eq_true, if_false]
    repeat' (first | simp -implicitDefEqProofs (maxSteps := 1000000) (disch := (first | omega | (simp only [go_sem] <;> omega) | fail)) only [go_sem, ints, bools, mat] | ((first | apply goIf_b | apply goG_b | apply goTG_b | apply goOG_b) <;> intro h <;> ((try simp only [hnq] at h); (try simp only [h]); (try simp only [hnr] at h)) <;> (try (exfalso; omega))))
  | true =>
    simp only [if_true]
    repeat' (first | simp -implicitDefEqProofs (maxSteps := 1000000) (disch := (first | omega | (simp only [go_sem] <;> omega) | fail)) only [go_sem, ints, bools, mat] | ((first | apply goIf_b | apply goG_b | apply goTG_b | apply goOG_b) <;> intro h <;> ((try simp only [hnq] at h); (try simp only [h]); (try simp only [hnr] at h))))
    first | refine goC_call [.r] (d_impl_isRadius r) ?_ | refine goOC_call [.r] (d_impl_isRadius r) ?_
    repeat' (first | simp -implicitDefEqProofs (maxSteps := 1000000) (disch := (first | omega | (simp only [go_sem] <;> omega) | fail)) only [go_sem, ints, bools, mat] | ((first | apply goIf_b | apply goG_b | apply goTG_b | apply goOG_b) <;> intro h <;> ((try simp only [hnq] at h); (try simp only [h]); (try simp only [hnr] at h))))
    all_goals first | rw [if_pos (by omega)] | rw [if_neg (by omega)]
abbrev fbR (l : List Int) (r : Int) : R := .tup [.d (di (if rcM l r = 0 then divM l r.toNat else 0)), .d (di (rcM l r))]
theorem d_impl_FreeBound (l : List Int) (d : Int) (hl : l.length < 1048577) : Den PA f_impl_FreeBound [.d (.agg [ints l]), .d (di d)] [.any, .any] (fbR l d) := by
  refine den_go [] l_impl_FreeBound ?_
  repeat' (first | simp -implicitDefEqProofs (maxSteps := 1000000) (disch := (first | omega | (simp only [go_sem] <;> omega) | fail)) only [go_sem, ints, bools, mat, c_impl_FreeBound] | ((first | apply goIf_b | apply goG_b | apply goTG_b | apply goOG_b) <;> intro h <;> ((try simp only [hnq] at h); (try simp only [h]); (try simp only [hnr] at h))))
  first | refine goC_call [.r, .r, .r] (d_impl_ballCode0 l d hl) ?_ | refine goOC_call [.r, .r, .r] (d_impl_ballCode0 l d hl) ?_
  by_cases h : rcM l d = 0
  · rw [fbR, if_pos h, h]
    obtain ⟨hs, hd⟩ := rcM_ok h
    obtain ⟨k, rfl⟩ : ∃ k : Nat, d = k := ⟨d.toNat, by omega⟩
    rw [Int.toNat_natCast]
    repeat' (first | simp -implicitDefEqProofs (maxSteps := 1000000) (disch := (first | omega | (simp only [go_sem] <;> omega) | fail)) only [go_sem, ints, bools, mat] | ((first | apply goIf_b | apply goG_b | apply goTG_b | apply goOG_b) <;> intro h <;> ((try simp only [hnq] at h); (try simp only [h]); (try simp only [hnr] at h))))
    first | refine goC_call [.r, .r] (d_impl_dividedBy l k hs (by omega)) ?_ | refine goOC_call [.r, .r] (d_impl_dividedBy l k hs (by omega)) ?_
    repeat' (first | simp -implicitDefEqProofs (maxSteps := 1000000) (disch := (first | omega | (simp only [go_sem] <;> omega) | fail)) only [go_sem, ints, bools, mat] | ((first | apply goIf_b | apply goG_b | apply goTG_b | apply goOG_b) <;> intro h <;> ((try simp only [hnq] at h); (try simp only [h]); (try simp only [hnr] at h))))
  · rw [fbR, if_neg h]
    generalize rcM l d = b at h
    repeat' (first | simp -implicitDefEqProofs (maxSteps := 1000000) (disch := (first | omega | (simp only [go_sem] <;> omega) | fail)) only [go_sem, ints, bools, mat] | ((first | apply goIf_b | apply goG_b | apply goTG_b | apply goOG_b) <;> intro h <;> ((try simp only [hnq] at h); (try simp only [h]); (try simp only [hnr] at h))))
    all_goals (exfalso; omega)
theorem d_spec_l04Code8 (l : List Int) (hl : l.length < 1048577) (d : Int) : Den PA f_spec_l04Code [.d (.agg [ints l]), .d (di d), .d (di 0), .d (di 8)] [.any, .any, .any, .any] (.d (di (rcM l d))) := d_spec_l04Code l hl d 0 8
theorem d_spec_FreeBound (l : List Int) (d : Int) (hl : l.length < 1048577) : Den PA f_spec_FreeBound [.d (.agg [ints l]), .d (di d)] [.any, .any] (fbR l d) := by
  refine den_go [] l_spec_FreeBound ?_
  repeat' (first | simp -implicitDefEqProofs (maxSteps := 1000000) (disch := (first | omega | (simp only [go_sem] <;> omega) | fail)) only [go_sem, ints, bools, mat, c_spec_FreeBound] | ((first | apply goIf_b | apply goG_b | apply goTG_b | apply goOG_b) <;> intro h <;> ((try simp only [hnq] at h); (try simp only [h]); (try simp only [hnr] at h))))
  first | refine goC_call [.r, .r, .r, .r] (d_spec_l04Code8 l hl d) ?_ | refine goOC_call [.r, .r, .r, .r] (d_spec_l04Code8 l hl d) ?_
  by_cases h : rcM l d = 0
  · rw [fbR, if_pos h, h]
    obtain ⟨hs, hd⟩ := rcM_ok h
    obtain ⟨k, rfl⟩ : ∃ k : Nat, d = k := ⟨d.toNat, by omega⟩
    rw [Int.toNat_natCast]
    repeat' (first | simp -implicitDefEqProofs (maxSteps := 1000000) (disch := (first | omega | (simp only [go_sem] <;> omega) | fail)) only [go_sem, ints, bools, mat] | ((first | apply goIf_b | apply goG_b | apply goTG_b | apply goOG_b) <;> intro h <;> ((try simp only [hnq] at h); (try simp only [h]); (try simp only [hnr] at h))))
    first | refine goC_call [.r, .r] (d_spec_l04Over l k hs (by omega)) ?_ | refine goOC_call [.r, .r] (d_spec_l04Over l k hs (by omega)) ?_
    repeat' (first | simp -implicitDefEqProofs (maxSteps := 1000000) (disch := (first | omega | (simp only [go_sem] <;> omega) | fail)) only [go_sem, ints, bools, mat] | ((first | apply goIf_b | apply goG_b | apply goTG_b | apply goOG_b) <;> intro h <;> ((try simp only [hnq] at h); (try simp only [h]); (try simp only [hnr] at h))))
  · rw [fbR, if_neg h]
    generalize rcM l d = b at h
    repeat' (first | simp -implicitDefEqProofs (maxSteps := 1000000) (disch := (first | omega | (simp only [go_sem] <;> omega) | fail)) only [go_sem, ints, bools, mat] | ((first | apply goIf_b | apply goG_b | apply goTG_b | apply goOG_b) <;> intro h <;> ((try simp only [hnq] at h); (try simp only [h]); (try simp only [hnr] at h))))
    all_goals (exfalso; omega)
theorem digM_get : ∀ (l : List Int) (w : Int) (i : Nat), i < l.length → (digM l w).getD i 0 = (w / prodM (l.drop (i + 1))) % l.getD i 0
  | q :: r, w, 0, _ => by simp [digM]
  | q :: r, w, i + 1, h => by
    have := digM_get r w i (by simpa using h)
    simpa [digM] using this
theorem wordN_div {l d : List Int} (hz : szs l) (hd : ∀ i, i < l.length → 0 ≤ d.getD i 0 ∧ d.getD i 0 < l.getD i 0) : ∀ (k i : Nat), i + k = l.length → wordN l d l.length / prodM (l.drop i) = wordN l d i
  | 0, i, h => by
    have : i = l.length := by omega
    subst this; rw [List.drop_length, prodM_nil, Int.ediv_one]
  | k + 1, i, h => by
    rw [← div_step hz (show i < l.length by omega), wordN_div hz hd k (i + 1) (by omega), wordN]
    have h1 := hd i (by omega)
    rw [Int.add_comm, Int.add_mul_ediv_right _ _ (by omega), Int.ediv_eq_zero_of_lt h1.1 h1.2, Int.zero_add]
theorem digM_word {l d : List Int} (hz : szs l) (hl : d.length = l.length) (hd : ∀ i, i < l.length → 0 ≤ d.getD i 0 ∧ d.getD i 0 < l.getD i 0) : digM l (wordN l d l.length) = d := by
  apply eq_getD
  · rw [digM_len, hl]
  · intro i hi
    rw [digM_len] at hi
    rw [digM_get l _ i hi, wordN_div hz hd (l.length - (i + 1)) (i + 1) (by omega), wordN]
    have h1 := hd i hi
    rw [Int.add_comm, Int.add_mul_emod_self_right, Int.emod_eq_of_lt h1.1 h1.2]
theorem code_mem {l c : List Int} (hcc : isCodeM l c = true) {u : Int} (hu : u ∈ c) : 0 ≤ u ∧ u < prodM l := by
  obtain ⟨i, hi, rfl⟩ := List.mem_iff_getElem.1 hu
  have := isCodeM_get hcc hi
  simpa [hi] using this
theorem dig_lt {l : List Int} (hz : szs l) (w : Int) {i : Nat} (h : i < l.length) : 0 ≤ (digM l w).getD i 0 ∧ (digM l w).getD i 0 < l.getD i 0 := by
  rw [digM_get l w i h]
  have := mod_bnd (x := w / prodM (l.drop (i + 1))) (hz i h)
  omega
def fdB (d : List Int) (i : Nat) : Bool := (d.getD i 0 != 0) && (List.range i).all fun j => d.getD j 0 == 0
def pvB (l c : List Int) (j i : Nat) : Bool := (List.range j).any fun k => fdB (digM l (c.getD k 0)) i
theorem code_nodup {l c : List Int} (hcc : isCodeM l c = true) : ∀ i k, i < k → k < c.length → c.getD i 0 < c.getD k 0 := by
  intro i k hik hk
  induction k with
  | zero => omega
  | succ k ih =>
    have h1 := ((isCodeM_ok l c).1 hcc).2 k hk
    by_cases e : i = k
    · subst e; exact h1
    · have := ih (by omega) (by omega); omega
@[go_sem] theorem flat_dy (l : List Int) : flat (l.map dy) = l.map dy := flat_one _ l
@[go_sem] theorem all_one_dy (l : List Int) : (l.map dy).all isOne = true := by rw [List.all_map]; simp [isOne]
attribute [go_sem] slaM
def firN (l c : List Int) (n j : Nat) : List Bool := (List.range n).map fun i => pvB l c j i
@[go_sem] theorem firN_len (l c : List Int) (n j : Nat) : (firN l c n j).length = n := by simp [firN]
@[go_sem] theorem getB2 {l : List Bool} {j : Nat} (h : j < l.length) : (l.map db)[j]? = some (db (l.getD j false)) := by simp [h]
@[go_sem] theorem mask32 {x : Int} (h : 0 ≤ x) (h' : x < 4294967296) : binA .and (.d (.v (.int .u64 x))) (.d (.v (.int .u64 4294967295))) = some (.d (.v (.int .u64 x))) := by
  have e : (BitVec.ofInt 64 x &&& BitVec.ofInt 64 4294967295).toNat = x.toNat := by
    rw [BitVec.toNat_and, ofInt_nat h (by omega), ofInt_nat (by omega) (by omega)]
    have := Nat.and_two_pow_sub_one_eq_mod x.toNat 32
    rw [show (4294967295 : Int).toNat = 2 ^ 32 - 1 from rfl, this]
    exact Nat.mod_eq_of_lt (by omega)
  have e2 : binI .and .u64 x 4294967295 = some (.int .u64 (IntKind.wrap .u64 ((BitVec.ofInt 64 x &&& BitVec.ofInt 64 4294967295).toNat : Nat))) := rfl
  simp only [binA, e2, BinOp.isShift, or_true, if_true, e, Option.map_some]
  rw [wrap_u64 (by omega) (by omega), Int.toNat_of_nonneg h]
@[go_sem] theorem shr32 {x : Int} (h : 0 ≤ x) (h' : x < 4294967296) : binA .shr (.d (.v (.int .u64 x))) (.d (.v (.int .u64 32))) = some (.d (.v (.int .u64 0))) := by
  have e : min (32 : Int).toNat 64 = 32 := rfl
  have h1 : (0 : Int) ≤ 2 ^ 32 := by decide
  simp only [binA, binI, BinOp.isShift, true_or, if_true, if_neg (show ¬ (32 : Int) < 0 by omega), IntKind.bits, e, Option.map_some, Int.fdiv_eq_ediv_of_nonneg _ h1]
  rw [Int.ediv_eq_zero_of_lt h (by exact h')]
@[go_sem] theorem cast_one1 : ((1 : Nat) : Int) = 1 := rfl
theorem d_bits_Mul64 (n : Nat) (h : n < 1048577) : Den PA f_math_bits_Mul64 [.d (.v (.int .u64 1)), .d (.v (.int .u64 n))] [.any, .any] (.tup [.d (.v (.int .u64 0)), .d (.v (.int .u64 n))]) := by
  refine den_go [] l_math_bits_Mul64 ?_
  repeat' (first | simp -implicitDefEqProofs (maxSteps := 1000000) (disch := (first | omega | (simp only [go_sem] <;> omega) | fail)) only [go_sem, ints, bools, mat, c_math_bits_Mul64, Int.one_mul, Int.zero_mul, Int.mul_zero, Int.add_zero] | ((first | apply goIf_b | apply goG_b | apply goTG_b | apply goOG_b) <;> intro h <;> ((try simp only [hnq] at h); (try simp only [h]); (try simp only [hnr] at h))))
theorem d_bits_Mul (n : Nat) (h : n < 1048577) : Den PA f_math_bits_Mul [.d (.v (.int .u64 1)), .d (.v (.int .u64 n))] [.any, .any] (.tup [.d (.v (.int .u64 0)), .d (.v (.int .u64 n))]) := by
  refine den_go [] l_math_bits_Mul ?_
  repeat' (first | simp -implicitDefEqProofs (maxSteps := 1000000) (disch := (first | omega | (simp only [go_sem] <;> omega) | fail)) only [go_sem, ints, bools, mat, c_math_bits_Mul] | ((first | apply goIf_b | apply goG_b | apply goTG_b | apply goOG_b) <;> intro h <;> ((try simp only [hnq] at h); (try simp only [h]); (try simp only [hnr] at h))))
  first | refine goC_call [.r, .r] (d_bits_Mul64 n h) ?_ | refine goOC_call [.r, .r] (d_bits_Mul64 n h) ?_
  repeat' (first | simp -implicitDefEqProofs (maxSteps := 1000000) (disch := (first | omega | (simp only [go_sem] <;> omega) | fail)) only [go_sem, ints, bools, mat] | ((first | apply goIf_b | apply goG_b | apply goTG_b | apply goOG_b) <;> intro h <;> ((try simp only [hnq] at h); (try simp only [h]); (try simp only [hnr] at h))))
theorem rep_copy (v : Int) {n m k : Nat} (hk : k = min (n - m) (min m (m + (n - m)))) (h2 : m ≤ n) :
    List.take m (List.replicate m v ++ List.replicate (n - m) 0) ++ List.take (n - m) (List.take m (List.replicate m v ++ List.replicate (n - m) 0)) ++ List.drop (m + k) (List.replicate m v ++ List.replicate (n - m) 0) = List.replicate (m + k) v ++ List.replicate (n - (m + k)) 0 := by
  rw [List.take_append_of_le_length (by simp), List.take_of_length_le (by simp), List.drop_append, List.drop_of_length_le (by simp), List.nil_append, List.drop_replicate, List.length_replicate, List.take_replicate, List.replicate_append_replicate]
  congr 2
  · omega
  · omega
theorem d_slices_Repeat (v : Int) (n : Nat) (h1 : 1 ≤ n) (h : n < 1048577) : Den PA f_slices_Repeat___int64_int64_ [.d (ints [v]), .d (di n)] [.any, .any] (.own 1 ((List.replicate n v).map di)) := by
  refine den_go [] l_slices_Repeat___int64_int64_ ?_
  repeat' (first | simp -implicitDefEqProofs (maxSteps := 1000000) (disch := (first | omega | (simp only [go_sem] <;> omega) | fail)) only [go_sem, ints, bools, mat, c_slices_Repeat___int64_int64_] | ((first | apply goIf_b | apply goG_b | apply goTG_b | apply goOG_b) <;> intro h <;> ((try simp only [hnq] at h); (try simp only [h]); (try simp only [hnr] at h)) <;> (try (exfalso; omega))))
  first | refine goC_call [.r, .r] (d_bits_Mul n (by omega)) ?_ | refine goOC_call [.r, .r] (d_bits_Mul n (by omega)) ?_
  repeat' (first | simp -implicitDefEqProofs (maxSteps := 1000000) (disch := (first | omega | (simp only [go_sem] <;> omega) | fail)) only [go_sem, ints, bools, mat] | ((first | apply goIf_b | apply goG_b | apply goTG_b | apply goOG_b) <;> intro h <;> ((try simp only [hnq] at h); (try simp only [h]); (try simp only [hnr] at h)) <;> (try (exfalso; omega))))
  refine go_loop (fun (m : Nat) => ⟨[(7, .sl 0 0 n 1), (8, .d (di m))], [some (.dat 1 ((List.replicate m v ++ List.replicate (n - m) 0).map di))]⟩) (fun m => 1 ≤ m ∧ m ≤ n) (fun m => n - m) 1 ?_ ?_ ?_
  · simp -implicitDefEqProofs (maxSteps := 1000000) (disch := (first | omega | (simp only [go_sem] <;> omega) | fail)) only [go_sem, ints, bools, mat]
    rw [show min 1 n = 1 by omega, show min n 1 = 1 by omega, List.drop_replicate]; rfl
  · exact ⟨Nat.le_refl _, h1⟩
  · rintro m ⟨hm1, hm2⟩ J hJ
    repeat' (first | simp -implicitDefEqProofs (maxSteps := 1000000) (disch := (first | omega | (simp only [go_sem] <;> omega) | fail)) only [go_sem, ints, bools, mat] | ((first | apply goIf_b | apply goG_b | apply goTG_b | apply goOG_b) <;> intro h <;> ((try simp only [hnq] at h); (try simp only [h]); (try simp only [hnr] at h)) <;> (try (exfalso; omega))))
    · refine hJ (m + min (n - m) (min m (m + (n - m)))) ⟨by omega, by omega⟩ (by omega) _ ?_
      simp -implicitDefEqProofs (maxSteps := 1000000) (disch := (first | omega | (simp only [go_sem] <;> omega) | fail)) only [go_sem, ints, bools, mat]
      rw [rep_copy v rfl hm2, Int.natCast_add, Nat.min_comm (min m (m + (n - m)))]
    · have : m = n := by omega
      subst this
      simp
def vecs : List Int → List (List Int)
  | [] => [[]]
  | q :: r => (List.range q.toNat).flatMap fun (d : Nat) => (vecs r).map fun v => (d : Int) :: v
theorem range_mul (b : Nat) : ∀ a : Nat, List.range (a * b) = (List.range a).flatMap fun i => (List.range b).map fun j => i * b + j
  | 0 => by simp
  | a + 1 => by
    rw [Nat.add_mul, Nat.one_mul, List.range_add, range_mul b a, List.range_succ, List.flatMap_append]
    simp
theorem digM_per : ∀ {r : List Int}, szs r → ∀ (w d : Int), digM r (w + d * prodM r) = digM r w
  | [], _, _, _ => rfl
  | q :: r, h, w, d => by
    have hp := prodM_pos (szs_tail h)
    rw [digM, digM, prodM_cons, ← Int.mul_assoc, digM_per (szs_tail h), Int.add_mul_ediv_right _ _ (by omega), Int.add_mul_emod_self_right]
theorem vecs_ok : ∀ {l : List Int}, szs l → (allW l).map (digM l) = vecs l
  | [], _ => by simp [allW, prodM_nil, vecs, digM, List.range_succ]
  | q :: r, h => by
    have hp := prodM_pos (szs_tail h)
    have hq := h 0 (by simp)
    simp at hq
    have ih := vecs_ok (szs_tail h)
    rw [vecs, ← ih]
    have e : (prodM (q :: r)).toNat = q.toNat * (prodM r).toNat := by rw [prodM_cons, Int.toNat_mul (by omega) (by omega)]
    have fc : ∀ (L : List Nat) (f g : Nat → List (List Int)), (∀ a, a ∈ L → f a = g a) → L.flatMap f = L.flatMap g := fun L f g hh => by
      induction L with
      | nil => rfl
      | cons x L ih => rw [List.flatMap_cons, List.flatMap_cons, hh x List.mem_cons_self, ih fun a ha => hh a (List.mem_cons_of_mem _ ha)]
    rw [allW, e, range_mul, List.map_flatMap, List.map_flatMap]
    refine fc _ _ _ fun d hd => ?_
    have hd := List.mem_range.1 hd
    rw [allW, List.map_map, List.map_map, List.map_map, List.map_map]
    refine List.map_congr_left fun j hj => ?_
    have hj := List.mem_range.1 hj
    simp only [Function.comp]
    have e2 : ((d * (prodM r).toNat + j : Nat) : Int) = (j : Int) + (d : Int) * prodM r := by
      rw [Int.natCast_add, Int.natCast_mul, Int.toNat_of_nonneg (by omega)]; omega
    rw [e2, digM, digM_per (szs_tail h), Int.add_mul_ediv_right _ _ (by omega), Int.ediv_eq_zero_of_lt (by omega) (by omega), Int.zero_add, Int.emod_eq_of_lt (by omega) (by omega)]
def dn (f : Nat → Int) (k : Nat) : Int := if k = 0 then 0 else f (k - 1)
def mulB (b : Int) (f : Nat → Int) (k : Nat) : Int := f k + b * dn f k
def FL (n : Nat) (f : Nat → Int) : List Int := (List.range (n + 1)).map f
@[go_sem] theorem FL_len (n : Nat) (f : Nat → Int) : (FL n f).length = n + 1 := by simp [FL]
theorem mulB_comm (a b : Int) (f : Nat → Int) : mulB a (mulB b f) = mulB b (mulB a f) := by
  funext k
  simp only [mulB, dn]
  split
  · omega
  · split
    · simp only [Int.mul_zero, Int.add_zero]; omega
    · simp only [Int.mul_add]
      rw [Int.mul_left_comm]; omega
@[go_sem] theorem tn1 (f r : Nat) : ((f : Int) + (2 * (r : Int) + 1)).toNat = f + (2 * r + 1) := by omega
@[go_sem] theorem tn2 (f r : Nat) : ((f : Int) + (2 * (r : Int) + 1) + 1).toNat = f + (2 * r + 2) := by omega
@[go_sem] theorem tn3 (f r : Nat) : ((f : Int) + (2 * (r : Int) + 1 + 1)).toNat = f + (2 * r + 2) := by omega
@[go_sem] theorem tn4 (f r : Nat) : ((f : Int) + (r : Int)).toNat = f + r := by omega
theorem d_slices_Sort (l : List Int) (h : l.length < 4611686018427387904) : Den PA f_slices_Sort___int64_int64_ [.own 1 (l.map di)] [.own 1 ((sortI l).map di)] (.tup []) := den_sort (okF_low l_slices_Sort___int64_int64_) sort_calls l h
def cpN (l : List Int) : Nat → List Int
  | 0 => []
  | m + 1 => if m = 0 ∨ l.getD m 0 ≠ l.getD (m - 1) 0 then cpN l m ++ [l.getD m 0] else cpN l m
abbrev cpM (l : List Int) : List Int := cpN l l.length
abbrev Asc (l : List Int) : Prop := l.Pairwise (· < ·)
theorem asc_ext : ∀ {a b : List Int}, Asc a → Asc b → (∀ x, x ∈ a ↔ x ∈ b) → a = b
  | [], [], _, _, _ => rfl
  | [], y :: s, _, _, h => by have := (h y).2 (by simp); simp at this
  | x :: r, [], _, _, h => by have := (h x).1 (by simp); simp at this
  | x :: r, y :: s, ha, hb, h => by
    obtain ⟨a1, a2⟩ := List.pairwise_cons.1 ha
    obtain ⟨b1, b2⟩ := List.pairwise_cons.1 hb
    have hxy : x = y := by
      have h1 := (h x).1 (by simp)
      have h2 := (h y).2 (by simp)
      simp only [List.mem_cons] at h1 h2
      rcases h1 with h1 | h1
      · exact h1
      · rcases h2 with h2 | h2
        · exact h2.symm
        · have := b1 x h1; have := a1 y h2; omega
    subst hxy
    rw [asc_ext a2 b2 fun z => ?_]
    have := h z
    simp only [List.mem_cons] at this
    constructor
    · intro hz
      rcases this.1 (.inr hz) with e | e
      · have := a1 z hz; omega
      · exact e
    · intro hz
      rcases this.2 (.inr hz) with e | e
      · have := b1 z hz; omega
      · exact e
theorem asc_snoc {l : List Int} {x : Int} (h : Asc l) (hx : ∀ y, y ∈ l → y < x) : Asc (l ++ [x]) := by
  refine List.pairwise_append.2 ⟨h, by simp, fun a ha b hb => ?_⟩
  simp at hb; subst hb; exact hx a ha
theorem cpN_ok {l : List Int} (hs : l.Pairwise (· ≤ ·)) : ∀ m, m ≤ l.length → Asc (cpN l m) ∧ (∀ x, x ∈ cpN l m ↔ x ∈ l.take m)
  | 0, _ => by simp [cpN, Asc]
  | m + 1, h => by
    obtain ⟨h1, h2⟩ := cpN_ok hs m (by omega)
    have hm : ∀ x, x ∈ l.take m → x ≤ l.getD m 0 := fun x hx => by
      obtain ⟨i, hi, rfl⟩ := List.mem_iff_getElem.1 hx
      simp at hi
      have := List.pairwise_iff_getElem.1 hs i m (by omega) (by omega) (by omega)
      simpa [show m < l.length by omega] using this
    have ht : l.take (m + 1) = l.take m ++ [l.getD m 0] := by rw [List.take_add_one]; simp [show m < l.length by omega]
    rw [cpN, ht]
    split
    · rename_i hc
      refine ⟨asc_snoc h1 fun y hy => ?_, fun x => by simp only [List.mem_append, h2]⟩
      rw [h2] at hy
      rcases hc with rfl | hc
      · simp at hy
      · obtain ⟨i, hi, rfl⟩ := List.mem_iff_getElem.1 hy
        simp at hi
        have e1 : (l.take m)[i] ≤ l.getD (m - 1) 0 := by
          rcases Nat.lt_or_ge i (m - 1) with hlt | hge
          · have := List.pairwise_iff_getElem.1 hs i (m - 1) (by omega) (by omega) hlt
            simpa [show m - 1 < l.length by omega] using this
          · have : i = m - 1 := by omega
            subst this; simp [show m - 1 < l.length by omega]
        have e2 : l.getD (m - 1) 0 ≤ l.getD m 0 := by
          have := List.pairwise_iff_getElem.1 hs (m - 1) m (by omega) (by omega) (by omega)
          simpa [show m - 1 < l.length by omega, show m < l.length by omega] using this
        omega
    · rename_i hc
      refine ⟨h1, fun x => ?_⟩
      rw [h2, List.mem_append]
      constructor
      · exact .inl
      · rintro (hx | hx)
        · exact hx
        · simp only [List.mem_singleton] at hx
          have hm0 : m ≠ 0 := fun e => hc (.inl e)
          have he : l.getD m 0 = l.getD (m - 1) 0 := Decidable.not_not.1 fun e => hc (.inr e)
          rw [hx, he]
          refine List.mem_iff_getElem.2 ⟨m - 1, by simp; omega, ?_⟩
          simp [show m - 1 < l.length by omega]
theorem sortI_sorted (l : List Int) : (sortI l).Pairwise (· ≤ ·) := by
  have := List.pairwise_mergeSort (le := fun x y : Int => decide (x ≤ y)) (fun a b c h1 h2 => by simp at *; omega) (fun a b => by simp; omega) l
  exact this.imp fun h => by simpa using h
theorem sortI_mem (l : List Int) (x : Int) : x ∈ sortI l ↔ x ∈ l := List.mem_mergeSort
abbrev setI (l : List Int) : List Int := cpM (sortI l)
theorem setI_asc (l : List Int) : Asc (setI l) := (cpN_ok (sortI_sorted l) _ (Nat.le_refl _)).1
theorem setI_mem (l : List Int) (x : Int) : x ∈ setI l ↔ x ∈ l := by
  rw [(cpN_ok (sortI_sorted l) _ (Nat.le_refl _)).2, List.take_length, sortI_mem]
theorem setI_eq {l m : List Int} (h : Asc m) (hm : ∀ x, x ∈ m ↔ x ∈ l) : setI l = m := asc_ext (setI_asc l) h fun x => by rw [setI_mem, hm]
theorem asc_nodup {l : List Int} (h : Asc l) : l.Nodup := h.imp fun h => Int.ne_of_lt h
theorem sortI_nodup {l : List Int} (h : l.Nodup) : sortI l = setI l := by
  refine asc_ext ?_ (setI_asc l) fun x => by rw [setI_mem, sortI_mem]
  have h1 : (sortI l).Nodup := (List.mergeSort_perm l _).nodup_iff.2 h
  have h2 := sortI_sorted l
  have := List.pairwise_iff_getElem.1 h2
  refine List.pairwise_iff_getElem.2 fun i j hi hj hij => ?_
  have a := this i j hi hj hij
  have b := List.pairwise_iff_getElem.1 h1 i j hi hj hij
  omega
@[go_sem] theorem setI_len_le (l : List Int) : (sortI l).length = l.length := List.length_mergeSort l
abbrev inC (l c : List Int) : Prop := ∀ u, u ∈ c → 0 ≤ u ∧ u < prodM l
theorem inC_get {l c : List Int} (h : inC l c) : ∀ j, j < c.length → 0 ≤ c.getD j 0 ∧ c.getD j 0 < prodM l := fun j hj => h _ (mem_getD hj)
theorem inC_code {l c : List Int} (hcc : isCodeM l c = true) : inC l c := fun u hu => code_mem hcc hu
abbrev shM (l c : List Int) (w : Int) : List Int := setI (c.map fun u => sumW l u w)
def oppD (l a : List Int) : List Int := (List.range l.length).map fun (i : Nat) => (l.getD i 0 - a.getD i 0) % l.getD i 0
@[go_sem] theorem oppD_len (l a : List Int) : (oppD l a).length = l.length := by simp [oppD]
theorem code_asc {l c : List Int} (hcc : isCodeM l c = true) : Asc c := List.pairwise_iff_getElem.2 fun i k hi hk hik => by
  have := code_nodup hcc i k hik hk
  simpa [hi, hk] using this
theorem setI_len_nodup {l : List Int} (h : l.Nodup) : (setI l).length = l.length := by rw [← sortI_nodup h]; exact List.length_mergeSort l
theorem inC_app {l a b : List Int} (ha : inC l a) (hb : inC l b) : inC l (a ++ b) := fun u hu => by
  rcases List.mem_append.1 hu with h | h
  · exact ha u h
  · exact hb u h
theorem allW_asc (l : List Int) : Asc (allW l) := by
  unfold allW
  exact List.Pairwise.map _ (fun a b h => by omega) List.pairwise_lt_range
theorem allW_mem' {l : List Int} (hs : isSpaceM l = true) (u : Int) : u ∈ allW l ↔ 0 ≤ u ∧ u < prodM l := by
  have := prodM_pos (isSpaceM_szs hs)
  rw [allW_mem]; omega
theorem setI_filter {l c : List Int} (hs : isSpaceM l = true) (hc : inC l c) : setI c = (allW l).filter fun u => decide (u ∈ c) := by
  refine setI_eq ((allW_asc l).filter _) fun x => ?_
  rw [List.mem_filter, allW_mem' hs, decide_eq_true_eq]
  exact ⟨fun h => h.2, fun h => ⟨hc x h, h⟩⟩
theorem nodup_small {l c : List Int} (hs : isSpaceM l = true) (hc : inC l c) (hn : c.Nodup) : c.length ≤ (prodM l).toNat := by
  have e : c.length = ((allW l).filter fun u => decide (u ∈ c)).length := by rw [← setI_filter hs hc, setI_len_nodup hn]
  rw [e, ← allW_len l]; exact List.length_filter_le _ _
@[go_sem] theorem binA_shru1 {a : Int} (h : 0 ≤ a) (h' : a < 18446744073709551616) : binA .shr (.d (.v (.int .u64 a))) (.d (.v (.int .u64 1))) = some (.d (.v (.int .u64 (a / 2)))) := by
  have e : min (1 : Int).toNat 64 = 1 := rfl
  have h1 : (0 : Int) ≤ 2 ^ 1 := by decide
  simp only [binA, binI, BinOp.isShift, true_or, if_true, if_neg (show ¬ (1 : Int) < 0 by omega), IntKind.bits, e, Option.map_some, Int.fdiv_eq_ediv_of_nonneg _ h1]
  rfl
theorem asc_lt {c : List Int} (h : Asc c) {i k : Nat} (hik : i < k) (hk : k < c.length) : c.getD i 0 < c.getD k 0 := by
  have := List.pairwise_iff_getElem.1 h i k (by omega) hk hik
  simpa [show i < c.length by omega, hk] using this
@[go_sem] theorem capA_nil : capA (.d nil) = some (.d (di 0)) := rfl
@[go_sem] theorem capA_nil' : capA (.d (.v (.slice none 0 0))) = some (.d (di 0)) := rfl
abbrev wtM (l : List Int) (x : Int) : Int := distM l 0 x
def bstN (l L : List Int) : Nat → Int
  | 0 => L.getD 0 0
  | k + 1 => if wtM l (L.getD k 0) < wtM l (bstN l L k) then L.getD k 0 else bstN l L k
def ldW (l c : List Int) (w : Int) : Int := bstN l (shM l c w) (shM l c w).length
def kltB (l : List Int) (t w : Int) (x : Int) : Bool := decide (wtM l x < t ∨ (wtM l x = t ∧ x < w))
def ldL (l c : List Int) (t w : Int) : List Int := (allW l).map fun u => if kltB l t w (ldW l c u) then ldW l c u else -1
@[go_sem] theorem ldL_len (l c : List Int) (t w : Int) : (ldL l c t w).length = (prodM l).toNat := by simp [ldL, allW_len]
def stN (X L : List Int) (v : Int) : Nat → List Int
  | 0 => X
  | k + 1 => (stN X L v k).set (L.getD k 0).toNat v
@[go_sem] theorem stN_len (X L : List Int) (v : Int) : ∀ k, (stN X L v k).length = X.length
  | 0 => rfl
  | k + 1 => by rw [stN, List.length_set, stN_len X L v k]
theorem d_slices_ContainsFunc_in (l : List Int) (p : Int → Bool) (g : List D → Value → Prop) (hg : ∀ i, i < l.length → g [di (l.getD i 0)] (.bool (p (l.getD i 0)))) (hl : l.length < 1048577) :
    Den PA f_slices_ContainsFunc___int64_int64_ [.d (ints l), .pfn g] [.any, .any] (.d (db (l.any p))) := by
  refine den_go [] l_slices_ContainsFunc___int64_int64_ ?_
  repeat' (first | simp -implicitDefEqProofs (maxSteps := 1000000) (disch := (first | omega | (simp only [go_sem] <;> omega) | fail)) only [go_sem, ints, bools, mat, c_slices_ContainsFunc___int64_int64_] | ((first | apply goIf_b | apply goG_b | apply goTG_b | apply goOG_b) <;> intro h <;> ((try simp only [hnq] at h); (try simp only [h]); (try simp only [hnr] at h))))
  first | refine goC_of [.r, .g g] (d_slices_IndexFunc_in l p g hg hl) (by first | (simp -implicitDefEqProofs (maxSteps := 1000000) (disch := (first | omega | (simp only [go_sem] <;> omega) | fail)) only [go_sem, ints, bools, mat] <;> rfl) | rfl) (by first | (simp -implicitDefEqProofs (maxSteps := 1000000) (disch := (first | omega | (simp only [go_sem] <;> omega) | fail)) only [go_sem, ints, bools, mat] <;> rfl) | rfl) (⟨trivial, fun _ _ h => h, trivial⟩) (by first | (simp -implicitDefEqProofs (maxSteps := 1000000) (disch := (first | omega | (simp only [go_sem] <;> omega) | fail)) only [go_sem, ints, bools, mat] <;> rfl) | rfl) ?_ | refine goOC_of [.r, .g g] (d_slices_IndexFunc_in l p g hg hl) (by first | (simp -implicitDefEqProofs (maxSteps := 1000000) (disch := (first | omega | (simp only [go_sem] <;> omega) | fail)) only [go_sem, ints, bools, mat] <;> rfl) | rfl) (by first | (simp -implicitDefEqProofs (maxSteps := 1000000) (disch := (first | omega | (simp only [go_sem] <;> omega) | fail)) only [go_sem, ints, bools, mat] <;> rfl) | rfl) (by first | (simp -implicitDefEqProofs (maxSteps := 1000000) (disch := (first | omega | (simp only [go_sem] <;> omega) | fail)) only [go_sem, ints, bools, mat] <;> rfl) | rfl) (⟨trivial, fun _ _ h => h, trivial⟩) (by first | (simp -implicitDefEqProofs (maxSteps := 1000000) (disch := (first | omega | (simp only [go_sem] <;> omega) | fail)) only [go_sem, ints, bools, mat] <;> rfl) | rfl) ?_
  repeat' (first | simp -implicitDefEqProofs (maxSteps := 1000000) (disch := (first | omega | (simp only [go_sem] <;> omega) | fail)) only [go_sem, ints, bools, mat] | ((first | apply goIf_b | apply goG_b | apply goTG_b | apply goOG_b) <;> intro h <;> ((try simp only [hnq] at h); (try simp only [h]); (try simp only [hnr] at h))))
  refine dbv ?_
  cases h : l.findIdx? p with
  | none =>
    rw [List.findIdx?_eq_none_iff] at h
    symm
    simpa using h
  | some j =>
    obtain ⟨hj, h1, _⟩ := List.findIdx?_eq_some_iff_getElem.1 h
    symm
    simpa using ⟨l[j], List.getElem_mem hj, h1⟩
def atO (L : List Int) : Option Nat → Option Int
  | none => none
  | some i => some (L.getD i 0)
theorem find_idx {L : List Int} {p : Int → Bool} : L.find? p = atO L (L.findIdx? p) := by
  cases h : L.findIdx? p with
  | none =>
    rw [List.findIdx?_eq_none_iff] at h
    show L.find? p = none
    rw [List.find?_eq_none]; intro x hx; rw [h x hx]; simp
  | some i =>
    obtain ⟨hi, h1, h2⟩ := List.findIdx?_eq_some_iff_getElem.1 h
    have e : L.getD i 0 = L[i] := by simp [hi]
    show L.find? p = some (L.getD i 0)
    rw [List.find?_eq_some_iff_getElem, e]
    exact ⟨h1, i, hi, rfl, fun j hj => by simpa using h2 j hj⟩
theorem d_slices_Index_int (l : List Int) (v : Int) (hl : l.length < 1048577) : Den PA f_slices_Index___int64_int64_ [.d (ints l), .d (di v)] [.any, .any] (.d (di (match l.findIdx? (fun x => v == x) with | some j => j | none => -1))) := by
  refine den_go [] l_slices_Index___int64_int64_ ?_
  repeat' (first | simp -implicitDefEqProofs (maxSteps := 1000000) (disch := (first | omega | (simp only [go_sem] <;> omega) | fail)) only [go_sem, ints, bools, mat, c_slices_Index___int64_int64_] | ((first | apply goIf_b | apply goG_b | apply goTG_b | apply goOG_b) <;> intro h <;> ((try simp only [hnq] at h); (try simp only [h]); (try simp only [hnr] at h))))
  refine go_loop (fun (j : Nat) => ⟨[(0, .d (ints l)), (1, .d (di v)), (7, .d (di l.length)), (8, .d (di j))], []⟩) (fun j => j ≤ l.length ∧ ∀ i, i < j → (v == l.getD i 0) = false) (fun j => l.length - j) 0 ?_ ?_ ?_
  · (simp -implicitDefEqProofs (maxSteps := 1000000) (disch := (first | omega | (simp only [go_sem] <;> omega) | fail)) only [go_sem, ints, bools, mat] <;> rfl)
  · simp
  · rintro j ⟨hj, hi⟩ J hJ
    repeat' (first | simp -implicitDefEqProofs (maxSteps := 1000000) (disch := (first | omega | (simp only [go_sem] <;> omega) | fail)) only [go_sem, ints, bools, mat] | ((first | apply goIf_b | apply goG_b | apply goTG_b | apply goOG_b) <;> intro h <;> ((try simp only [hnq] at h); (try simp only [h]); (try simp only [hnr] at h))))
    · have e : l.findIdx? (fun x => v == x) = some j := by
        rw [List.findIdx?_eq_some_iff_getElem]
        refine ⟨by omega, by simpa [show j < l.length by omega] using h, fun i hi' => ?_⟩
        have := hi i hi'
        simpa [show i < l.length by omega] using this
      rw [e]
    · refine hJ (j + 1) ⟨by omega, all_ext hi (by simpa using h)⟩ (by omega) _ (by (simp -implicitDefEqProofs (maxSteps := 1000000) (disch := (first | omega | (simp only [go_sem] <;> omega) | fail)) only [go_sem, ints, bools, mat] <;> rfl))
    · have e : l.findIdx? (fun x => v == x) = none := by
        rw [List.findIdx?_eq_none_iff]
        intro x hx
        obtain ⟨i, hi', rfl⟩ := List.mem_iff_getElem.1 hx
        have := hi i (by omega)
        simpa [hi'] using this
      rw [e]
theorem d_slices_Contains_int (l : List Int) (v : Int) (hl : l.length < 1048577) : Den PA f_slices_Contains___int64_int64_ [.d (ints l), .d (di v)] [.any, .any] (.d (db (decide (v ∈ l)))) := by
  refine den_go [] l_slices_Contains___int64_int64_ ?_
  repeat' (first | simp -implicitDefEqProofs (maxSteps := 1000000) (disch := (first | omega | (simp only [go_sem] <;> omega) | fail)) only [go_sem, ints, bools, mat, c_slices_Contains___int64_int64_] | ((first | apply goIf_b | apply goG_b | apply goTG_b | apply goOG_b) <;> intro h <;> ((try simp only [hnq] at h); (try simp only [h]); (try simp only [hnr] at h))))
  first | refine goC_call [.r, .r] (d_slices_Index_int l v hl) ?_ | refine goOC_call [.r, .r] (d_slices_Index_int l v hl) ?_
  repeat' (first | simp -implicitDefEqProofs (maxSteps := 1000000) (disch := (first | omega | (simp only [go_sem] <;> omega) | fail)) only [go_sem, ints, bools, mat] | ((first | apply goIf_b | apply goG_b | apply goTG_b | apply goOG_b) <;> intro h <;> ((try simp only [hnq] at h); (try simp only [h]); (try simp only [hnr] at h))))
  refine dbv ?_
  cases h : l.findIdx? (fun x => v == x) with
  | none =>
    rw [List.findIdx?_eq_none_iff] at h
    symm
    have : v ∉ l := fun hm => by have := h v hm; simp at this
    rw [decide_eq_false this]; rfl
  | some j =>
    obtain ⟨hj, h1, _⟩ := List.findIdx?_eq_some_iff_getElem.1 h
    symm
    rw [beq_iff_eq] at h1
    rw [decide_eq_true (show v ∈ l by rw [h1]; exact List.getElem_mem hj)]
    simp
def bndB (l : List Int) (i u x : Int) : Bool := (distM l u x == 3) && ((digM l u).getD i.toNat 0 != (digM l x).getD i.toNat 0)
def bnS (l : List Int) (i : Int) (Q : List Int) (u x : Int) : List Int := if bndB l i u x = true ∧ x ∉ Q then Q ++ [x] else Q
def bnI (l : List Int) (i : Int) (c : List Int) (Q : List Int) (u : Int) : Nat → List Int
  | 0 => Q
  | j + 1 => bnS l i (bnI l i c Q u j) u (c.getD j 0)
def bnO (l : List Int) (i : Int) (c : List Int) : Nat → Nat → List Int → List Int
  | 0, _, Q => Q
  | f + 1, k, Q => if k < Q.length then bnO l i c f (k + 1) (bnI l i c Q (Q.getD k 0) c.length) else Q
abbrev bnM (l c : List Int) (w i : Int) : List Int := bnO l i c (c.length + 1) 0 [w]
theorem bnS_ok {l : List Int} {i : Int} {c Q : List Int} {u x : Int} (hn : Q.Nodup) (hs : ∀ y, y ∈ Q → y ∈ c) (hx : x ∈ c) : (bnS l i Q u x).Nodup ∧ (∀ y, y ∈ bnS l i Q u x → y ∈ c) ∧ ∃ r, bnS l i Q u x = Q ++ r := by
  unfold bnS
  split
  · rename_i h
    refine ⟨List.nodup_append.2 ⟨hn, by simp, fun a ha b hb e => by simp at hb; subst hb e; exact h.2 ha⟩, fun y hy => ?_, _, rfl⟩
    rcases List.mem_append.1 hy with h | h
    · exact hs y h
    · simp at h; subst h; exact hx
  · exact ⟨hn, hs, [], by simp⟩
theorem bnI_ok {l : List Int} {i : Int} {c Q : List Int} {u : Int} (hn : Q.Nodup) (hs : ∀ y, y ∈ Q → y ∈ c) : ∀ j, j ≤ c.length → (bnI l i c Q u j).Nodup ∧ (∀ y, y ∈ bnI l i c Q u j → y ∈ c) ∧ ∃ r, bnI l i c Q u j = Q ++ r
  | 0, _ => ⟨hn, hs, [], by simp [bnI]⟩
  | j + 1, h => by
    obtain ⟨h1, h2, r, h3⟩ := bnI_ok (l := l) (i := i) (u := u) hn hs j (by omega)
    obtain ⟨g1, g2, r2, g3⟩ := bnS_ok (l := l) (i := i) (u := u) (x := c.getD j 0) h1 h2 (mem_getD (by omega))
    exact ⟨g1, g2, r ++ r2, by rw [bnI, g3, h3, List.append_assoc]⟩
theorem sub_len : ∀ {Q c : List Int}, Q.Nodup → (∀ y, y ∈ Q → y ∈ c) → Q.length ≤ c.length
  | [], c, _, _ => Nat.zero_le _
  | x :: r, c, hn, hs => by
    obtain ⟨h1, h2⟩ := List.nodup_cons.1 hn
    have hx := hs x (by simp)
    have ih := sub_len (Q := r) (c := c.erase x) h2 fun y hy => (List.mem_erase_of_ne (fun e => by subst e; exact h1 hy)).2 (hs y (by simp [hy]))
    have := List.length_erase_of_mem hx
    have := List.length_pos_of_mem hx
    rw [List.length_cons]; omega
structure BnQ (l c : List Int) (w i : Int) (k : Nat) (Q : List Int) : Prop where
  le : k ≤ Q.length
  nd : Q.Nodup
  sub : ∀ y, y ∈ Q → y ∈ c
  fin : bnO l i c (c.length + 1 - k) k Q = bnM l c w i
  mw : w ∈ Q
theorem BnQ.len {l c : List Int} {w i : Int} {k : Nat} {Q : List Int} (h : BnQ l c w i k Q) : Q.length ≤ c.length := sub_len h.nd h.sub
theorem BnQ.next {l c : List Int} {w i : Int} {k : Nat} {Q : List Int} (h : BnQ l c w i k Q) (hk : k < Q.length) : BnQ l c w i (k + 1) (bnI l i c Q (Q.getD k 0) c.length) := by
  obtain ⟨h1, h2, r, h3⟩ := bnI_ok (l := l) (i := i) (u := Q.getD k 0) h.nd h.sub c.length (Nat.le_refl _)
  have hl := BnQ.len h
  have hf := h.fin
  rw [show c.length + 1 - k = (c.length + 1 - (k + 1)) + 1 by omega, bnO, if_pos hk] at hf
  exact ⟨by rw [h3, List.length_append]; omega, h1, h2, hf, by rw [h3]; exact List.mem_append_left _ h.mw⟩
theorem d_impl_isPlace (l : List Int) (i : Int) (hl : l.length < 1048577) : Den PA f_impl_isPlace [.d (.agg [ints l]), .d (di i)] [.any, .any] (.d (db (decide (0 ≤ i ∧ i < l.length)))) := by
  refine den_go [] l_impl_isPlace ?_
  repeat' (first | simp -implicitDefEqProofs (maxSteps := 1000000) (disch := (first | omega | (simp only [go_sem] <;> omega) | fail)) only [go_sem, ints, bools, mat, c_impl_isPlace] | ((first | apply goIf_b | apply goG_b | apply goTG_b | apply goOG_b) <;> intro h <;> ((try simp only [hnq] at h); (try simp only [h]); (try simp only [hnr] at h)) <;> (try (exfalso; omega))))
  · first | refine goC_call [.r] (d_impl_places l hl) ?_ | refine goOC_call [.r] (d_impl_places l hl) ?_
    repeat' (first | simp -implicitDefEqProofs (maxSteps := 1000000) (disch := (first | omega | (simp only [go_sem] <;> omega) | fail)) only [go_sem, ints, bools, mat] | ((first | apply goIf_b | apply goG_b | apply goTG_b | apply goOG_b) <;> intro h <;> ((try simp only [hnq] at h); (try simp only [h]); (try simp only [hnr] at h)) <;> (try (exfalso; omega))))
    refine dbv ?_
    rw [Bool.eq_iff_iff, decide_eq_true_eq, decide_eq_true_eq]
    exact ⟨fun h => ⟨by assumption, h⟩, fun h => h.2⟩
  · exact dbv (decide_eq_false fun h => by omega).symm
def mxL (l : List Int) : Nat → Int
  | 0 => l.getD 0 0
  | k + 1 => if mxL l k < l.getD k 0 then l.getD k 0 else mxL l k
theorem mxL_gt (l : List Int) (m : Int) : ∀ k, m < mxL l k ↔ m < l.getD 0 0 ∨ ∃ i, i < k ∧ m < l.getD i 0
  | 0 => by simp [mxL]
  | k + 1 => by
    have ih := mxL_gt l m k
    have e : m < mxL l (k + 1) ↔ m < mxL l k ∨ m < l.getD k 0 := by rw [mxL]; split <;> omega
    rw [e, ih]
    constructor
    · rintro ((h | ⟨i, a, b⟩) | h)
      · exact .inl h
      · exact .inr ⟨i, by omega, b⟩
      · exact .inr ⟨k, by omega, h⟩
    · rintro (h | ⟨i, a, b⟩)
      · exact .inl (.inl h)
      · by_cases e : i = k
        · subst e; exact .inr b
        · exact .inl (.inr ⟨i, by omega, b⟩)
theorem d_slices_Max (l : List Int) (h0 : 0 < l.length) (hl : l.length < 1048577) : Den PA f_slices_Max___int64_int64_ [.d (ints l)] [.any] (.d (di (mxL l l.length))) := by
  refine den_go [] l_slices_Max___int64_int64_ ?_
  repeat' (first | simp -implicitDefEqProofs (maxSteps := 1000000) (disch := (first | omega | (simp only [go_sem] <;> omega) | fail)) only [go_sem, ints, bools, mat, c_slices_Max___int64_int64_] | ((first | apply goIf_b | apply goG_b | apply goTG_b | apply goOG_b) <;> intro h <;> ((try simp only [hnq] at h); (try simp only [h]); (try simp only [hnr] at h)) <;> (try (exfalso; omega))))
  refine go_loop (fun (k : Nat) => ⟨[(0, .d (ints l)), (3, .d (di (mxL l k))), (4, .d (di k))], []⟩) (fun k => 1 ≤ k ∧ k ≤ l.length) (fun k => l.length - k) 1 ?_ ?_ ?_
  · simp -implicitDefEqProofs (maxSteps := 1000000) (disch := (first | omega | (simp only [go_sem] <;> omega) | fail)) only [go_sem, ints, bools, mat]
    rw [mxL, mxL, if_neg (Int.lt_irrefl _)]
  · exact ⟨Nat.le_refl _, h0⟩
  · rintro k ⟨h1, h2⟩ J hJ
    by_cases hkl : k < l.length
    · repeat' (first | simp -implicitDefEqProofs (maxSteps := 1000000) (disch := (first | omega | (simp only [go_sem] <;> omega) | fail)) only [go_sem, ints, bools, mat] | ((first | apply goIf_b | apply goG_b | apply goTG_b | apply goOG_b) <;> intro h <;> ((try simp only [hnq] at h); (try simp only [h]); (try simp only [hnr] at h)) <;> (try (exfalso; omega))))
      refine hJ (k + 1) ⟨by omega, by omega⟩ (by omega) _ ?_
      simp -implicitDefEqProofs (maxSteps := 1000000) (disch := (first | omega | (simp only [go_sem] <;> omega) | fail)) only [go_sem, ints, bools, mat]
      rw [mxL]; rfl
    · have : k = l.length := by omega
      subst this
      repeat' (first | simp -implicitDefEqProofs (maxSteps := 1000000) (disch := (first | omega | (simp only [go_sem] <;> omega) | fail)) only [go_sem, ints, bools, mat] | ((first | apply goIf_b | apply goG_b | apply goTG_b | apply goOG_b) <;> intro h <;> ((try simp only [hnq] at h); (try simp only [h]); (try simp only [hnr] at h)) <;> (try (exfalso; omega))))
def swD (d : List Int) (i : Nat) : List Int := d.set i (1 - d.getD i 0)
@[go_sem] theorem swD_len (d : List Int) (i : Nat) : (swD d i).length = d.length := by simp [swD]
def nxR (l : List Int) (j : Nat) : List (List Int) := (List.range j).map fun (d : Nat) => l ++ [(d : Int)]
@[go_sem] theorem nxR_len (l : List Int) (j : Nat) : (nxR l j).length = j := by simp [nxR]
def nxT (q : Nat) (ls : List (List Int)) (i : Nat) : List (List Int) := (ls.take i).flatMap fun l => nxR l q
def rowsN (q : Nat) : Nat → List (List Int)
  | 0 => [[]]
  | k + 1 => nxT q (rowsN q k) (rowsN q k).length
def badR (l : List Int) : Bool := match l.findIdx? fun d => d != 0 with | some j => l.getD j 0 != 1 | none => true
def colN (q m : Nat) : List (List Int) := (rowsN q m).filter fun x => !badR x
def hamL (q m : Nat) : List Int := List.replicate (colN q m).length (q : Int)
@[go_sem] theorem hamL_len (q m : Nat) : (hamL q m).length = (colN q m).length := by simp [hamL]
abbrev sn (l : List Int) : D := .v (.string (strOfNums l))
@[go_sem] theorem str_46 : (ByteArray.mk #[46]) = strOfNums [46] := rfl
@[go_sem] theorem str_nil : (ByteArray.mk #[]) = strOfNums [] := rfl
@[go_sem] theorem str_45 : (ByteArray.mk #[45]) = strOfNums [45] := rfl
theorem str_app (a b : List Int) : strOfNums a ++ strOfNums b = strOfNums (a ++ b) := by
  apply ByteArray.ext
  simp [strOfNums]
@[go_sem] theorem eqsA_addN {a b : List Int} (h : a.length + b.length < 1048577) : eqsA .add (.d (.v (.string (strOfNums a)))) (.d (.v (.string (strOfNums b)))) = some (.d (.v (.string (strOfNums (a ++ b))))) := by
  have h2 : (strOfNums a).size + (strOfNums b).size ≤ maxLen := by
    rw [strOfNums_size, strOfNums_size]; exact Nat.le_trans (Nat.le_of_lt h) (by decide)
  simp only [eqsA]
  rw [if_pos h2, str_app]
@[go_sem] theorem eqsA_neq_self {s : ByteArray} : eqsA .neq (.d (.v (.string s))) (.d (.v (.string s))) = some (.d (.v (.bool false))) := by simp [eqsA]
@[go_sem] theorem lnsA_n {l : List Int} : lnsA (.d (.v (.string (strOfNums l)))) = some (.d (.v (.int .i64 l.length))) := by simp [lnsA, strOfNums_size]
theorem str_ext (l : List Int) (a b : Nat) : (strOfNums l).extract a b = strOfNums ((l.take b).drop a) := by
  apply ByteArray.ext
  simp [strOfNums, ByteArray.data_extract, List.map_drop, List.map_take, List.drop_take]
@[go_sem] theorem sltA_n {tm : List (Nat × AV)} {l : List Int} {lo hi : Option Opd} : sltA tm (.d (.v (.string (strOfNums l)))) lo hi = (bndA tm l.length lo hi).map fun p => .d (.v (.string (strOfNums ((l.take p.2).drop p.1)))) := by
  simp only [sltA, strOfNums_size, str_ext]
theorem BY.take {l : List Int} (h : BY l) (n : Nat) : BY (l.take n) := fun x hx => h x (List.mem_of_mem_take hx)
theorem BY.drop {l : List Int} (h : BY l) (n : Nat) : BY (l.drop n) := fun x hx => h x (List.mem_of_mem_drop hx)
def spL : List Int → List (List Int)
  | [] => [[]]
  | x :: r => if x = 46 then [] :: spL r else match spL r with
    | p :: ps => (x :: p) :: ps
    | [] => [[x]]
@[go_sem] theorem flat_sn (l : List (List Int)) : flat (l.map fun x => sn x) = l.map fun x => sn x := by
  induction l with
  | nil => rfl
  | cons x r ih => simp only [flat, List.map_cons, List.flatMap_cons, D.cells] at ih ⊢; rw [ih]; rfl
@[go_sem] theorem getSn {l : List (List Int)} {j : Nat} (h : j < l.length) : (l.map fun x => sn x)[j]? = some (sn (l.getD j [])) := by simp [h]
def ptS (m c : Int) : Int := if 48 ≤ c ∧ c ≤ 51 then or2 m (c - 48) else m
def ptB (p : List Int) : Int := p.foldl ptS 0
def psT (l : List Int) : List Int := (spL l).map ptB
@[go_sem] theorem psT_len (l : List Int) : (psT l).length = (spL l).length := by simp [psT]
theorem wrapU_bnd (x : Int) : 0 ≤ IntKind.wrap .u64 x ∧ IntKind.wrap .u64 x < 18446744073709551616 := by
  have e : IntKind.wrap .u64 x = x % 18446744073709551616 := rfl
  rw [e]; omega
@[go_sem] theorem binA_shr33 {a : Int} : binA .shr (.d (.v (.int .u64 a))) (.d (.v (.int .u64 33))) = some (.d (.v (.int .u64 (a / 8589934592)))) := by
  have e : min (33 : Int).toNat 64 = 33 := rfl
  have h1 : (0 : Int) ≤ 2 ^ 33 := by decide
  simp only [binA, binI, BinOp.isShift, true_or, if_true, if_neg (show ¬ (33 : Int) < 0 by omega), IntKind.bits, e, Option.map_some, Int.fdiv_eq_ediv_of_nonneg _ h1]
  rfl
@[go_sem] theorem binA_mask24 {a : Int} (h : 0 ≤ a) (h' : a < 18446744073709551616) : binA .and (.d (.v (.int .u64 a))) (.d (.v (.int .u64 16777215))) = some (.d (.v (.int .u64 (a % 16777216)))) := by
  have e1 : (BitVec.ofInt 64 a).toNat = a.toNat := by rw [BitVec.toNat_ofInt]; omega
  have e2 : (BitVec.ofInt 64 16777215).toNat = 16777215 := by decide
  have e3 : (BitVec.ofInt 64 a &&& BitVec.ofInt 64 16777215).toNat = a.toNat % 16777216 := by
    rw [BitVec.toNat_and, e1, e2]; exact Nat.and_two_pow_sub_one_eq_mod a.toNat 24
  have e4 : binI .and .u64 a 16777215 = some (.int .u64 (IntKind.wrap .u64 ((BitVec.ofInt 64 a &&& BitVec.ofInt 64 16777215).toNat : Nat))) := rfl
  simp only [binA, e4, BinOp.isShift, or_true, if_true, e3, Option.map_some]
  rw [wrap_u64 (by omega) (by omega)]
  congr 4
  omega
attribute [go_sem] mkBlk
def leaB (o : Option (Option Blk)) (k i : Nat) (s : Sto) : R × Sto :=
  match o with
  | some (some (.var cs)) => (.boxm (cs.map .d), s.set i none)
  | some (some (.mix cs)) => (.boxm (leaL (leaA k) cs (s.set i none)).1, (leaL (leaA k) cs (s.set i none)).2)
  | _ => (.any, s)
@[go_sem] theorem leaA_ref (k i : Nat) (s : Sto) : leaA (k + 1) (.ref i 0) s = leaB s[i]? k i s := by
  simp only [leaA, leaB] <;> (rcases s[i]? with _ | _ | b <;> first | rfl | (cases b <;> rfl))
@[go_sem] theorem leaB_var (cs : List D) (k i : Nat) (s : Sto) : leaB (some (some (.var cs))) k i s = (.boxm (cs.map .d), s.set i none) := rfl
@[go_sem] theorem RLes_boxm (x y xs ys : List R) : RLes (.boxm x :: xs) (.boxm y :: ys) = (x = y ∧ RLes xs ys) := by
  apply propext
  constructor
  · intro h; cases h with | cons h hs => cases h; exact ⟨rfl, hs⟩
  · rintro ⟨rfl, hs⟩; exact .cons .refl hs
abbrev du (n : Int) : D := .v (.int .u64 n)
abbrev Src := Nat × Int
abbrev srcR (cd : D) (s : Src) : R := .boxm [.d cd, .d (di s.1), .d (du s.2)]
def okS (l : List Int) (s : Src) : Prop := s.1 ≤ l.length ∧ 0 ≤ s.2 ∧ s.2 < 18446744073709551616
def nxH (h : Int) : Int := IntKind.wrap .u64 (IntKind.wrap .u64 (h * 6364136223846793005) + 1442695040888963407)
def nxX (l : List Int) (s : Src) : Int := nxH s.2 / 8589934592 % 16777216 + (if s.1 < l.length then l.getD s.1 0 else 0)
def nxS (l : List Int) (s : Src) : Src := (if s.1 < l.length then s.1 + 1 else s.1, nxH s.2)
def nxt (l : List Int) (s : Src) (q : Int) : Int × Src := if q < 1 then (0, s) else (nxX l s % q, nxS l s)
theorem nxS_ok {l : List Int} {s : Src} (h : okS l s) : okS l (nxS l s) := by
  refine ⟨?_, wrapU_bnd _⟩
  unfold nxS; dsimp only
  split
  · omega
  · exact h.1
theorem nxt_ok {l : List Int} {s : Src} (h : okS l s) (q : Int) : okS l (nxt l s q).2 := by
  unfold nxt
  split
  · exact h
  · exact nxS_ok h
theorem nxt_bnd {l : List Int} {s : Src} {q : Int} (hq : 1 ≤ q) : 0 ≤ (nxt l s q).1 ∧ (nxt l s q).1 < q := by
  unfold nxt
  rw [if_neg (by omega)]
  exact ⟨Int.emod_nonneg _ (by omega), Int.emod_lt_of_pos _ (by omega)⟩
theorem d_spec_l01Next (cd : D) (l : List Int) (hb : IsBts cd l) (hl : l.length < 1048577) (s : Src) (hs : okS l s) (q : Int) : Den PA f_spec_l01Next [srcR cd s, .d (di q)] [srcR cd (nxt l s q).2, .any] (.d (di (nxt l s q).1)) := by
  obtain ⟨at0, h⟩ := s
  obtain ⟨h1, h2, h3⟩ := hs
  dsimp only at h1 h2 h3
  refine den_go [0] l_spec_l01Next ?_
  by_cases hq : q < 1
  · have e : nxt l (at0, h) q = (0, (at0, h)) := if_pos hq
    rw [e]
    repeat' (first | simp -implicitDefEqProofs (maxSteps := 1000000) (disch := (first | omega | (simp only [go_sem] <;> omega) | fail)) only [go_sem, ints, bools, mat, c_spec_l01Next, srcR] | ((first | apply goIf_b | apply goG_b | apply goTG_b | apply goOG_b) <;> intro h <;> ((try simp only [hnq] at h); (try simp only [h]); (try simp only [hnr] at h)) <;> (try (exfalso; omega))))
  · have e : nxt l (at0, h) q = (nxX l (at0, h) % q, nxS l (at0, h)) := if_neg hq
    have hh := wrapU_bnd (IntKind.wrap .u64 (h * 6364136223846793005) + 1442695040888963407)
    rw [e]
    rcases hb with ⟨rfl, hby⟩ | ⟨rfl, rfl⟩
    · by_cases ha : at0 < l.length
      · have hba := hby _ (mem_getD ha)
        have ex : nxX l (at0, h) = nxH h / 8589934592 % 16777216 + l.getD at0 0 := by simp only [nxX, if_pos ha]
        have es : nxS l (at0, h) = (at0 + 1, nxH h) := by simp only [nxS, if_pos ha]
        rw [ex, es]
        repeat' (first | simp -implicitDefEqProofs (maxSteps := 1000000) (disch := (first | omega | (simp only [go_sem] <;> omega) | fail)) only [go_sem, ints, bools, mat, c_spec_l01Next, srcR] | ((first | apply goIf_b | apply goG_b | apply goTG_b | apply goOG_b) <;> intro h <;> ((try simp only [hnq] at h); (try simp only [h]); (try simp only [hnr] at h)) <;> (try (exfalso; omega))))
        exact ⟨rfl, rfl⟩
      · have ex : nxX l (at0, h) = nxH h / 8589934592 % 16777216 := by simp only [nxX, if_neg ha, Int.add_zero]
        have es : nxS l (at0, h) = (at0, nxH h) := by simp only [nxS, if_neg ha]
        rw [ex, es]
        repeat' (first | simp -implicitDefEqProofs (maxSteps := 1000000) (disch := (first | omega | (simp only [go_sem] <;> omega) | fail)) only [go_sem, ints, bools, mat, c_spec_l01Next, srcR] | ((first | apply goIf_b | apply goG_b | apply goTG_b | apply goOG_b) <;> intro h <;> ((try simp only [hnq] at h); (try simp only [h]); (try simp only [hnr] at h)) <;> (try (exfalso; omega))))
        exact ⟨rfl, rfl⟩
    · have ha : ¬ at0 < ([] : List Int).length := by simp
      have ex : nxX [] (at0, h) = nxH h / 8589934592 % 16777216 := by simp only [nxX, if_neg ha, Int.add_zero]
      have es : nxS [] (at0, h) = (at0, nxH h) := by simp only [nxS, if_neg ha]
      rw [ex, es]
      repeat' (first | simp -implicitDefEqProofs (maxSteps := 1000000) (disch := (first | omega | (simp only [go_sem] <;> omega) | fail)) only [go_sem, ints, bools, mat, c_spec_l01Next, srcR] | ((first | apply goIf_b | apply goG_b | apply goTG_b | apply goOG_b) <;> intro h <;> ((try simp only [hnq] at h); (try simp only [h]); (try simp only [hnr] at h)) <;> (try (exfalso; omega))))
      exact ⟨rfl, rfl⟩
def pik (l : List Int) (s : Src) (xs : List Int) : Int × Src := (xs.getD (nxt l s xs.length).1.toNat 0, (nxt l s xs.length).2)
theorem pik_mem {l : List Int} {s : Src} {xs : List Int} (h : 0 < xs.length) : (pik l s xs).1 ∈ xs := by
  have h1 := nxt_bnd (l := l) (s := s) (q := (xs.length : Int)) (by omega)
  exact mem_getD (by omega)
theorem d_spec_l01Pick (cd : D) (l : List Int) (hb : IsBts cd l) (hl : l.length < 1048577) (s : Src) (hs : okS l s) (xs : List Int) (h0 : 0 < xs.length) (h1 : xs.length < 1000) : Den PA f_spec_l01Pick [srcR cd s, .d (ints xs)] [srcR cd (pik l s xs).2, .any] (.d (di (pik l s xs).1)) := by
  have hbn := nxt_bnd (l := l) (s := s) (q := (xs.length : Int)) (by omega)
  have hnx := d_spec_l01Next cd l hb hl s hs xs.length
  refine den_go [0] l_spec_l01Pick ?_
  repeat' (first | simp -implicitDefEqProofs (maxSteps := 1000000) (disch := (first | omega | (simp only [go_sem] <;> omega) | fail)) only [go_sem, ints, bools, mat, c_spec_l01Pick, srcR] | ((first | apply goIf_b | apply goG_b | apply goTG_b | apply goOG_b) <;> intro h <;> ((try simp only [hnq] at h); (try simp only [h]); (try simp only [hnr] at h)) <;> (try (exfalso; omega))))
  first | refine goC_call [.bm, .r] (hnx) ?_ | refine goOC_call [.bm, .r] (hnx) ?_
  repeat' (first | simp -implicitDefEqProofs (maxSteps := 1000000) (disch := (first | omega | (simp only [go_sem] <;> omega) | fail)) only [go_sem, ints, bools, mat] | ((first | apply goIf_b | apply goG_b | apply goTG_b | apply goOG_b) <;> intro h <;> ((try simp only [hnq] at h); (try simp only [h]); (try simp only [hnr] at h)) <;> (try (exfalso; omega))))
  exact ⟨rfl, rfl⟩
theorem pik_ok {l : List Int} {s : Src} (h : okS l s) (xs : List Int) : okS l (pik l s xs).2 := nxt_ok h _
structure SrcH (cd : D) (l : List Int) : Prop where
  hb : IsBts cd l
  hl : l.length < 1048577
theorem d_nxt {cd : D} {l : List Int} (H : SrcH cd l) {s : Src} (hs : okS l s) (q : Int) : Den PA f_spec_l01Next [srcR cd s, .d (di q)] [srcR cd (nxt l s q).2, .any] (.d (di (nxt l s q).1)) := d_spec_l01Next cd l H.hb H.hl s hs q
theorem d_pik {cd : D} {l : List Int} (H : SrcH cd l) {s : Src} (hs : okS l s) (xs : List Int) (h0 : 0 < xs.length) (h1 : xs.length < 1000) : Den PA f_spec_l01Pick [srcR cd s, .d (ints xs)] [srcR cd (pik l s xs).2, .any] (.d (di (pik l s xs).1)) := d_spec_l01Pick cd l H.hb H.hl s hs xs h0 h1
theorem ex_nxt {cd : D} {l : List Int} (H : SrcH cd l) {s : Src} (hs : okS l s) {q : Int} (hq : 1 ≤ q) : ∃ (v : Int) (s' : Src), okS l s' ∧ 0 ≤ v ∧ v < q ∧ Den PA f_spec_l01Next [srcR cd s, .d (di q)] [srcR cd s', .any] (.d (di v)) :=
  ⟨_, _, nxt_ok hs q, (nxt_bnd hq).1, (nxt_bnd hq).2, d_nxt H hs q⟩
theorem ex_pik {cd : D} {l : List Int} (H : SrcH cd l) {s : Src} (hs : okS l s) (xs : List Int) (h0 : 0 < xs.length) (h1 : xs.length < 1000) : ∃ (v : Int) (s' : Src), okS l s' ∧ v ∈ xs ∧ Den PA f_spec_l01Pick [srcR cd s, .d (ints xs)] [srcR cd s', .any] (.d (di v)) :=
  ⟨_, _, pik_ok hs xs, pik_mem h0, d_pik H hs xs h0 h1⟩
theorem ex_near {cd : D} {l : List Int} (H : SrcH cd l) {s : Src} (hs : okS l s) {most : Int} (h0 : 0 ≤ most) (h1 : most < 1000000000000) : ∃ (v : Int) (s' : Src), okS l s' ∧ in64 v ∧ Den PA f_spec_l01Near [srcR cd s, .d (di most)] [srcR cd s', .any] (.d (di v)) := by
  obtain ⟨v0, s0, hs0, a1, a2, d0⟩ := ex_nxt H hs (q := 14) (by omega)
  by_cases hv : v0 = 0
  · subst hv
    obtain ⟨v1, s1, hs1, hm, d1⟩ := ex_pik H hs0 [-1, most + 1, 1099511627776, -4611686018427387904] (by simp) (by simp)
    refine ⟨v1, s1, hs1, ?_, den_go [0] l_spec_l01Near ?_⟩
    · simp only [List.mem_cons, List.mem_nil_iff, or_false] at hm
      unfold in64; omega
    · repeat' (first | simp -implicitDefEqProofs (maxSteps := 1000000) (disch := (first | omega | (simp only [go_sem] <;> omega) | fail)) only [go_sem, ints, bools, mat, c_spec_l01Near, srcR] | ((first | apply goIf_b | apply goG_b | apply goTG_b | apply goOG_b) <;> intro h <;> ((try simp only [hnq] at h); (try simp only [h]); (try simp only [hnr] at h)) <;> (try (exfalso; omega))))
      first | refine goC_call [.bm, .r] (d0) ?_ | refine goOC_call [.bm, .r] (d0) ?_
      repeat' (first | simp -implicitDefEqProofs (maxSteps := 1000000) (disch := (first | omega | (simp only [go_sem] <;> omega) | fail)) only [go_sem, ints, bools, mat] | ((first | apply goIf_b | apply goG_b | apply goTG_b | apply goOG_b) <;> intro h <;> ((try simp only [hnq] at h); (try simp only [h]); (try simp only [hnr] at h)) <;> (try (exfalso; omega))))
      first | refine goC_call [.bm, .f] (d1) ?_ | refine goOC_call [.bm, .f] (d1) ?_
      repeat' (first | simp -implicitDefEqProofs (maxSteps := 1000000) (disch := (first | omega | (simp only [go_sem] <;> omega) | fail)) only [go_sem, ints, bools, mat] | ((first | apply goIf_b | apply goG_b | apply goTG_b | apply goOG_b) <;> intro h <;> ((try simp only [hnq] at h); (try simp only [h]); (try simp only [hnr] at h)) <;> (try (exfalso; omega))))
  · obtain ⟨v1, s1, hs1, b1, b2, d1⟩ := ex_nxt H hs0 (q := most + 1) (by omega)
    refine ⟨v1, s1, hs1, ?_, den_go [0] l_spec_l01Near ?_⟩
    · unfold in64; omega
    · repeat' (first | simp -implicitDefEqProofs (maxSteps := 1000000) (disch := (first | omega | (simp only [go_sem] <;> omega) | fail)) only [go_sem, ints, bools, mat, c_spec_l01Near, srcR] | ((first | apply goIf_b | apply goG_b | apply goTG_b | apply goOG_b) <;> intro h <;> ((try simp only [hnq] at h); (try simp only [h]); (try simp only [hnr] at h)) <;> (try (exfalso; omega))))
      first | refine goC_call [.bm, .r] (d0) ?_ | refine goOC_call [.bm, .r] (d0) ?_
      repeat' (first | simp -implicitDefEqProofs (maxSteps := 1000000) (disch := (first | omega | (simp only [go_sem] <;> omega) | fail)) only [go_sem, ints, bools, mat] | ((first | apply goIf_b | apply goG_b | apply goTG_b | apply goOG_b) <;> intro h <;> ((try simp only [hnq] at h); (try simp only [h]); (try simp only [hnr] at h)) <;> (try (exfalso; omega))))
      first | refine goC_call [.bm, .r] (d1) ?_ | refine goOC_call [.bm, .r] (d1) ?_
      repeat' (first | simp -implicitDefEqProofs (maxSteps := 1000000) (disch := (first | omega | (simp only [go_sem] <;> omega) | fail)) only [go_sem, ints, bools, mat] | ((first | apply goIf_b | apply goG_b | apply goTG_b | apply goOG_b) <;> intro h <;> ((try simp only [hnq] at h); (try simp only [h]); (try simp only [hnr] at h)) <;> (try (exfalso; omega))))
def dwN (l : List Int) (most kind : Int) : Nat → List Int → Src → List Int × Src
  | 0, o, s => (o, s)
  | k + 1, o, s => if most < prodM o * (if kind = 0 then pik l s [2, 2, 3, 4] else (kind, s)).1 then (o, (if kind = 0 then pik l s [2, 2, 3, 4] else (kind, s)).2) else dwN l most kind k (o ++ [(if kind = 0 then pik l s [2, 2, 3, 4] else (kind, s)).1]) (if kind = 0 then pik l s [2, 2, 3, 4] else (kind, s)).2
theorem prodM_snoc (o : List Int) (q : Int) : prodM (o ++ [q]) = prodM o * q := by simp [prodM, List.foldl_append]
def szO (o : List Int) : Prop := (∀ i, i < o.length → 2 ≤ o.getD i 0 ∧ o.getD i 0 ≤ 4) ∧ 1 ≤ prodM o ∧ prodM o ≤ 256
theorem szO_snoc {o : List Int} {q : Int} (h : szO o) (hq : 2 ≤ q ∧ q ≤ 4) (hp : prodM o * q ≤ 256) : szO (o ++ [q]) := by
  refine ⟨fun i hi => ?_, ?_, ?_⟩
  · rcases Nat.lt_or_ge i o.length with h1 | h1
    · have := h.1 i h1
      have e : (o ++ [q]).getD i 0 = o.getD i 0 := by simp [List.getD_eq_getElem?_getD, List.getElem?_append_left h1]
      rw [e]; exact this
    · have e1 : i = o.length := by simp at hi; omega
      subst e1
      have e : (o ++ [q]).getD o.length 0 = q := by simp
      rw [e]; exact hq
  · rw [prodM_snoc]
    have h5 : (1 : Int) * 1 ≤ prodM o * q := Int.mul_le_mul h.2.1 (by omega) (by omega) (by have := h.2.1; omega)
    omega
  · rw [prodM_snoc]; exact hp
theorem szO_space {o : List Int} (h : szO o) (h0 : 0 < o.length) (h8 : o.length ≤ 8) : isSpaceM o = true := (isSpaceM_ok o).2 ⟨⟨by omega, h8⟩, h.1, by have := h.2.2; omega⟩
theorem ex_drawOf {cd : D} {l : List Int} (H : SrcH cd l) {s : Src} (hs : okS l s) {most : Int} (h0 : 8 ≤ most) (h1 : most ≤ 256) : ∃ (o : List Int) (s' : Src), okS l s' ∧ isSpaceM o = true ∧ Den PA f_spec_l01DrawOf [srcR cd s, .d (di most)] [srcR cd s', .any] (.agg [.own 1 (o.map di)]) := by
  obtain ⟨kind, s1, hs1, hk, d1⟩ := ex_pik H hs [0, 2, 2, 3, 3] (by simp) (by simp)
  obtain ⟨n, s2, hs2, n1, n2, d2⟩ := ex_nxt H hs1 (q := 8) (by omega)
  have hkind : 0 ≤ kind ∧ kind ≤ 3 ∧ kind ≠ 1 := by
    simp only [List.mem_cons, List.mem_nil_iff, or_false] at hk; omega
  have key : ∀ (k : Nat) (o : List Int) (s : Src), szO o → okS l s → o.length + k ≤ 8 → szO (dwN l most kind k o s).1 ∧ okS l (dwN l most kind k o s).2 ∧ (dwN l most kind k o s).1.length ≤ 8 := by
    intro k
    induction k with
    | zero => intro o s a b c; exact ⟨a, b, by simp only [dwN]; omega⟩
    | succ k ih =>
      intro o s a b c
      have hr : 2 ≤ (if kind = 0 then pik l s [2, 2, 3, 4] else (kind, s)).1 ∧ (if kind = 0 then pik l s [2, 2, 3, 4] else (kind, s)).1 ≤ 4 ∧ okS l (if kind = 0 then pik l s [2, 2, 3, 4] else (kind, s)).2 := by
        by_cases e : kind = 0
        · rw [if_pos e]
          have hm := pik_mem (l := l) (s := s) (xs := [2, 2, 3, 4]) (by simp)
          simp only [List.mem_cons, List.mem_nil_iff, or_false] at hm
          exact ⟨by omega, by omega, pik_ok b _⟩
        · rw [if_neg e]; exact ⟨by dsimp only; omega, by dsimp only; omega, b⟩
      rw [dwN]
      generalize (if kind = 0 then pik l s [2, 2, 3, 4] else (kind, s)) = r at *
      by_cases hm : most < prodM o * r.1
      · rw [if_pos hm]
        exact ⟨a, hr.2.2, by dsimp only; omega⟩
      · rw [if_neg hm]
        exact ih _ _ (szO_snoc a ⟨hr.1, hr.2.1⟩ (by omega)) hr.2.2 (by simp; omega)
  have hz0 : szO [] := ⟨fun i hi => by simp at hi, by decide, by decide⟩
  have hfin := key (1 + n).toNat [] s2 hz0 hs2 (by simp; omega)
  obtain ⟨X, hX⟩ : ∃ X, X = dwN l most kind (1 + n).toNat [] s2 := ⟨_, rfl⟩
  rw [← hX] at hfin
  refine ⟨if X.1.length = 0 then [2] else X.1, X.2, hfin.2.1, ?_, den_go [0] l_spec_l01DrawOf ?_⟩
  · split
    · decide
    · exact szO_space hfin.1 (by omega) hfin.2.2
  · repeat' (first | simp -implicitDefEqProofs (maxSteps := 1000000) (disch := (first | omega | (simp only [go_sem] <;> omega) | fail)) only [go_sem, ints, bools, mat, c_spec_l01DrawOf, srcR] | ((first | apply goIf_b | apply goG_b | apply goTG_b | apply goOG_b) <;> intro h <;> ((try simp only [hnq] at h); (try simp only [h]); (try simp only [hnr] at h)) <;> (try (exfalso; omega))))
    first | refine goC_call [.bm, .f] (d1) ?_ | refine goOC_call [.bm, .f] (d1) ?_
    repeat' (first | simp -implicitDefEqProofs (maxSteps := 1000000) (disch := (first | omega | (simp only [go_sem] <;> omega) | fail)) only [go_sem, ints, bools, mat] | ((first | apply goIf_b | apply goG_b | apply goTG_b | apply goOG_b) <;> intro h <;> ((try simp only [hnq] at h); (try simp only [h]); (try simp only [hnr] at h)) <;> (try (exfalso; omega))))
    first | refine goC_call [.bm, .r] (d2) ?_ | refine goOC_call [.bm, .r] (d2) ?_
    repeat' (first | simp -implicitDefEqProofs (maxSteps := 1000000) (disch := (first | omega | (simp only [go_sem] <;> omega) | fail)) only [go_sem, ints, bools, mat] | ((first | apply goIf_b | apply goG_b | apply goTG_b | apply goOG_b) <;> intro h <;> ((try simp only [hnq] at h); (try simp only [h]); (try simp only [hnr] at h)) <;> (try (exfalso; omega))))
    refine go_loop (fun (p : Nat × List Int × Src) => ⟨[(0, .ref 0 0), (1, .d (di most)), (4, .ref 1 0), (5, .ref 2 0), (6, .d (di kind)), (7, .d (di p.1)), (49, .ref 0 0)], [some (.var [cd, di p.2.2.1, du p.2.2.2]), some (.var [D.v (.slice none 0 0)]), some (.mix [.sl 3 0 p.2.1.length 1]), some (.dat 1 (p.2.1.map di))]⟩) (fun p => dwN l most kind p.1 p.2.1 p.2.2 = X ∧ szO p.2.1 ∧ okS l p.2.2 ∧ p.2.1.length + p.1 ≤ 8) (fun p => p.1) ((1 + n).toNat, [], s2) ?_ ?_ ?_
    · simp -implicitDefEqProofs (maxSteps := 1000000) (disch := (first | omega | (simp only [go_sem] <;> omega) | fail)) only [go_sem, ints, bools, mat]
      have e : ((1 + n).toNat : Int) = 1 + n := by omega
      rw [e]
    · exact ⟨hX.symm, hz0, hs2, by dsimp only; simp only [List.length_nil]; omega⟩
    · rintro ⟨k, o, s⟩ ⟨g1, g2, g3, g4⟩ J hJ
      dsimp only at g1 g2 g3 g4 ⊢
      have hn := d_spec_l01N o (by omega) g2.1
      have hp := g2.2
      rcases k with _ | k
      · have e : X = (o, s) := by rw [← g1]; rfl
        rw [e]
        by_cases ho : o.length = 0
        · have e2 : o = [] := List.eq_nil_of_length_eq_zero ho
          subst e2
          repeat' (first | simp -implicitDefEqProofs (maxSteps := 1000000) (disch := (first | omega | (simp only [go_sem] <;> omega) | fail)) only [go_sem, ints, bools, mat] | ((first | apply goIf_b | apply goG_b | apply goTG_b | apply goOG_b) <;> intro h <;> ((try simp only [hnq] at h); (try simp only [h]); (try simp only [hnr] at h)) <;> (try (exfalso; omega))))
        · rw [if_neg ho]
          repeat' (first | simp -implicitDefEqProofs (maxSteps := 1000000) (disch := (first | omega | (simp only [go_sem] <;> omega) | fail)) only [go_sem, ints, bools, mat] | ((first | apply goIf_b | apply goG_b | apply goTG_b | apply goOG_b) <;> intro h <;> ((try simp only [hnq] at h); (try simp only [h]); (try simp only [hnr] at h)) <;> (try (exfalso; omega))))
      · rw [dwN] at g1
        by_cases hk0 : kind = 0
        · obtain ⟨q, s3, hs3, hq, d3⟩ : ∃ (q : Int) (s3 : Src), okS l s3 ∧ (q = (pik l s [2, 2, 3, 4]).1 ∧ s3 = (pik l s [2, 2, 3, 4]).2) ∧ Den PA f_spec_l01Pick [srcR cd s, .d (ints [2, 2, 3, 4])] [srcR cd s3, .any] (.d (di q)) := ⟨_, _, pik_ok g3 _, ⟨rfl, rfl⟩, d_pik H g3 [2, 2, 3, 4] (by simp) (by simp)⟩
          have hm := pik_mem (l := l) (s := s) (xs := [2, 2, 3, 4]) (by simp)
          simp only [List.mem_cons, List.mem_nil_iff, or_false] at hm
          rw [← hq.1] at hm
          simp only [if_pos hk0] at g1
          rw [← hq.1, ← hq.2] at g1
          repeat' (first | simp -implicitDefEqProofs (maxSteps := 1000000) (disch := (first | omega | (simp only [go_sem] <;> omega) | fail)) only [go_sem, ints, bools, mat] | ((first | apply goIf_b | apply goG_b | apply goTG_b | apply goOG_b) <;> intro h <;> ((try simp only [hnq] at h); (try simp only [h]); (try simp only [hnr] at h)) <;> (try (exfalso; omega))))
          first | refine goC_call [.bm, .f] (d3) ?_ | refine goOC_call [.bm, .f] (d3) ?_
          repeat' (first | simp -implicitDefEqProofs (maxSteps := 1000000) (disch := (first | omega | (simp only [go_sem] <;> omega) | fail)) only [go_sem, ints, bools, mat] | ((first | apply goIf_b | apply goG_b | apply goTG_b | apply goOG_b) <;> intro h <;> ((try simp only [hnq] at h); (try simp only [h]); (try simp only [hnr] at h)) <;> (try (exfalso; omega))))
          first | refine goC_call [.r] (hn) ?_ | refine goOC_call [.r] (hn) ?_
          have hpq : 0 ≤ prodM o * q ∧ prodM o * q ≤ 256 * 4 := ⟨Int.mul_nonneg (by omega) (by omega), Int.mul_le_mul (by omega) (by omega) (by omega) (by omega)⟩
          repeat' (first | simp -implicitDefEqProofs (maxSteps := 1000000) (disch := (first | omega | (simp only [go_sem] <;> omega) | fail)) only [go_sem, ints, bools, mat] | ((first | apply goIf_b | apply goG_b | apply goTG_b | apply goOG_b) <;> intro h <;> ((try simp only [hnq] at h); (try simp only [h]); (try simp only [hnr] at h)) <;> (try (exfalso; omega))))
          · rw [if_pos (by assumption)] at g1
            rw [← g1]
            have e2 : o = [] := List.eq_nil_of_length_eq_zero (by omega)
            subst e2
            exact ⟨rfl, rfl⟩
          · rw [if_pos (by assumption)] at g1
            rw [← g1]
            dsimp only
            rw [if_neg (show ¬ o.length = 0 by omega)]
            exact ⟨rfl, rfl⟩
          · rw [if_neg (by omega)] at g1
            refine hJ (k, o ++ [q], s3) ⟨g1, szO_snoc g2 (by omega) (by omega), hs3, by dsimp only; simp; omega⟩ (by dsimp only; omega) _ ?_
            simp -implicitDefEqProofs (maxSteps := 1000000) (disch := (first | omega | (simp only [go_sem] <;> omega) | fail)) only [go_sem, ints, bools, mat]
        · simp only [if_neg hk0] at g1
          have hpq : 0 ≤ prodM o * kind ∧ prodM o * kind ≤ 256 * 4 := ⟨Int.mul_nonneg (by omega) (by omega), Int.mul_le_mul (by omega) (by omega) (by omega) (by omega)⟩
          repeat' (first | simp -implicitDefEqProofs (maxSteps := 1000000) (disch := (first | omega | (simp only [go_sem] <;> omega) | fail)) only [go_sem, ints, bools, mat] | ((first | apply goIf_b | apply goG_b | apply goTG_b | apply goOG_b) <;> intro h <;> ((try simp only [hnq] at h); (try simp only [h]); (try simp only [hnr] at h)) <;> (try (exfalso; omega))))
          first | refine goC_call [.r] (hn) ?_ | refine goOC_call [.r] (hn) ?_
          repeat' (first | simp -implicitDefEqProofs (maxSteps := 1000000) (disch := (first | omega | (simp only [go_sem] <;> omega) | fail)) only [go_sem, ints, bools, mat] | ((first | apply goIf_b | apply goG_b | apply goTG_b | apply goOG_b) <;> intro h <;> ((try simp only [hnq] at h); (try simp only [h]); (try simp only [hnr] at h)) <;> (try (exfalso; omega))))
          · rw [if_pos (by assumption)] at g1
            rw [← g1]
            have e2 : o = [] := List.eq_nil_of_length_eq_zero (by omega)
            subst e2
            exact ⟨rfl, rfl⟩
          · rw [if_pos (by assumption)] at g1
            rw [← g1]
            dsimp only
            rw [if_neg (show ¬ o.length = 0 by omega)]
            exact ⟨rfl, rfl⟩
          · rw [if_neg (by omega)] at g1
            refine hJ (k, o ++ [kind], s) ⟨g1, szO_snoc g2 (by omega) (by omega), g3, by dsimp only; simp; omega⟩ (by dsimp only; omega) _ ?_
            simp -implicitDefEqProofs (maxSteps := 1000000) (disch := (first | omega | (simp only [go_sem] <;> omega) | fail)) only [go_sem, ints, bools, mat]
theorem ex_draw {cd : D} {l : List Int} (H : SrcH cd l) {s : Src} (hs : okS l s) : ∃ (o : List Int) (s' : Src), okS l s' ∧ isSpaceM o = true ∧ Den PA f_spec_l01Draw [srcR cd s] [srcR cd s'] (.agg [.own 1 (o.map di)]) := by
  obtain ⟨m, s1, hs1, hm, d1⟩ := ex_pik H hs [16, 81, 256, 256] (by simp) (by simp)
  simp only [List.mem_cons, List.mem_nil_iff, or_false] at hm
  obtain ⟨o, s2, hs2, ho, d2⟩ := ex_drawOf H hs1 (most := m) (by omega) (by omega)
  refine ⟨o, s2, hs2, ho, den_go [0] l_spec_l01Draw ?_⟩
  repeat' (first | simp -implicitDefEqProofs (maxSteps := 1000000) (disch := (first | omega | (simp only [go_sem] <;> omega) | fail)) only [go_sem, ints, bools, mat, c_spec_l01Draw, srcR] | ((first | apply goIf_b | apply goG_b | apply goTG_b | apply goOG_b) <;> intro h <;> ((try simp only [hnq] at h); (try simp only [h]); (try simp only [hnr] at h)) <;> (try (exfalso; omega))))
  first | refine goC_call [.bm, .f] (d1) ?_ | refine goOC_call [.bm, .f] (d1) ?_
  repeat' (first | simp -implicitDefEqProofs (maxSteps := 1000000) (disch := (first | omega | (simp only [go_sem] <;> omega) | fail)) only [go_sem, ints, bools, mat] | ((first | apply goIf_b | apply goG_b | apply goTG_b | apply goOG_b) <;> intro h <;> ((try simp only [hnq] at h); (try simp only [h]); (try simp only [hnr] at h)) <;> (try (exfalso; omega))))
  first | refine goC_call [.bm, .r] (d2) ?_ | refine goOC_call [.bm, .r] (d2) ?_
  repeat' (first | simp -implicitDefEqProofs (maxSteps := 1000000) (disch := (first | omega | (simp only [go_sem] <;> omega) | fail)) only [go_sem, ints, bools, mat] | ((first | apply goIf_b | apply goG_b | apply goTG_b | apply goOG_b) <;> intro h <;> ((try simp only [hnq] at h); (try simp only [h]); (try simp only [hnr] at h)) <;> (try (exfalso; omega))))
def hsh (l : List Int) : Nat → Int
  | 0 => 14111 + (l.length : Int)
  | i + 1 => IntKind.wrap .u64 (IntKind.wrap .u64 (IntKind.wrap .u64 (hsh l i * 1099511628211) + l.getD i 0) + 251)
theorem hsh_bnd {l : List Int} (h : l.length < 1048577) : ∀ i, 0 ≤ hsh l i ∧ hsh l i < 18446744073709551616
  | 0 => by simp only [hsh]; omega
  | _ + 1 => wrapU_bnd _
theorem ex_from {cd : D} {l : List Int} (H : SrcH cd l) : ∃ s' : Src, okS l s' ∧ Den PA f_spec_l01From [.d cd] [.any] (srcR cd s') := by
  have hl := H.hl
  refine ⟨(0, hsh l (min l.length 4096)), ⟨Nat.zero_le _, hsh_bnd hl _⟩, den_go [] l_spec_l01From ?_⟩
  rcases H.hb with ⟨rfl, hby⟩ | ⟨rfl, rfl⟩
  · repeat' (first | simp -implicitDefEqProofs (maxSteps := 1000000) (disch := (first | omega | (simp only [go_sem] <;> omega) | fail)) only [go_sem, ints, bools, mat, c_spec_l01From, srcR] | ((first | apply goIf_b | apply goG_b | apply goTG_b | apply goOG_b) <;> intro h <;> ((try simp only [hnq] at h); (try simp only [h]); (try simp only [hnr] at h)) <;> (try (exfalso; omega))))
    refine go_loop (fun (i : Nat) => ⟨[(0, .d (.lst 1 (l.map dy))), (3, .ref 0 0), (4, .d (di i))], [some (.var [.lst 1 (l.map dy), di 0, du (hsh l i)])]⟩) (fun i => i ≤ min l.length 4096) (fun i => min l.length 4096 - i) 0 ?_ ?_ ?_
    · (simp -implicitDefEqProofs (maxSteps := 1000000) (disch := (first | omega | (simp only [go_sem] <;> omega) | fail)) only [go_sem, ints, bools, mat] <;> rfl)
    · exact Nat.zero_le _
    · rintro i hi J hJ
      have hb := hsh_bnd hl i
      by_cases hil : i < min l.length 4096
      · have hbi := hby _ (mem_getD (show i < l.length by omega))
        repeat' (first | simp -implicitDefEqProofs (maxSteps := 1000000) (disch := (first | omega | (simp only [go_sem] <;> omega) | fail)) only [go_sem, ints, bools, mat] | ((first | apply goIf_b | apply goG_b | apply goTG_b | apply goOG_b) <;> intro h <;> ((try simp only [hnq] at h); (try simp only [h]); (try simp only [hnr] at h)) <;> (try (exfalso; omega))))
        refine hJ (i + 1) (by omega) (by omega) _ (by (simp -implicitDefEqProofs (maxSteps := 1000000) (disch := (first | omega | (simp only [go_sem] <;> omega) | fail)) only [go_sem, ints, bools, mat] <;> rfl))
      · have e : i = min l.length 4096 := by omega
        by_cases h4 : l.length ≤ 4096
        · repeat' (first | simp -implicitDefEqProofs (maxSteps := 1000000) (disch := (first | omega | (simp only [go_sem] <;> omega) | fail)) only [go_sem, ints, bools, mat] | ((first | apply goIf_b | apply goG_b | apply goTG_b | apply goOG_b) <;> intro h <;> ((try simp only [hnq] at h); (try simp only [h]); (try simp only [hnr] at h)) <;> (try (exfalso; omega))))
          rw [← e]
        · repeat' (first | simp -implicitDefEqProofs (maxSteps := 1000000) (disch := (first | omega | (simp only [go_sem] <;> omega) | fail)) only [go_sem, ints, bools, mat] | ((first | apply goIf_b | apply goG_b | apply goTG_b | apply goOG_b) <;> intro h <;> ((try simp only [hnq] at h); (try simp only [h]); (try simp only [hnr] at h)) <;> (try (exfalso; omega))))
          rw [← e]
  · repeat' (first | simp -implicitDefEqProofs (maxSteps := 1000000) (disch := (first | omega | (simp only [go_sem] <;> omega) | fail)) only [go_sem, ints, bools, mat, c_spec_l01From, srcR] | ((first | apply goIf_b | apply goG_b | apply goTG_b | apply goOG_b) <;> intro h <;> ((try simp only [hnq] at h); (try simp only [h]); (try simp only [hnr] at h)) <;> (try (exfalso; omega))))
    refine go_loop (fun (_ : Unit) => ⟨[(0, .d (.v (.slice none 0 0))), (3, .ref 0 0), (4, .d (di 0))], [some (.var [.v (.slice none 0 0), di 0, du (hsh [] 0)])]⟩) (fun _ => True) (fun _ => 0) () ?_ trivial ?_
    · (simp -implicitDefEqProofs (maxSteps := 1000000) (disch := (first | omega | (simp only [go_sem] <;> omega) | fail)) only [go_sem, ints, bools, mat] <;> rfl)
    · intro _ _ J _
      repeat' (first | simp -implicitDefEqProofs (maxSteps := 1000000) (disch := (first | omega | (simp only [go_sem] <;> omega) | fail)) only [go_sem, ints, bools, mat] | ((first | apply goIf_b | apply goG_b | apply goTG_b | apply goOG_b) <;> intro h <;> ((try simp only [hnq] at h); (try simp only [h]); (try simp only [hnr] at h)) <;> (try (exfalso; omega))))
      rfl
theorem d_own_f {x : List Int} (hx : x.length < 1048577) : Den PA f_spec_l01Own [.d (ints x)] [.any] (.own 1 (x.map di)) := d_spec_l01Own x hx
def drL (X : D) (o : List Int) : Prop := IsInts X o ∧ o.length < 1048577 ∧ ∀ n, n ∈ o → in64 n
theorem ex_bad {cd : D} {l : List Int} (H : SrcH cd l) {s : Src} (hs : okS l s) {x : List Int} (hx : isSpaceM x = true) : ∃ (X : D) (o : List Int) (s' : Src), okS l s' ∧ drL X o ∧ Den PA f_spec_l01Bad [srcR cd s, .d (.agg [ints x])] [srcR cd s', .any] (.d (.agg [X])) := by
  have hn := isSpaceM_n hx
  have hq := isSpaceM_q hx
  have hin : ∀ n, n ∈ x → in64 n := fun n h => by
    obtain ⟨i, hi, rfl⟩ := List.mem_iff_getElem.1 h
    have := hq i hi
    simp [hi] at this
    unfold in64; omega
  obtain ⟨v, s1, hs1, v1, v2, d1⟩ := ex_nxt H hs (q := 50) (by omega)
  by_cases h0 : v = 0
  · subst h0
    refine ⟨nil, [], s1, hs1, ⟨.inr ⟨rfl, rfl⟩, by simp, by simp⟩, den_go [0] l_spec_l01Bad ?_⟩
    repeat' (first | simp -implicitDefEqProofs (maxSteps := 1000000) (disch := (first | omega | (simp only [go_sem] <;> omega) | fail)) only [go_sem, ints, bools, mat, c_spec_l01Bad, srcR] | ((first | apply goIf_b | apply goG_b | apply goTG_b | apply goOG_b) <;> intro h <;> ((try simp only [hnq] at h); (try simp only [h]); (try simp only [hnr] at h)) <;> (try (exfalso; omega))))
    first | refine goC_call [.r] (d_spec_l01Own x (by omega)) ?_ | refine goOC_call [.r] (d_spec_l01Own x (by omega)) ?_
    repeat' (first | simp -implicitDefEqProofs (maxSteps := 1000000) (disch := (first | omega | (simp only [go_sem] <;> omega) | fail)) only [go_sem, ints, bools, mat] | ((first | apply goIf_b | apply goG_b | apply goTG_b | apply goOG_b) <;> intro h <;> ((try simp only [hnq] at h); (try simp only [h]); (try simp only [hnr] at h)) <;> (try (exfalso; omega))))
    first | refine goC_call [.bm, .r] (d1) ?_ | refine goOC_call [.bm, .r] (d1) ?_
    repeat' (first | simp -implicitDefEqProofs (maxSteps := 1000000) (disch := (first | omega | (simp only [go_sem] <;> omega) | fail)) only [go_sem, ints, bools, mat] | ((first | apply goIf_b | apply goG_b | apply goTG_b | apply goOG_b) <;> intro h <;> ((try simp only [hnq] at h); (try simp only [h]); (try simp only [hnr] at h)) <;> (try (exfalso; omega))))
  · by_cases h1 : v = 1
    · subst h1
      obtain ⟨i, s2, hs2, i1, i2, d2⟩ := ex_nxt H hs1 (q := (x.length : Int)) (by omega)
      obtain ⟨w, s3, hs3, hw, d3⟩ := ex_pik H hs2 [1, 5, 0, -1, 1099511627776] (by simp) (by simp)
      refine ⟨ints (x.set i.toNat w), x.set i.toNat w, s3, hs3, ⟨.inl rfl, by simp; omega, fun n h => ?_⟩, den_go [0] l_spec_l01Bad ?_⟩
      · rcases List.mem_or_eq_of_mem_set h with h | rfl
        · exact hin n h
        · simp only [List.mem_cons, List.mem_nil_iff, or_false] at hw
          unfold in64; omega
      · repeat' (first | simp -implicitDefEqProofs (maxSteps := 1000000) (disch := (first | omega | (simp only [go_sem] <;> omega) | fail)) only [go_sem, ints, bools, mat, c_spec_l01Bad, srcR] | ((first | apply goIf_b | apply goG_b | apply goTG_b | apply goOG_b) <;> intro h <;> ((try simp only [hnq] at h); (try simp only [h]); (try simp only [hnr] at h)) <;> (try (exfalso; omega))))
        first | refine goC_call [.r] (d_spec_l01Own x (by omega)) ?_ | refine goOC_call [.r] (d_spec_l01Own x (by omega)) ?_
        repeat' (first | simp -implicitDefEqProofs (maxSteps := 1000000) (disch := (first | omega | (simp only [go_sem] <;> omega) | fail)) only [go_sem, ints, bools, mat] | ((first | apply goIf_b | apply goG_b | apply goTG_b | apply goOG_b) <;> intro h <;> ((try simp only [hnq] at h); (try simp only [h]); (try simp only [hnr] at h)) <;> (try (exfalso; omega))))
        first | refine goC_call [.bm, .r] (d1) ?_ | refine goOC_call [.bm, .r] (d1) ?_
        repeat' (first | simp -implicitDefEqProofs (maxSteps := 1000000) (disch := (first | omega | (simp only [go_sem] <;> omega) | fail)) only [go_sem, ints, bools, mat] | ((first | apply goIf_b | apply goG_b | apply goTG_b | apply goOG_b) <;> intro h <;> ((try simp only [hnq] at h); (try simp only [h]); (try simp only [hnr] at h)) <;> (try (exfalso; omega))))
        rw [goS_two]
        refine ⟨?_, ?_⟩
        · repeat' (first | simp -implicitDefEqProofs (maxSteps := 1000000) (disch := (first | omega | (simp only [go_sem] <;> omega) | fail)) only [go_sem, ints, bools, mat] | ((first | apply goIf_b | apply goG_b | apply goTG_b | apply goOG_b) <;> intro h <;> ((try simp only [hnq] at h); (try simp only [h]); (try simp only [hnr] at h)) <;> (try (exfalso; omega))))
          first | refine goC_call [.bm, .r] (d2) ?_ | refine goOC_call [.bm, .r] (d2) ?_
          repeat' (first | simp -implicitDefEqProofs (maxSteps := 1000000) (disch := (first | omega | (simp only [go_sem] <;> omega) | fail)) only [go_sem, ints, bools, mat] | ((first | apply goIf_b | apply goG_b | apply goTG_b | apply goOG_b) <;> intro h <;> ((try simp only [hnq] at h); (try simp only [h]); (try simp only [hnr] at h)) <;> (try (exfalso; omega))))
          first | refine goC_call [.bm, .f] (d3) ?_ | refine goOC_call [.bm, .f] (d3) ?_
          repeat' (first | simp -implicitDefEqProofs (maxSteps := 1000000) (disch := (first | omega | (simp only [go_sem] <;> omega) | fail)) only [go_sem, ints, bools, mat] | ((first | apply goIf_b | apply goG_b | apply goTG_b | apply goOG_b) <;> intro h <;> ((try simp only [hnq] at h); (try simp only [h]); (try simp only [hnr] at h)) <;> (try (exfalso; omega))))
        · repeat' (first | simp -implicitDefEqProofs (maxSteps := 1000000) (disch := (first | omega | (simp only [go_sem] <;> omega) | fail)) only [go_sem, ints, bools, mat] | ((first | apply goIf_b | apply goG_b | apply goTG_b | apply goOG_b) <;> intro h <;> ((try simp only [hnq] at h); (try simp only [h]); (try simp only [hnr] at h)) <;> (try (exfalso; omega))))
          first | refine goC_call [.bm, .r] (d2) ?_ | refine goOC_call [.bm, .r] (d2) ?_
          repeat' (first | simp -implicitDefEqProofs (maxSteps := 1000000) (disch := (first | omega | (simp only [go_sem] <;> omega) | fail)) only [go_sem, ints, bools, mat] | ((first | apply goIf_b | apply goG_b | apply goTG_b | apply goOG_b) <;> intro h <;> ((try simp only [hnq] at h); (try simp only [h]); (try simp only [hnr] at h)) <;> (try (exfalso; omega))))
          first | refine goC_call [.bm, .f] (d3) ?_ | refine goOC_call [.bm, .f] (d3) ?_
          repeat' (first | simp -implicitDefEqProofs (maxSteps := 1000000) (disch := (first | omega | (simp only [go_sem] <;> omega) | fail)) only [go_sem, ints, bools, mat] | ((first | apply goIf_b | apply goG_b | apply goTG_b | apply goOG_b) <;> intro h <;> ((try simp only [hnq] at h); (try simp only [h]); (try simp only [hnr] at h)) <;> (try (exfalso; omega))))
    · by_cases h2 : v = 2
      · subst h2
        refine ⟨ints (x ++ List.replicate (6 - x.length) 4), x ++ List.replicate (6 - x.length) 4, s1, hs1, ⟨.inl rfl, by simp; omega, fun n h => ?_⟩, den_go [0] l_spec_l01Bad ?_⟩
        · rcases List.mem_append.1 h with h | h
          · exact hin n h
          · rw [List.mem_replicate] at h; rw [h.2]; unfold in64; omega
        · repeat' (first | simp -implicitDefEqProofs (maxSteps := 1000000) (disch := (first | omega | (simp only [go_sem] <;> omega) | fail)) only [go_sem, ints, bools, mat, c_spec_l01Bad, srcR] | ((first | apply goIf_b | apply goG_b | apply goTG_b | apply goOG_b) <;> intro h <;> ((try simp only [hnq] at h); (try simp only [h]); (try simp only [hnr] at h)) <;> (try (exfalso; omega))))
          first | refine goC_call [.r] (d_spec_l01Own x (by omega)) ?_ | refine goOC_call [.r] (d_spec_l01Own x (by omega)) ?_
          repeat' (first | simp -implicitDefEqProofs (maxSteps := 1000000) (disch := (first | omega | (simp only [go_sem] <;> omega) | fail)) only [go_sem, ints, bools, mat] | ((first | apply goIf_b | apply goG_b | apply goTG_b | apply goOG_b) <;> intro h <;> ((try simp only [hnq] at h); (try simp only [h]); (try simp only [hnr] at h)) <;> (try (exfalso; omega))))
          first | refine goC_call [.bm, .r] (d1) ?_ | refine goOC_call [.bm, .r] (d1) ?_
          repeat' (first | simp -implicitDefEqProofs (maxSteps := 1000000) (disch := (first | omega | (simp only [go_sem] <;> omega) | fail)) only [go_sem, ints, bools, mat] | ((first | apply goIf_b | apply goG_b | apply goTG_b | apply goOG_b) <;> intro h <;> ((try simp only [hnq] at h); (try simp only [h]); (try simp only [hnr] at h)) <;> (try (exfalso; omega))))
          refine go_loop (fun (j : Nat) => ⟨[(4, .ref 0 0), (5, .ref 1 0), (42, .ref 2 0)], [some (.var [D.v (.slice none 0 0)]), some (.mix [.sl 3 0 (x.length + j) 1]), some (.var [cd, di s1.1, du s1.2]), some (.dat 1 ((x ++ List.replicate j 4).map di))]⟩) (fun j => j ≤ 6 - x.length) (fun j => 6 - x.length - j) 0 ?_ ?_ ?_
          · simp -implicitDefEqProofs (maxSteps := 1000000) (disch := (first | omega | (simp only [go_sem] <;> omega) | fail)) only [go_sem, ints, bools, mat]
            simp
          · exact Nat.zero_le _
          · rintro j hj J hJ
            by_cases hlt : j < 6 - x.length
            · repeat' (first | simp -implicitDefEqProofs (maxSteps := 1000000) (disch := (first | omega | (simp only [go_sem] <;> omega) | fail)) only [go_sem, ints, bools, mat] | ((first | apply goIf_b | apply goG_b | apply goTG_b | apply goOG_b) <;> intro h <;> ((try simp only [hnq] at h); (try simp only [h]); (try simp only [hnr] at h)) <;> (try (exfalso; omega))))
              refine hJ (j + 1) (by omega) (by omega) _ ?_
              simp -implicitDefEqProofs (maxSteps := 1000000) (disch := (first | omega | (simp only [go_sem] <;> omega) | fail)) only [go_sem, ints, bools, mat]
              rw [List.replicate_succ']
              simp [Nat.add_assoc]
            · have e : j = 6 - x.length := by omega
              repeat' (first | simp -implicitDefEqProofs (maxSteps := 1000000) (disch := (first | omega | (simp only [go_sem] <;> omega) | fail)) only [go_sem, ints, bools, mat] | ((first | apply goIf_b | apply goG_b | apply goTG_b | apply goOG_b) <;> intro h <;> ((try simp only [hnq] at h); (try simp only [h]); (try simp only [hnr] at h)) <;> (try (exfalso; omega))))
              rw [← e]
              repeat' (first | simp -implicitDefEqProofs (maxSteps := 1000000) (disch := (first | omega | (simp only [go_sem] <;> omega) | fail)) only [go_sem, ints, bools, mat] | ((first | apply goIf_b | apply goG_b | apply goTG_b | apply goOG_b) <;> intro h <;> ((try simp only [hnq] at h); (try simp only [h]); (try simp only [hnr] at h)) <;> (try (exfalso; omega))))
      · refine ⟨ints x, x, s1, hs1, ⟨.inl rfl, by omega, hin⟩, den_go [0] l_spec_l01Bad ?_⟩
        repeat' (first | simp -implicitDefEqProofs (maxSteps := 1000000) (disch := (first | omega | (simp only [go_sem] <;> omega) | fail)) only [go_sem, ints, bools, mat, c_spec_l01Bad, srcR] | ((first | apply goIf_b | apply goG_b | apply goTG_b | apply goOG_b) <;> intro h <;> ((try simp only [hnq] at h); (try simp only [h]); (try simp only [hnr] at h)) <;> (try (exfalso; omega))))
        first | refine goC_call [.r] (d_spec_l01Own x (by omega)) ?_ | refine goOC_call [.r] (d_spec_l01Own x (by omega)) ?_
        repeat' (first | simp -implicitDefEqProofs (maxSteps := 1000000) (disch := (first | omega | (simp only [go_sem] <;> omega) | fail)) only [go_sem, ints, bools, mat] | ((first | apply goIf_b | apply goG_b | apply goTG_b | apply goOG_b) <;> intro h <;> ((try simp only [hnq] at h); (try simp only [h]); (try simp only [hnr] at h)) <;> (try (exfalso; omega))))
        first | refine goC_call [.bm, .r] (d1) ?_ | refine goOC_call [.bm, .r] (d1) ?_
        repeat' (first | simp -implicitDefEqProofs (maxSteps := 1000000) (disch := (first | omega | (simp only [go_sem] <;> omega) | fail)) only [go_sem, ints, bools, mat] | ((first | apply goIf_b | apply goG_b | apply goTG_b | apply goOG_b) <;> intro h <;> ((try simp only [hnq] at h); (try simp only [h]); (try simp only [hnr] at h)) <;> (try (exfalso; omega))))
theorem d_nil_impl_IsSpace : Den PA f_impl_IsSpace [.d (.agg [nil])] [.any] (.d (db false)) := by
  refine den_go [] l_impl_IsSpace ?_
  repeat' (first | simp -implicitDefEqProofs (maxSteps := 1000000) (disch := (first | omega | (simp only [go_sem] <;> omega) | fail)) only [go_sem, ints, bools, mat, c_impl_IsSpace] | ((first | apply goIf_b | apply goG_b | apply goTG_b | apply goOG_b) <;> intro h <;> ((try simp only [hnq] at h); (try simp only [h]); (try simp only [hnr] at h)) <;> (try (exfalso; omega))))
theorem d_nil_spec_l01Is : Den PA f_spec_l01Is [.d (.agg [nil])] [.any] (.d (db false)) := by
  refine den_go [] l_spec_l01Is ?_
  repeat' (first | simp -implicitDefEqProofs (maxSteps := 1000000) (disch := (first | omega | (simp only [go_sem] <;> omega) | fail)) only [go_sem, ints, bools, mat, c_spec_l01Is] | ((first | apply goIf_b | apply goG_b | apply goTG_b | apply goOG_b) <;> intro h <;> ((try simp only [hnq] at h); (try simp only [h]); (try simp only [hnr] at h)) <;> (try (exfalso; omega))))
  first | refine goC_call [.r, .r, .r] (d_spec_l01In 0 1 8) ?_ | refine goOC_call [.r, .r, .r] (d_spec_l01In 0 1 8) ?_
  repeat' (first | simp -implicitDefEqProofs (maxSteps := 1000000) (disch := (first | omega | (simp only [go_sem] <;> omega) | fail)) only [go_sem, ints, bools, mat] | ((first | apply goIf_b | apply goG_b | apply goTG_b | apply goOG_b) <;> intro h <;> ((try simp only [hnq] at h); (try simp only [h]); (try simp only [hnr] at h)) <;> (try (exfalso; omega))))
theorem d_nil_impl_wordCode (x : D) : Den PA f_impl_wordCode [.d (.agg [nil]), .d x] [.any, .any] (.d (di 1)) := by
  refine den_go [] l_impl_wordCode ?_
  repeat' (first | simp -implicitDefEqProofs (maxSteps := 1000000) (disch := (first | omega | (simp only [go_sem] <;> omega) | fail)) only [go_sem, ints, bools, mat, c_impl_wordCode] | ((first | apply goIf_b | apply goG_b | apply goTG_b | apply goOG_b) <;> intro h <;> ((try simp only [hnq] at h); (try simp only [h]); (try simp only [hnr] at h)) <;> (try (exfalso; omega))))
  first | refine goC_call [.r] (d_nil_impl_IsSpace) ?_ | refine goOC_call [.r] (d_nil_impl_IsSpace) ?_
  repeat' (first | simp -implicitDefEqProofs (maxSteps := 1000000) (disch := (first | omega | (simp only [go_sem] <;> omega) | fail)) only [go_sem, ints, bools, mat] | ((first | apply goIf_b | apply goG_b | apply goTG_b | apply goOG_b) <;> intro h <;> ((try simp only [hnq] at h); (try simp only [h]); (try simp only [hnr] at h)) <;> (try (exfalso; omega))))
theorem d_laws_likeInts (l m : List Int) (hl : l.length < 1048577) : Den PA f_laws_likeInts [.d (ints l), .d (ints m)] [.any, .any] (.d (db (decide (l = m)))) := by
  refine den_go [] l_laws_likeInts ?_
  repeat' (first | simp -implicitDefEqProofs (maxSteps := 1000000) (disch := (first | omega | (simp only [go_sem] <;> omega) | fail)) only [go_sem, ints, bools, mat, c_laws_likeInts] | ((first | apply goIf_b | apply goG_b | apply goTG_b | apply goOG_b) <;> intro h <;> ((try simp only [hnq] at h); (try simp only [h]); (try simp only [hnr] at h)) <;> (try (exfalso; omega))))
  · exact dbF fun e => by have := of_decide_eq_true e; subst this; exact h rfl
  · refine go_loop (fun (j : Nat) => ⟨[(0, .d (ints l)), (1, .d (ints m)), (5, .d (di j))], []⟩) (fun j => j ≤ l.length ∧ ∀ i, i < j → l.getD i 0 = m.getD i 0) (fun j => l.length - j) 0 ?_ ?_ ?_
    · (simp -implicitDefEqProofs (maxSteps := 1000000) (disch := (first | omega | (simp only [go_sem] <;> omega) | fail)) only [go_sem, ints, bools, mat] <;> rfl)
    · simp
    · rintro j ⟨hj, hi⟩ J hJ
      repeat' (first | simp -implicitDefEqProofs (maxSteps := 1000000) (disch := (first | omega | (simp only [go_sem] <;> omega) | fail)) only [go_sem, ints, bools, mat] | ((first | apply goIf_b | apply goG_b | apply goTG_b | apply goOG_b) <;> intro h <;> ((try simp only [hnq] at h); (try simp only [h]); (try simp only [hnr] at h)) <;> (try (exfalso; omega))))
      · exact dbF fun e => by have := of_decide_eq_true e; subst this; exact h rfl
      · refine hJ (j + 1) ⟨by omega, all_ext hi (by assumption)⟩ (by omega) _ (by (simp -implicitDefEqProofs (maxSteps := 1000000) (disch := (first | omega | (simp only [go_sem] <;> omega) | fail)) only [go_sem, ints, bools, mat] <;> rfl))
      · exact dbT (decide_eq_true (eq_getD (by omega) fun i hi' => hi i (by omega)))
theorem d_laws_likeInts_nil : Den PA f_laws_likeInts [.d nil, .d nil] [.any, .any] (.d (db true)) := by
  refine den_go [] l_laws_likeInts ?_
  repeat' (first | simp -implicitDefEqProofs (maxSteps := 1000000) (disch := (first | omega | (simp only [go_sem] <;> omega) | fail)) only [go_sem, ints, bools, mat, c_laws_likeInts] | ((first | apply goIf_b | apply goG_b | apply goTG_b | apply goOG_b) <;> intro h <;> ((try simp only [hnq] at h); (try simp only [h]); (try simp only [hnr] at h)) <;> (try (exfalso; omega))))
  refine go_loop (fun (_ : Unit) => ⟨[(0, .d nil), (1, .d nil), (5, .d (di 0))], []⟩) (fun _ => True) (fun _ => 0) () ?_ trivial ?_
  · (simp -implicitDefEqProofs (maxSteps := 1000000) (disch := (first | omega | (simp only [go_sem] <;> omega) | fail)) only [go_sem, ints, bools, mat] <;> rfl)
  · intro _ _ J _
    repeat' (first | simp -implicitDefEqProofs (maxSteps := 1000000) (disch := (first | omega | (simp only [go_sem] <;> omega) | fail)) only [go_sem, ints, bools, mat] | ((first | apply goIf_b | apply goG_b | apply goTG_b | apply goOG_b) <;> intro h <;> ((try simp only [hnq] at h); (try simp only [h]); (try simp only [hnr] at h)) <;> (try (exfalso; omega))))
abbrev faL (l c : List Int) : List Int := (allW l).map fun w => minD l c w 8 c.length
theorem d_impl_radius (l c : List Int) (hs : isSpaceM l = true) (hc : c.length < 1048577) (hz : ∀ j, j < c.length → 0 ≤ c.getD j 0 ∧ c.getD j 0 < 1000000000000) : Den PA f_impl_radius [.d (.agg [ints l]), .d (ints c)] [.any, .any] (.d (di (mxL (faL l c) (faL l c).length))) := by
  have hp := isSpaceM_prod hs
  have hp1 := prodM_pos (isSpaceM_szs hs)
  have hfl : (faL l c).length = (prodM l).toNat := by simp [faL, allW_len]
  refine den_go [] l_impl_radius ?_
  repeat' (first | simp -implicitDefEqProofs (maxSteps := 1000000) (disch := (first | omega | (simp only [go_sem] <;> omega) | fail)) only [go_sem, ints, bools, mat, c_impl_radius] | ((first | apply goIf_b | apply goG_b | apply goTG_b | apply goOG_b) <;> intro h <;> ((try simp only [hnq] at h); (try simp only [h]); (try simp only [hnr] at h)) <;> (try (exfalso; omega))))
  first | refine goC_call [.r, .r] (d_impl_farness l c hs hc hz) ?_ | refine goOC_call [.r, .r] (d_impl_farness l c hs hc hz) ?_
  repeat' (first | simp -implicitDefEqProofs (maxSteps := 1000000) (disch := (first | omega | (simp only [go_sem] <;> omega) | fail)) only [go_sem, ints, bools, mat] | ((first | apply goIf_b | apply goG_b | apply goTG_b | apply goOG_b) <;> intro h <;> ((try simp only [hnq] at h); (try simp only [h]); (try simp only [hnr] at h)) <;> (try (exfalso; omega))))
  first | refine goC_call [.r] (d_slices_Max (faL l c) (by omega) (by omega)) ?_ | refine goOC_call [.r] (d_slices_Max (faL l c) (by omega) (by omega)) ?_
  repeat' (first | simp -implicitDefEqProofs (maxSteps := 1000000) (disch := (first | omega | (simp only [go_sem] <;> omega) | fail)) only [go_sem, ints, bools, mat] | ((first | apply goIf_b | apply goG_b | apply goTG_b | apply goOG_b) <;> intro h <;> ((try simp only [hnq] at h); (try simp only [h]); (try simp only [hnr] at h)) <;> (try (exfalso; omega))))
theorem d_impl_RadiusOf (l c : List Int) (hs : isSpaceM l = true) (hcc : isCodeM l c = true) (h0 : 0 < c.length) (hc : c.length < 1048577) : Den PA f_impl_RadiusOf [.d (.agg [ints l]), .d (ints c)] [.any, .any] (.tup [.d (di (mxL (faL l c) (faL l c).length)), .d (di 0)]) := by
  have hn := isSpaceM_n hs
  have hsc := d_impl_someCode0 l (by omega) c hc
  have eg : ggM l c = 0 := by simp [ggM, hs, hcc]
  have e : sgM l c = 0 := by rw [sgM, if_pos eg, if_neg (by omega)]
  rw [e] at hsc
  refine den_go [] l_impl_RadiusOf ?_
  repeat' (first | simp -implicitDefEqProofs (maxSteps := 1000000) (disch := (first | omega | (simp only [go_sem] <;> omega) | fail)) only [go_sem, ints, bools, mat, c_impl_RadiusOf] | ((first | apply goIf_b | apply goG_b | apply goTG_b | apply goOG_b) <;> intro h <;> ((try simp only [hnq] at h); (try simp only [h]); (try simp only [hnr] at h)) <;> (try (exfalso; omega))))
  first | refine goC_call [.r, .r, .r] (hsc) ?_ | refine goOC_call [.r, .r, .r] (hsc) ?_
  repeat' (first | simp -implicitDefEqProofs (maxSteps := 1000000) (disch := (first | omega | (simp only [go_sem] <;> omega) | fail)) only [go_sem, ints, bools, mat] | ((first | apply goIf_b | apply goG_b | apply goTG_b | apply goOG_b) <;> intro h <;> ((try simp only [hnq] at h); (try simp only [h]); (try simp only [hnr] at h)) <;> (try (exfalso; omega))))
  first | refine goC_call [.r, .r] (d_impl_radius l c hs hc (code_small hs hcc)) ?_ | refine goOC_call [.r, .r] (d_impl_radius l c hs hc (code_small hs hcc)) ?_
  repeat' (first | simp -implicitDefEqProofs (maxSteps := 1000000) (disch := (first | omega | (simp only [go_sem] <;> omega) | fail)) only [go_sem, ints, bools, mat] | ((first | apply goIf_b | apply goG_b | apply goTG_b | apply goOG_b) <;> intro h <;> ((try simp only [hnq] at h); (try simp only [h]); (try simp only [hnr] at h)) <;> (try (exfalso; omega))))
theorem lenA_bts {x : D} {l : List Int} (h : IsBts x l) : lenA (.d x) = some (.d (di l.length)) := by
  rcases h with ⟨rfl, _⟩ | ⟨rfl, rfl⟩
  · simp [lenA]
  · rfl
theorem d_laws_big {x : D} {l : List Int} (h : IsBts x l) : Den PA f_laws_big [.d x] [.any] (.d (db (decide (4096 < (l.length : Int))))) := by
  have hl := lenA_bts h
  refine den_go [] l_laws_big ?_
  repeat' (first | simp -implicitDefEqProofs (maxSteps := 1000000) (disch := (first | omega | (simp only [go_sem] <;> omega) | fail)) only [go_sem, ints, bools, mat, c_laws_big, hl] | ((first | apply goIf_b | apply goG_b | apply goTG_b | apply goOG_b) <;> intro h <;> ((try simp only [hnq] at h); (try simp only [h]); (try simp only [hnr] at h)) <;> (try (exfalso; omega))))
@[go_sem] theorem leaA_is (k : Nat) (x : AV) (v : Value) (s : Sto) : leaA (k + 1) (.is x v) s = leaA k x s := rfl
@[go_sem] theorem leaA_iref (k : Nat) (cs : List D) (c : Nat) (s : Sto) : leaA (k + 1) (.iref cs c) s = (.any, s) := rfl
@[go_sem] theorem leaA_fn (k : Nat) (f : FuncId) (xs : List AV) (s : Sto) : leaA (k + 1) (.fn f xs) s = (.any, s) := rfl
def leaBm (p : List R × Sto) : R × Sto := (.boxm p.1, p.2)
@[go_sem] theorem leaBm_ok (ls : List R) (s : Sto) : leaBm (ls, s) = (.boxm ls, s) := rfl
@[go_sem] theorem leaB_mix (cs : List AV) (k i : Nat) (s : Sto) : leaB (some (some (.mix cs))) k i s = leaBm (leaL (leaA k) cs (s.set i none)) := rfl
theorem leaS_pre {i n : Nat} {es : List D} {s : Sto} (h : n ≤ es.length) : leaS (some (some (.dat 1 es))) i 0 n 1 s = (.own 1 (es.take n), s.set i none) := by
  simp [leaS, h, Nat.mod_one]
theorem ballM_those (l : List Int) (w r : Int) : thoseM l (fun a => decide (farM (digM l w) a ≤ r)) = ballM l w r := by
  unfold thoseM ballM
  congr 1; funext u
  rw [← distM_comm l w u, distM]
theorem d_impl_ball_1 (a b : List Int) (r : Int) (ha : a.length = b.length) (h8 : a.length ≤ 8) : Den PA f_impl_ball_1 [.d (dig a), .box ((pad8 b).map dy), .box [di r]] [.any, .any, .any] (.d (db (decide (farM b a ≤ r)))) := by
  refine den_go [] l_impl_ball_1 ?_
  repeat' (first | simp -implicitDefEqProofs (maxSteps := 1000000) (disch := (first | omega | (simp only [go_sem] <;> omega) | fail)) only [go_sem, ints, bools, mat, c_impl_ball_1] | ((first | apply goIf_b | apply goG_b | apply goTG_b | apply goOG_b) <;> intro h <;> ((try simp only [hnq] at h); (try simp only [h]); (try simp only [hnr] at h))))
  first | refine goC_call [.r, .r] (d_impl_far b a ha.symm (by omega)) ?_ | refine goOC_call [.r, .r] (d_impl_far b a ha.symm (by omega)) ?_
  repeat' (first | simp -implicitDefEqProofs (maxSteps := 1000000) (disch := (first | omega | (simp only [go_sem] <;> omega) | fail)) only [go_sem, ints, bools, mat] | ((first | apply goIf_b | apply goG_b | apply goTG_b | apply goOG_b) <;> intro h <;> ((try simp only [hnq] at h); (try simp only [h]); (try simp only [hnr] at h))))
theorem d_impl_ball (l : List Int) (hs : isSpaceM l = true) (w r : Int) (hw : 0 ≤ w) (hw2 : w < 1000000000000) : Den PA f_impl_ball [.d (.agg [ints l]), .d (di w), .d (di r)] [.any, .any, .any] (.own 1 ((ballM l w r).map di)) := by
  have hn := isSpaceM_n hs
  have e := digM_len l w
  refine den_go [] l_impl_ball ?_
  repeat' (first | simp -implicitDefEqProofs (maxSteps := 1000000) (disch := (first | omega | (simp only [go_sem] <;> omega) | fail)) only [go_sem, ints, bools, mat, c_impl_ball] | ((first | apply goIf_b | apply goG_b | apply goTG_b | apply goOG_b) <;> intro h <;> ((try simp only [hnq] at h); (try simp only [h]); (try simp only [hnr] at h))))
  first | refine goC_call [.r, .r] (d_impl_digitsOf l hs w hw hw2) ?_ | refine goOC_call [.r, .r] (d_impl_digitsOf l hs w hw hw2) ?_
  repeat' (first | simp -implicitDefEqProofs (maxSteps := 1000000) (disch := (first | omega | (simp only [go_sem] <;> omega) | fail)) only [go_sem, ints, bools, mat, dig] | ((first | apply goIf_b | apply goG_b | apply goTG_b | apply goOG_b) <;> intro h <;> ((try simp only [hnq] at h); (try simp only [h]); (try simp only [hnr] at h))))
  first | refine goC_call [.r, .g (fnD l.length fun a => decide (farM (digM l w) a ≤ r))] (d_impl_those l hs (fun a => decide (farM (digM l w) a ≤ r)) _ (fun u => fnD_mk hs (fun a => decide (farM (digM l w) a ≤ r)) u)) ?_ | refine goOC_call [.r, .g (fnD l.length fun a => decide (farM (digM l w) a ≤ r))] (d_impl_those l hs (fun a => decide (farM (digM l w) a ≤ r)) _ (fun u => fnD_mk hs (fun a => decide (farM (digM l w) a ≤ r)) u)) ?_
  repeat' (first | simp -implicitDefEqProofs (maxSteps := 1000000) (disch := (first | omega | (simp only [go_sem] <;> omega) | fail)) only [go_sem, ints, bools, mat] | ((first | apply goIf_b | apply goG_b | apply goTG_b | apply goOG_b) <;> intro h <;> ((try simp only [hnq] at h); (try simp only [h]); (try simp only [hnr] at h))))
  refine chk_intro (fnOK_mk (d_impl_ball_1 [] [] 0 rfl (by simp)).1 [(pad8 (digM l w)).map dy, [di r]] rfl fun ds v hgg => ?_) ?_
  · obtain ⟨a, ha, _, rfl, rfl⟩ := hgg
    exact ⟨_, d_impl_ball_1 a (digM l w) r (by rw [ha, digM_len]) (by omega)⟩
  rw [ballM_those]
  repeat' (first | simp -implicitDefEqProofs (maxSteps := 1000000) (disch := (first | omega | (simp only [go_sem] <;> omega) | fail)) only [go_sem, ints, bools, mat] | ((first | apply goIf_b | apply goG_b | apply goTG_b | apply goOG_b) <;> intro h <;> ((try simp only [hnq] at h); (try simp only [h]); (try simp only [hnr] at h))))
def cf : List Int → Nat → Int
  | [], k => if k = 0 then 1 else 0
  | q :: r, k => mulB (q - 1) (cf r) k
theorem flat_cnt (n a : Nat) (A B : Int) (g : Nat → List (List Int)) (h : ∀ d, d < n → ((g d).length : Int) = if d = a then A else B) :
    ((((List.range n).flatMap g).length : Nat) : Int) = n * B + if a < n then A - B else 0 := by
  induction n with
  | zero => simp
  | succ n ih =>
    have hs := h n (by omega)
    rw [List.range_succ, List.flatMap_append, List.length_append, Int.natCast_add, ih fun d hd => h d (by omega)]
    simp only [List.flatMap_cons, List.flatMap_nil, List.append_nil]
    rw [hs]
    have e : ((n + 1 : Nat) : Int) * B = n * B + B := by rw [Int.natCast_add, Int.add_mul]; simp
    rw [e]
    rcases Nat.lt_trichotomy n a with q | q | q
    · rw [if_neg (show ¬ n = a by omega), if_neg (show ¬ a < n by omega), if_neg (show ¬ a < n + 1 by omega)]; omega
    · rw [if_pos q, if_neg (show ¬ a < n by omega), if_pos (show a < n + 1 by omega)]; omega
    · rw [if_neg (show ¬ n = a by omega), if_pos (show a < n by omega), if_pos (show a < n + 1 by omega)]; omega
theorem cf_part (r a : List Int) (d a0 : Int) (k : Nat) : ((((vecs r).map fun v => d :: v).filter fun v => farM v (a0 :: a) == (k : Int)).length : Int) =
    if d = a0 then (((vecs r).filter fun v => farM v a == (k : Int)).length : Int) else dn (fun k => (((vecs r).filter fun v => farM v a == (k : Int)).length : Int)) k := by
  rw [List.filter_map, List.length_map]
  split
  · rename_i e
    congr 2
    apply List.filter_congr
    intro v _
    simp only [Function.comp, farM, if_pos e, Int.zero_add]
  · rename_i e
    unfold dn
    split
    · rename_i hk
      subst hk
      rw [List.filter_eq_nil_iff.2]
      · rfl
      · intro v _
        have := (farM_bnd v a).1
        simp only [Function.comp, farM, if_neg e, beq_iff_eq]; omega
    · rename_i hk
      congr 2
      apply List.filter_congr
      intro v _
      simp only [Function.comp, farM, if_neg e]
      rw [Bool.eq_iff_iff, beq_iff_eq, beq_iff_eq]; omega
theorem cf_ok : ∀ {l a : List Int}, szs l → a.length = l.length → (∀ i, i < l.length → 0 ≤ a.getD i 0 ∧ a.getD i 0 < l.getD i 0) → ∀ k : Nat, (((vecs l).filter fun v => farM v a == (k : Int)).length : Int) = cf l k
  | [], a, _, hl, _, k => by
    have : a = [] := List.eq_nil_of_length_eq_zero hl
    subst this
    rw [vecs, cf]
    by_cases hk : k = 0
    · subst hk; simp [farM]
    · rw [if_neg hk, List.filter_eq_nil_iff.2]
      · rfl
      · intro v hv
        simp at hv; subst hv
        simp [farM]; omega
  | q :: r, [], _, hl, _, k => by simp at hl
  | q :: r, a0 :: a, h, hl, hb, k => by
    have hq := h 0 (by simp)
    simp at hq
    have h0 := hb 0 (by simp)
    simp at h0
    have ih := fun k => cf_ok (l := r) (a := a) (szs_tail h) (by simpa using hl) (fun i hi => by simpa using hb (i + 1) (by simpa using hi)) k
    rw [vecs, List.filter_flatMap, flat_cnt q.toNat a0.toNat (cf r k) (dn (cf r) k), if_pos (by omega), cf, mulB]
    · rw [show ((q.toNat : Nat) : Int) = (q - 1) + 1 by omega, Int.add_mul]; omega
    · intro d hd
      rw [cf_part]
      have e2 : dn (fun k => (((vecs r).filter fun v => farM v a == (k : Int)).length : Int)) k = dn (cf r) k := by
        congr 1; funext k; exact ih k
      rw [e2, ih]
      by_cases e : d = a0.toNat
      · rw [if_pos e, if_pos (by omega)]
      · rw [if_neg e, if_neg (by omega)]
def sumN (f : Nat → Int) : Nat → Int
  | 0 => 0
  | n + 1 => sumN f n + f n
def bzM (l : List Int) (r : Int) : Int := sumN (cf l) (r.toNat + 1)
theorem cnt_le {α : Type} (L : List α) (f : α → Int) (h : ∀ x, x ∈ L → 0 ≤ f x) : ∀ n : Nat, ((L.filter fun x => decide (f x < n)).length : Int) = sumN (fun k => ((L.filter fun x => f x == (k : Int)).length : Int)) n
  | 0 => by
    rw [List.filter_eq_nil_iff.2]
    · rfl
    · intro x hx
      have := h x hx
      simp only [decide_eq_true_eq]; omega
  | n + 1 => by
    rw [sumN, ← cnt_le L f h n]
    clear h
    induction L with
    | nil => rfl
    | cons x L ih =>
      rw [List.filter_cons, List.filter_cons, List.filter_cons]
      rcases Int.lt_trichotomy (f x) n with q | q | q
      · rw [if_pos (decide_eq_true (by omega)), if_pos (decide_eq_true q), if_neg (by rw [beq_iff_eq]; omega)]
        simp only [List.length_cons]; omega
      · rw [if_pos (decide_eq_true (by omega)), if_neg (by rw [decide_eq_true_eq]; omega), if_pos (by rw [beq_iff_eq]; exact q)]
        simp only [List.length_cons]; omega
      · rw [if_neg (by rw [decide_eq_true_eq]; omega), if_neg (by rw [decide_eq_true_eq]; omega), if_neg (by rw [beq_iff_eq]; omega)]
        exact ih
theorem dig_in {l : List Int} (h : szs l) (w : Int) : ∀ i, i < l.length → 0 ≤ (digM l w).getD i 0 ∧ (digM l w).getD i 0 < l.getD i 0 := fun i hi =>
  ⟨(digM_bnd w h i).1, (dig_lt h w hi).2⟩
theorem ball_len {l : List Int} (hs : isSpaceM l = true) (w : Int) {r : Int} (hr : 0 ≤ r) : ((ballM l w r).length : Int) = bzM l r := by
  have hz := isSpaceM_szs hs
  have h1 : (ballM l w r).length = ((vecs l).filter fun v => decide (farM v (digM l w) < ((r.toNat + 1 : Nat) : Int))).length := by
    rw [← vecs_ok hz, List.filter_map, List.length_map, ballM]
    congr 1
    apply List.filter_congr
    intro u _
    simp only [Function.comp, distM]
    congr 1
    apply propext
    constructor <;> intro h <;> omega
  rw [h1, cnt_le _ _ (fun v _ => (farM_bnd v _).1), bzM]
  congr 1
  funext k
  exact cf_ok hz (digM_len l w) (dig_in hz w) k
theorem cf_app (q : Int) : ∀ (p : List Int) (k : Nat), cf (p ++ [q]) k = mulB (q - 1) (cf p) k
  | [], k => rfl
  | a :: p, k => by
    rw [List.cons_append, cf, show cf (p ++ [q]) = mulB (q - 1) (cf p) from funext (cf_app q p), mulB_comm]
    rfl
theorem cf_bnd : ∀ (l : List Int), (∀ i, i < l.length → 2 ≤ l.getD i 0 ∧ l.getD i 0 ≤ 4) → ∀ k, 0 ≤ cf l k ∧ cf l k ≤ 4 ^ l.length
  | [], _, k => by
    rw [cf]; split <;> simp
  | q :: r, h, k => by
    have hq := h 0 (by simp)
    simp at hq
    have ih := cf_bnd r fun i hi => by simpa using h (i + 1) (by simpa using hi)
    have h1 := ih k
    have h2 : 0 ≤ dn (cf r) k ∧ dn (cf r) k ≤ 4 ^ r.length := by
      unfold dn; split
      · exact ⟨Int.le_refl _, Int.pow_nonneg (by omega)⟩
      · exact ih _
    have h3 : (q - 1) * dn (cf r) k ≤ 3 * 4 ^ r.length := Int.mul_le_mul (by omega) h2.2 h2.1 (by omega)
    have h4 : 0 ≤ (q - 1) * dn (cf r) k := Int.mul_nonneg (by omega) h2.1
    rw [cf, mulB, List.length_cons, Int.pow_succ]
    omega
theorem cf_zero : ∀ (l : List Int) (k : Nat), l.length < k → cf l k = 0
  | [], k, h => by rw [cf, if_neg (by simp at h; omega)]
  | q :: r, k, h => by
    simp at h
    rw [cf, mulB, cf_zero r k (by omega), dn, if_neg (by omega), cf_zero r (k - 1) (by omega)]; simp
theorem sumN_big (f : Nat → Int) {m : Nat} (h : ∀ k, m ≤ k → f k = 0) : ∀ n, m ≤ n → sumN f n = sumN f m
  | 0, hn => by
    have : m = 0 := by omega
    subst this; rfl
  | n + 1, hn => by
    rcases Nat.lt_or_ge n m with q | q
    · have : m = n + 1 := by omega
      subst this; rfl
    · rw [sumN, h n q, sumN_big f h n q]; omega
def rowS (l : List Int) (i k : Nat) : List Int := (List.range (l.length + 1)).map fun j => if k < j then cf (l.take (i + 1)) j else cf (l.take i) j
@[go_sem] theorem rowS_len (l : List Int) (i k : Nat) : (rowS l i k).length = l.length + 1 := by simp [rowS]
theorem rowS_get (l : List Int) (i k : Nat) {j : Nat} (h : j < l.length + 1) : (rowS l i k).getD j 0 = if k < j then cf (l.take (i + 1)) j else cf (l.take i) j := by simp [rowS, h]
theorem rowS_step (l : List Int) {i k : Nat} (hi : i < l.length) (hk : k < l.length) : (rowS l i (k + 1)).set (k + 1) (cf (l.take i) (k + 1) + cf (l.take i) k * (l.getD i 0 - 1)) = rowS l i k := by
  refine eq_getD (by rw [List.length_set, rowS_len, rowS_len]) fun j hj => ?_
  rw [List.length_set, rowS_len] at hj
  rw [rowS_get l i k hj, List.getD_eq_getElem?_getD, List.getElem?_set]
  by_cases e : k + 1 = j
  · subst e
    rw [if_pos rfl, if_pos (by rw [rowS_len]; omega), if_pos (by omega), take_one l hi, cf_app, mulB, dn, if_neg (by omega), Nat.add_sub_cancel, Int.mul_comm]
    rfl
  · rw [if_neg e]
    have := rowS_get l i (k + 1) hj
    rw [List.getD_eq_getElem?_getD] at this
    rw [this]
    by_cases e2 : k + 1 < j
    · rw [if_pos e2, if_pos (by omega)]
    · rw [if_neg e2, if_neg (by omega)]
theorem rowS_next (l : List Int) {i : Nat} (hi : i < l.length) : rowS l i 0 = rowS l (i + 1) (i + 2) := by
  refine eq_getD (by rw [rowS_len, rowS_len]) fun j hj => ?_
  rw [rowS_len] at hj
  rw [rowS_get l i 0 hj, rowS_get l (i + 1) (i + 2) hj]
  by_cases e : j = 0
  · subst e
    rw [if_neg (by omega), if_neg (by omega), take_one l hi, cf_app, mulB, dn, if_pos rfl]; simp
  · rw [if_pos (by omega)]
    by_cases e2 : i + 2 < j
    · rw [if_pos e2, cf_zero _ _ (by simp; omega), cf_zero _ _ (by simp; omega)]
    · rw [if_neg e2]
theorem rowS_0 {l : List Int} : (List.replicate (l.length + 1) (0 : Int)).set 0 1 = rowS l 0 1 := by
  refine eq_getD (by rw [List.length_set, List.length_replicate, rowS_len]) fun j hj => ?_
  rw [List.length_set, List.length_replicate] at hj
  rw [rowS_get l 0 1 hj, List.getD_eq_getElem?_getD, List.getElem?_set]
  by_cases e : j = 0
  · subst e; simp [cf]
  · rw [if_neg (by omega)]
    have : ∀ n, n ≠ 0 → cf (l.take 1) n = if n = 1 then cf (l.take 1) 1 else 0 := fun n hn => by
      split
      · rename_i e; rw [e]
      · exact cf_zero _ _ (by simp; omega)
    by_cases e2 : j = 1
    · subst e2
      rw [if_neg (by omega), List.take_zero, cf, if_neg (by omega)]
      simp [hj]
    · rw [if_pos (by omega), this j e, if_neg e2]
      simp [hj]
theorem rowS_end (l : List Int) {k : Nat} (hk : k < l.length + 1) : (rowS l l.length (l.length + 1)).getD k 0 = cf l k := by
  rw [rowS_get l _ _ hk, if_neg (by omega), List.take_length]
theorem sumN_bnd (f : Nat → Int) (B : Int) (h : ∀ k, 0 ≤ f k ∧ f k ≤ B) : ∀ n : Nat, 0 ≤ sumN f n ∧ sumN f n ≤ n * B
  | 0 => by simp [sumN]
  | n + 1 => by
    have h1 := sumN_bnd f B h n
    have h2 := h n
    rw [sumN, Int.natCast_add, Int.add_mul]; omega
theorem pow4_le {n : Nat} (h : n ≤ 8) : (4 : Int) ^ n ≤ 65536 := by
  have h1 : (4 : Nat) ^ n ≤ 65536 := Nat.le_trans (Nat.pow_le_pow_right (by omega) h) (by decide)
  have h2 : ((4 ^ n : Nat) : Int) ≤ 65536 := by omega
  rw [Int.natCast_pow] at h2
  exact h2
end Go.Proofs.YtfgjfjgkoabfjacGreat.Va
