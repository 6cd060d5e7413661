/- Contracts of the functions that FnPerfect reaches (part 1). Condition: none. -/
import Derived.Test.YtfgjfjgkoabfjaaDFnPerfect0
set_option linter.all false
set_option linter.unusedSimpArgs false
set_option linter.unusedVariables false
namespace Go.Proofs.Ytfgjfjgkoabfjaa.Va
open Go
set_option maxHeartbeats 4000000
set_option maxRecDepth 100000
theorem d_slices_DeleteFunc_rows (ds : List (List Int)) (p : List Int → Bool) (g : List D → Value → Prop) (hg : ∀ i, i < ds.length → g [ints (ds.getD i [])] (.bool (p (ds.getD i [])))) (hl : ds.length < 1048577) :
    Den PA f_slices_DeleteFunc_____int64___int64_ [.own 1 (ds.map ints), .pfn g] [.any, .any] (.own 1 ((ds.filter fun x => !p x).map ints)) := by
  refine den_go [] l_slices_DeleteFunc_____int64___int64_ ?_
  repeat' (first | simp -implicitDefEqProofs (maxSteps := 1000000) (disch := (first | omega | (simp only [go_sem] <;> omega) | fail)) only [go_sem, ints, bools, mat, c_slices_DeleteFunc_____int64___int64_] | ((first | refine goIf_b (fun h => ?_) (fun h => ?_) | refine goG_b (fun h => ?_) (fun h => ?_) | refine goTG_b (fun h => ?_) (fun h => ?_) | refine goOG_b (fun h => ?_) (fun h => ?_)) <;> ((try simp only [Bool.not_eq_true', Bool.not_eq_false'] at h); (try simp only [h]); (try simp only [decide_eq_true_eq, decide_eq_false_iff_not, bne_iff_ne, bne_eq_false_iff_eq, beq_iff_eq, beq_eq_false_iff_ne, ne_eq, Int.not_lt, Int.not_le, Bool.and_eq_true, Bool.and_eq_false_iff, Bool.or_eq_true, Bool.or_eq_false_iff] at h))))
  first | refine goC_of [.r, .g g] (d_slices_IndexFunc_rows ds p g hg hl) (by first | (simp -implicitDefEqProofs (maxSteps := 1000000) (disch := (first | omega | (simp only [go_sem] <;> omega) | fail)) only [go_sem, ints, bools, mat] <;> rfl) | rfl) (by first | (simp -implicitDefEqProofs (maxSteps := 1000000) (disch := (first | omega | (simp only [go_sem] <;> omega) | fail)) only [go_sem, ints, bools, mat] <;> rfl) | rfl) (⟨trivial, fun _ _ h => h, trivial⟩) (by first | (simp -implicitDefEqProofs (maxSteps := 1000000) (disch := (first | omega | (simp only [go_sem] <;> omega) | fail)) only [go_sem, ints, bools, mat] <;> rfl) | rfl) ?_ | refine goOC_of [.r, .g g] (d_slices_IndexFunc_rows ds p g hg hl) (by first | (simp -implicitDefEqProofs (maxSteps := 1000000) (disch := (first | omega | (simp only [go_sem] <;> omega) | fail)) only [go_sem, ints, bools, mat] <;> rfl) | rfl) (by first | (simp -implicitDefEqProofs (maxSteps := 1000000) (disch := (first | omega | (simp only [go_sem] <;> omega) | fail)) only [go_sem, ints, bools, mat] <;> rfl) | rfl) (by first | (simp -implicitDefEqProofs (maxSteps := 1000000) (disch := (first | omega | (simp only [go_sem] <;> omega) | fail)) only [go_sem, ints, bools, mat] <;> rfl) | rfl) (⟨trivial, fun _ _ h => h, trivial⟩) (by first | (simp -implicitDefEqProofs (maxSteps := 1000000) (disch := (first | omega | (simp only [go_sem] <;> omega) | fail)) only [go_sem, ints, bools, mat] <;> rfl) | rfl) ?_
  cases hf : ds.findIdx? p with
  | none =>
    rw [List.findIdx?_eq_none_iff] at hf
    have e : (ds.filter fun x => !p x) = ds := by
      rw [List.filter_eq_self]
      intro x hx; simpa using hf x hx
    repeat' (first | simp -implicitDefEqProofs (maxSteps := 1000000) (disch := (first | omega | (simp only [go_sem] <;> omega) | fail)) only [go_sem, ints, bools, mat] | ((first | refine goIf_b (fun h => ?_) (fun h => ?_) | refine goG_b (fun h => ?_) (fun h => ?_) | refine goTG_b (fun h => ?_) (fun h => ?_) | refine goOG_b (fun h => ?_) (fun h => ?_)) <;> ((try simp only [Bool.not_eq_true', Bool.not_eq_false'] at h); (try simp only [h]); (try simp only [decide_eq_true_eq, decide_eq_false_iff_not, bne_iff_ne, bne_eq_false_iff_eq, beq_iff_eq, beq_eq_false_iff_ne, ne_eq, Int.not_lt, Int.not_le, Bool.and_eq_true, Bool.and_eq_false_iff, Bool.or_eq_true, Bool.or_eq_false_iff] at h))))
    rw [e]
  | some i =>
    obtain ⟨hi, h1, h2⟩ := List.findIdx?_eq_some_iff_getElem.1 hf
    have h1' : p (ds.getD i []) = true := by simpa [hi] using h1
    have h2' : ∀ k, k < i → p (ds.getD k []) = false := fun k hk => by
      have := h2 k hk
      simpa [show k < ds.length by omega] using this
    have e1 : ((ds.take (i + 1)).filter fun x => !p x) = ds.take i := by
      rw [filter_take_succ _ _ hi, thin_first ds p hi h2', h1']; simp
    repeat' (first | simp -implicitDefEqProofs (maxSteps := 1000000) (disch := (first | omega | (simp only [go_sem] <;> omega) | fail)) only [go_sem, ints, bools, mat] | ((first | refine goIf_b (fun h => ?_) (fun h => ?_) | refine goG_b (fun h => ?_) (fun h => ?_) | refine goTG_b (fun h => ?_) (fun h => ?_) | refine goOG_b (fun h => ?_) (fun h => ?_)) <;> ((try simp only [Bool.not_eq_true', Bool.not_eq_false'] at h); (try simp only [h]); (try simp only [decide_eq_true_eq, decide_eq_false_iff_not, bne_iff_ne, bne_eq_false_iff_eq, beq_iff_eq, beq_eq_false_iff_ne, ne_eq, Int.not_lt, Int.not_le, Bool.and_eq_true, Bool.and_eq_false_iff, Bool.or_eq_true, Bool.or_eq_false_iff] at h)) <;> (try (exfalso; omega))))
    refine go_loop (fun (q : Nat × List (List Int)) => ⟨[(0, .sl 0 0 ds.length 1), (1, .pfn g), (5, .d (di ((ds.take q.1).filter fun x => !p x).length)), (6, .d (di q.1)), (42, .any)], [some (.dat 1 (q.2.map ints))]⟩) (fun q => i < q.1 ∧ q.1 ≤ ds.length ∧ q.2.length = ds.length ∧ q.2.take ((ds.take q.1).filter fun x => !p x).length = ((ds.take q.1).filter fun x => !p x) ∧ ((ds.take q.1).filter fun x => !p x).length < q.1 ∧ ∀ k, q.1 ≤ k → q.2.getD k [] = ds.getD k []) (fun q => ds.length - q.1) (i + 1, ds) ?_ ?_ ?_
    · simp -implicitDefEqProofs (maxSteps := 1000000) (disch := (first | omega | (simp only [go_sem] <;> omega) | fail)) only [go_sem, ints, bools, mat]
      rw [e1, List.length_take, Nat.min_eq_left (by omega)]; rfl
    · refine ⟨Nat.lt_succ_self _, hi, rfl, ?_, ?_, fun k _ => rfl⟩
      · rw [e1, List.length_take, Nat.min_eq_left (by omega)]
      · rw [e1, List.length_take]; omega
    · rintro ⟨j, X⟩ ⟨g1, g2, g3, g4, g5, g6⟩ J hJ
      dsimp only at g1 g2 g3 g4 g5 g6 ⊢
      have hgj := fun h : j < ds.length => g6 j (Nat.le_refl _)
      repeat' (first | simp -implicitDefEqProofs (maxSteps := 1000000) (disch := (first | omega | (simp only [go_sem] <;> omega) | fail)) only [go_sem, ints, bools, mat] | ((first | refine goIf_b (fun h => ?_) (fun h => ?_) | refine goG_b (fun h => ?_) (fun h => ?_) | refine goTG_b (fun h => ?_) (fun h => ?_) | refine goOG_b (fun h => ?_) (fun h => ?_)) <;> ((try simp only [Bool.not_eq_true', Bool.not_eq_false'] at h); (try simp only [h]); (try simp only [decide_eq_true_eq, decide_eq_false_iff_not, bne_iff_ne, bne_eq_false_iff_eq, beq_iff_eq, beq_eq_false_iff_ne, ne_eq, Int.not_lt, Int.not_le, Bool.and_eq_true, Bool.and_eq_false_iff, Bool.or_eq_true, Bool.or_eq_false_iff] at h))))
      · have hj : j < ds.length := by omega
        rw [hgj hj]
        have hfs := filter_take_succ ds (fun x => !p x) hj
        refine goV_pfn [ints (ds.getD j [])] (.bool (p (ds.getD j []))) (by simp -implicitDefEqProofs (maxSteps := 1000000) (disch := (first | omega | (simp only [go_sem] <;> omega) | fail)) only [go_sem, ints, bools, mat]) rfl (hg j hj) ?_
        repeat' (first | simp -implicitDefEqProofs (maxSteps := 1000000) (disch := (first | omega | (simp only [go_sem] <;> omega) | fail)) only [go_sem, ints, bools, mat] | ((first | refine goIf_b (fun h => ?_) (fun h => ?_) | refine goG_b (fun h => ?_) (fun h => ?_) | refine goTG_b (fun h => ?_) (fun h => ?_) | refine goOG_b (fun h => ?_) (fun h => ?_)) <;> ((try simp only [Bool.not_eq_true', Bool.not_eq_false'] at h); (try simp only [h]); (try simp only [decide_eq_true_eq, decide_eq_false_iff_not, bne_iff_ne, bne_eq_false_iff_eq, beq_iff_eq, beq_eq_false_iff_ne, ne_eq, Int.not_lt, Int.not_le, Bool.and_eq_true, Bool.and_eq_false_iff, Bool.or_eq_true, Bool.or_eq_false_iff] at h))))
        · rw [h] at hfs
          refine hJ (j + 1, X) ⟨by omega, by omega, g3, ?_, ?_, fun k hk => g6 k (by dsimp only at hk; omega)⟩ (by dsimp only; omega) _ ?_
          · dsimp only; rw [hfs]; simpa using g4
          · dsimp only; rw [hfs]; simp; omega
          · simp -implicitDefEqProofs (maxSteps := 1000000) (disch := (first | omega | (simp only [go_sem] <;> omega) | fail)) only [go_sem, ints, bools, mat]
            rw [hfs]; simp
        · rw [h] at hfs
          refine hJ (j + 1, X.set ((ds.take j).filter fun x => !p x).length (ds.getD j [])) ⟨by omega, by omega, by simpa using g3, ?_, ?_, fun k hk => ?_⟩ (by dsimp only; omega) _ ?_
          · dsimp only; rw [hfs]; simp only [Bool.not_false, if_true, List.length_append, List.length_singleton]; rw [take_setR X _ (by omega), g4]
          · dsimp only; rw [hfs]; simp; omega
          · dsimp only at hk ⊢
            rw [getD_setR _ _ _ _ (by omega), if_neg (by omega)]; exact g6 k (by omega)
          · simp -implicitDefEqProofs (maxSteps := 1000000) (disch := (first | omega | (simp only [go_sem] <;> omega) | fail)) only [go_sem, ints, bools, mat]
            rw [hfs, ← map_setR]; simp [ints]
      · have : j = ds.length := by omega
        subst this
        have hfl : (ds.filter fun x => !p x).length ≤ ds.length := List.length_filter_le _ _
        rw [List.take_length] at g4 g5
        repeat' (first | simp -implicitDefEqProofs (maxSteps := 1000000) (disch := (first | omega | (simp only [go_sem] <;> omega) | fail)) only [go_sem, ints, bools, mat, clrM, leaS_part] | ((first | refine goIf_b (fun h => ?_) (fun h => ?_) | refine goG_b (fun h => ?_) (fun h => ?_) | refine goTG_b (fun h => ?_) (fun h => ?_) | refine goOG_b (fun h => ?_) (fun h => ?_)) <;> ((try simp only [Bool.not_eq_true', Bool.not_eq_false'] at h); (try simp only [h]); (try simp only [decide_eq_true_eq, decide_eq_false_iff_not, bne_iff_ne, bne_eq_false_iff_eq, beq_iff_eq, beq_eq_false_iff_ne, ne_eq, Int.not_lt, Int.not_le, Bool.and_eq_true, Bool.and_eq_false_iff, Bool.or_eq_true, Bool.or_eq_false_iff] at h)) <;> (try (exfalso; omega))))
        rw [List.take_append_of_le_length (by simp; omega), List.take_append_of_le_length (by simp; omega)]
        rw [List.take_take, Nat.min_self, ← List.map_take, g4]
def nxR (l : List Int) (j : Nat) : List (List Int) := (List.range j).map fun (d : Nat) => l ++ [(d : Int)]
theorem nxR_succ (l : List Int) (j : Nat) : nxR l (j + 1) = nxR l j ++ [l ++ [(j : Int)]] := by simp [nxR, List.range_succ]
@[go_sem] theorem nxR_len (l : List Int) (j : Nat) : (nxR l j).length = j := by simp [nxR]
def nxT (q : Nat) (ls : List (List Int)) (i : Nat) : List (List Int) := (ls.take i).flatMap fun l => nxR l q
theorem nxT_succ (q : Nat) (ls : List (List Int)) {i : Nat} (h : i < ls.length) : nxT q ls (i + 1) = nxT q ls i ++ nxR (ls.getD i []) q := by
  rw [nxT, List.take_add_one, List.flatMap_append]
  simp [h, nxT]
theorem nxT_len (q : Nat) (ls : List (List Int)) : ∀ i, i ≤ ls.length → (nxT q ls i).length = i * q
  | 0, _ => by simp [nxT]
  | i + 1, h => by rw [nxT_succ q ls (by omega), List.length_append, nxT_len q ls i (by omega), nxR_len, Nat.add_mul, Nat.one_mul]
def rowsN (q : Nat) : Nat → List (List Int)
  | 0 => [[]]
  | k + 1 => nxT q (rowsN q k) (rowsN q k).length
theorem rowsN_len {q : Nat} (hq : q = 2 ∨ q = 3) {k : Nat} (hk : k ≤ 3) : 1 ≤ (rowsN q k).length ∧ (rowsN q k).length ≤ 27 := by
  rcases hq with rfl | rfl
  · rcases k with _ | _ | _ | _ | k
    iterate 4 decide
    omega
  · rcases k with _ | _ | _ | _ | k
    iterate 4 decide
    omega
theorem rowsN_row {q : Nat} (hq : q = 2 ∨ q = 3) {k : Nat} (hk : k ≤ 3) : ∀ x, x ∈ rowsN q k → x.length ≤ 3 := by
  rcases hq with rfl | rfl
  · rcases k with _ | _ | _ | _ | k
    iterate 4 decide
    omega
  · rcases k with _ | _ | _ | _ | k
    iterate 4 decide
    omega
def badR (l : List Int) : Bool := match l.findIdx? fun d => d != 0 with | some j => l.getD j 0 != 1 | none => true
def colN (q m : Nat) : List (List Int) := (rowsN q m).filter fun x => !badR x
theorem colN_len {q : Nat} (hq : q = 2 ∨ q = 3) {m : Nat} (hm : m ≤ 3) : (colN q m).length ≤ 27 := by
  have := rowsN_len hq hm
  have := List.length_filter_le (fun x => !badR x) (rowsN q m)
  unfold colN; omega
theorem d_impl_columnsFor_1_1 (d : Int) : Den PA f_impl_columnsFor_1_1 [.d (di d)] [.any] (.d (db (d != 0))) := by
  refine den_go [] l_impl_columnsFor_1_1 ?_
  repeat' (first | simp -implicitDefEqProofs (maxSteps := 1000000) (disch := (first | omega | (simp only [go_sem] <;> omega) | fail)) only [go_sem, ints, bools, mat, c_impl_columnsFor_1_1] | ((first | refine goIf_b (fun h => ?_) (fun h => ?_) | refine goG_b (fun h => ?_) (fun h => ?_) | refine goTG_b (fun h => ?_) (fun h => ?_) | refine goOG_b (fun h => ?_) (fun h => ?_)) <;> ((try simp only [Bool.not_eq_true', Bool.not_eq_false'] at h); (try simp only [h]); (try simp only [decide_eq_true_eq, decide_eq_false_iff_not, bne_iff_ne, bne_eq_false_iff_eq, beq_iff_eq, beq_eq_false_iff_ne, ne_eq, Int.not_lt, Int.not_le, Bool.and_eq_true, Bool.and_eq_false_iff, Bool.or_eq_true, Bool.or_eq_false_iff] at h))))
theorem d_impl_columnsFor_1 (x : List Int) (hx : x.length ≤ 3) : Den PA f_impl_columnsFor_1 [.d (ints x)] [.any] (.d (db (badR x))) := by
  refine den_go [] l_impl_columnsFor_1 ?_
  repeat' (first | simp -implicitDefEqProofs (maxSteps := 1000000) (disch := (first | omega | (simp only [go_sem] <;> omega) | fail)) only [go_sem, ints, bools, mat, c_impl_columnsFor_1] | ((first | refine goIf_b (fun h => ?_) (fun h => ?_) | refine goG_b (fun h => ?_) (fun h => ?_) | refine goTG_b (fun h => ?_) (fun h => ?_) | refine goOG_b (fun h => ?_) (fun h => ?_)) <;> ((try simp only [Bool.not_eq_true', Bool.not_eq_false'] at h); (try simp only [h]); (try simp only [decide_eq_true_eq, decide_eq_false_iff_not, bne_iff_ne, bne_eq_false_iff_eq, beq_iff_eq, beq_eq_false_iff_ne, ne_eq, Int.not_lt, Int.not_le, Bool.and_eq_true, Bool.and_eq_false_iff, Bool.or_eq_true, Bool.or_eq_false_iff] at h))))
  first | refine goC_call [.r, .g (fn1 fun d => d != 0)] (d_slices_IndexFunc x (fun d => d != 0) _ (fn1_mk _) (by omega)) ?_ | refine goOC_call [.r, .g (fn1 fun d => d != 0)] (d_slices_IndexFunc x (fun d => d != 0) _ (fn1_mk _) (by omega)) ?_
  repeat' (first | simp -implicitDefEqProofs (maxSteps := 1000000) (disch := (first | omega | (simp only [go_sem] <;> omega) | fail)) only [go_sem, ints, bools, mat] | ((first | refine goIf_b (fun h => ?_) (fun h => ?_) | refine goG_b (fun h => ?_) (fun h => ?_) | refine goTG_b (fun h => ?_) (fun h => ?_) | refine goOG_b (fun h => ?_) (fun h => ?_)) <;> ((try simp only [Bool.not_eq_true', Bool.not_eq_false'] at h); (try simp only [h]); (try simp only [decide_eq_true_eq, decide_eq_false_iff_not, bne_iff_ne, bne_eq_false_iff_eq, beq_iff_eq, beq_eq_false_iff_ne, ne_eq, Int.not_lt, Int.not_le, Bool.and_eq_true, Bool.and_eq_false_iff, Bool.or_eq_true, Bool.or_eq_false_iff] at h))))
  refine chk_intro (fnOK_mk (d_impl_columnsFor_1_1 0).1 [] rfl fun ds r hg => ?_) ?_
  · obtain ⟨n, rfl, rfl⟩ := hg
    exact ⟨_, d_impl_columnsFor_1_1 n⟩
  cases hf : x.findIdx? fun d => d != 0 with
  | none =>
    repeat' (first | simp -implicitDefEqProofs (maxSteps := 1000000) (disch := (first | omega | (simp only [go_sem] <;> omega) | fail)) only [go_sem, ints, bools, mat] | ((first | refine goIf_b (fun h => ?_) (fun h => ?_) | refine goG_b (fun h => ?_) (fun h => ?_) | refine goTG_b (fun h => ?_) (fun h => ?_) | refine goOG_b (fun h => ?_) (fun h => ?_)) <;> ((try simp only [Bool.not_eq_true', Bool.not_eq_false'] at h); (try simp only [h]); (try simp only [decide_eq_true_eq, decide_eq_false_iff_not, bne_iff_ne, bne_eq_false_iff_eq, beq_iff_eq, beq_eq_false_iff_ne, ne_eq, Int.not_lt, Int.not_le, Bool.and_eq_true, Bool.and_eq_false_iff, Bool.or_eq_true, Bool.or_eq_false_iff] at h)) <;> (try (exfalso; omega))))
    simp [badR, hf]
  | some i =>
    obtain ⟨hi, h1, h2⟩ := List.findIdx?_eq_some_iff_getElem.1 hf
    repeat' (first | simp -implicitDefEqProofs (maxSteps := 1000000) (disch := (first | omega | (simp only [go_sem] <;> omega) | fail)) only [go_sem, ints, bools, mat] | ((first | refine goIf_b (fun h => ?_) (fun h => ?_) | refine goG_b (fun h => ?_) (fun h => ?_) | refine goTG_b (fun h => ?_) (fun h => ?_) | refine goOG_b (fun h => ?_) (fun h => ?_)) <;> ((try simp only [Bool.not_eq_true', Bool.not_eq_false'] at h); (try simp only [h]); (try simp only [decide_eq_true_eq, decide_eq_false_iff_not, bne_iff_ne, bne_eq_false_iff_eq, beq_iff_eq, beq_eq_false_iff_ne, ne_eq, Int.not_lt, Int.not_le, Bool.and_eq_true, Bool.and_eq_false_iff, Bool.or_eq_true, Bool.or_eq_false_iff] at h)) <;> (try (exfalso; omega))))
    simp [badR, hf]
/-- A function value that tells p of lists. -/
def fnL (q : List Int → Prop) (p : List Int → Bool) : List D → Value → Prop := fun ds r => ∃ n, q n ∧ ds = [ints n] ∧ r = .bool (p n)
theorem d_impl_columnsFor (q m : Nat) (hq : q = 2 ∨ q = 3) (hm : m ≤ 3) : Den PA f_impl_columnsFor [.d (di q), .d (di m)] [.any, .any] (.own 1 ((colN q m).map ints)) := by
  refine den_go [] l_impl_columnsFor ?_
  repeat' (first | simp -implicitDefEqProofs (maxSteps := 1000000) (disch := (first | omega | (simp only [go_sem] <;> omega) | fail)) only [go_sem, ints, bools, mat, c_impl_columnsFor] | ((first | refine goIf_b (fun h => ?_) (fun h => ?_) | refine goG_b (fun h => ?_) (fun h => ?_) | refine goTG_b (fun h => ?_) (fun h => ?_) | refine goOG_b (fun h => ?_) (fun h => ?_)) <;> ((try simp only [Bool.not_eq_true', Bool.not_eq_false'] at h); (try simp only [h]); (try simp only [decide_eq_true_eq, decide_eq_false_iff_not, bne_iff_ne, bne_eq_false_iff_eq, beq_iff_eq, beq_eq_false_iff_ne, ne_eq, Int.not_lt, Int.not_le, Bool.and_eq_true, Bool.and_eq_false_iff, Bool.or_eq_true, Bool.or_eq_false_iff] at h))))
  refine go_loop (fun (k : Nat) => ⟨[(0, .d (di q)), (5, .sl 0 0 (rowsN q k).length 1), (12, .d (di m)), (13, .d (di k))], [some (.dat 1 ((rowsN q k).map ints))]⟩) (fun k => k ≤ m) (fun k => m - k) 0 ?_ ?_ ?_
  · (simp -implicitDefEqProofs (maxSteps := 1000000) (disch := (first | omega | (simp only [go_sem] <;> omega) | fail)) only [go_sem, ints, bools, mat] <;> rfl)
  · exact Nat.zero_le _
  · rintro k hk J hJ
    have hrl := rowsN_len hq (k := k) (by omega)
    have hrr := rowsN_row hq (k := k) (by omega)
    repeat' (first | simp -implicitDefEqProofs (maxSteps := 1000000) (disch := (first | omega | (simp only [go_sem] <;> omega) | fail)) only [go_sem, ints, bools, mat] | ((first | refine goIf_b (fun h => ?_) (fun h => ?_) | refine goG_b (fun h => ?_) (fun h => ?_) | refine goTG_b (fun h => ?_) (fun h => ?_) | refine goOG_b (fun h => ?_) (fun h => ?_)) <;> ((try simp only [Bool.not_eq_true', Bool.not_eq_false'] at h); (try simp only [h]); (try simp only [decide_eq_true_eq, decide_eq_false_iff_not, bne_iff_ne, bne_eq_false_iff_eq, beq_iff_eq, beq_eq_false_iff_ne, ne_eq, Int.not_lt, Int.not_le, Bool.and_eq_true, Bool.and_eq_false_iff, Bool.or_eq_true, Bool.or_eq_false_iff] at h)) <;> (try (exfalso; omega))))
    · refine go_loop (fun (i : Nat) => ⟨[(0, .d (di q)), (6, .sl 0 0 (nxT q (rowsN q k) i).length 1), (12, .d (di m)), (13, .d (di k)), (16, .sl 1 0 (rowsN q k).length 1), (17, .d (di (rowsN q k).length)), (18, .d (di i))], [some (.dat 1 ((nxT q (rowsN q k) i).map ints)), some (.dat 1 ((rowsN q k).map ints))]⟩) (fun i => i ≤ (rowsN q k).length) (fun i => (rowsN q k).length - i) 0 ?_ ?_ ?_
      · (simp -implicitDefEqProofs (maxSteps := 1000000) (disch := (first | omega | (simp only [go_sem] <;> omega) | fail)) only [go_sem, ints, bools, mat] <;> rfl)
      · exact Nat.zero_le _
      · rintro i hi J2 hJ2
        have htl := nxT_len q (rowsN q k) i hi
        have htb : i * q ≤ 27 * 3 := Nat.mul_le_mul (by omega) (by omega)
        repeat' (first | simp -implicitDefEqProofs (maxSteps := 1000000) (disch := (first | omega | (simp only [go_sem] <;> omega) | fail)) only [go_sem, ints, bools, mat] | ((first | refine goIf_b (fun h => ?_) (fun h => ?_) | refine goG_b (fun h => ?_) (fun h => ?_) | refine goTG_b (fun h => ?_) (fun h => ?_) | refine goOG_b (fun h => ?_) (fun h => ?_)) <;> ((try simp only [Bool.not_eq_true', Bool.not_eq_false'] at h); (try simp only [h]); (try simp only [decide_eq_true_eq, decide_eq_false_iff_not, bne_iff_ne, bne_eq_false_iff_eq, beq_iff_eq, beq_eq_false_iff_ne, ne_eq, Int.not_lt, Int.not_le, Bool.and_eq_true, Bool.and_eq_false_iff, Bool.or_eq_true, Bool.or_eq_false_iff] at h)) <;> (try (exfalso; omega))))
        · have hi' : i < (rowsN q k).length := by omega
          have hgl := hrr _ (show (rowsN q k).getD i [] ∈ rowsN q k by simp [hi'])
          refine go_loop (fun (j : Nat) => ⟨[(0, .d (di q)), (6, .sl 0 0 ((nxT q (rowsN q k) i).length + j) 1), (8, .d (ints ((rowsN q k).getD i []))), (12, .d (di m)), (13, .d (di k)), (16, .sl 1 0 (rowsN q k).length 1), (17, .d (di (rowsN q k).length)), (18, .d (di i)), (22, .d (di q)), (23, .d (di j))], [some (.dat 1 ((nxT q (rowsN q k) i ++ nxR ((rowsN q k).getD i []) j).map ints)), some (.dat 1 ((rowsN q k).map ints))]⟩) (fun j => j ≤ q) (fun j => q - j) 0 ?_ ?_ ?_
          · simp -implicitDefEqProofs (maxSteps := 1000000) (disch := (first | omega | (simp only [go_sem] <;> omega) | fail)) only [go_sem, ints, bools, mat]
            simp [nxR, ints]
          · exact Nat.zero_le _
          · rintro j hj J3 hJ3
            repeat' (first | simp -implicitDefEqProofs (maxSteps := 1000000) (disch := (first | omega | (simp only [go_sem] <;> omega) | fail)) only [go_sem, ints, bools, mat] | ((first | refine goIf_b (fun h => ?_) (fun h => ?_) | refine goG_b (fun h => ?_) (fun h => ?_) | refine goTG_b (fun h => ?_) (fun h => ?_) | refine goOG_b (fun h => ?_) (fun h => ?_)) <;> ((try simp only [Bool.not_eq_true', Bool.not_eq_false'] at h); (try simp only [h]); (try simp only [decide_eq_true_eq, decide_eq_false_iff_not, bne_iff_ne, bne_eq_false_iff_eq, beq_iff_eq, beq_eq_false_iff_ne, ne_eq, Int.not_lt, Int.not_le, Bool.and_eq_true, Bool.and_eq_false_iff, Bool.or_eq_true, Bool.or_eq_false_iff] at h)) <;> (try (exfalso; omega))))
            · first | refine goC_call [.r] (d_slices_Clone_ints ((rowsN q k).getD i []) (by omega)) ?_ | refine goOC_call [.r] (d_slices_Clone_ints ((rowsN q k).getD i []) (by omega)) ?_
              repeat' (first | simp -implicitDefEqProofs (maxSteps := 1000000) (disch := (first | omega | (simp only [go_sem] <;> omega) | fail)) only [go_sem, ints, bools, mat] | ((first | refine goIf_b (fun h => ?_) (fun h => ?_) | refine goG_b (fun h => ?_) (fun h => ?_) | refine goTG_b (fun h => ?_) (fun h => ?_) | refine goOG_b (fun h => ?_) (fun h => ?_)) <;> ((try simp only [Bool.not_eq_true', Bool.not_eq_false'] at h); (try simp only [h]); (try simp only [decide_eq_true_eq, decide_eq_false_iff_not, bne_iff_ne, bne_eq_false_iff_eq, beq_iff_eq, beq_eq_false_iff_ne, ne_eq, Int.not_lt, Int.not_le, Bool.and_eq_true, Bool.and_eq_false_iff, Bool.or_eq_true, Bool.or_eq_false_iff] at h)) <;> (try (exfalso; omega))))
              refine hJ3 (j + 1) (by omega) (by omega) _ ?_
              simp -implicitDefEqProofs (maxSteps := 1000000) (disch := (first | omega | (simp only [go_sem] <;> omega) | fail)) only [go_sem, ints, bools, mat]
              rw [nxR_succ]
              simp [ints, Nat.add_assoc]
            · have : j = q := by omega
              subst this
              repeat' (first | simp -implicitDefEqProofs (maxSteps := 1000000) (disch := (first | omega | (simp only [go_sem] <;> omega) | fail)) only [go_sem, ints, bools, mat] | ((first | refine goIf_b (fun h => ?_) (fun h => ?_) | refine goG_b (fun h => ?_) (fun h => ?_) | refine goTG_b (fun h => ?_) (fun h => ?_) | refine goOG_b (fun h => ?_) (fun h => ?_)) <;> ((try simp only [Bool.not_eq_true', Bool.not_eq_false'] at h); (try simp only [h]); (try simp only [decide_eq_true_eq, decide_eq_false_iff_not, bne_iff_ne, bne_eq_false_iff_eq, beq_iff_eq, beq_eq_false_iff_ne, ne_eq, Int.not_lt, Int.not_le, Bool.and_eq_true, Bool.and_eq_false_iff, Bool.or_eq_true, Bool.or_eq_false_iff] at h)) <;> (try (exfalso; omega))))
              refine hJ2 (i + 1) (by omega) (by omega) _ ?_
              simp -implicitDefEqProofs (maxSteps := 1000000) (disch := (first | omega | (simp only [go_sem] <;> omega) | fail)) only [go_sem, ints, bools, mat]
              rw [nxT_succ j (rowsN j k) hi', List.length_append, nxR_len]; rfl
        · have : i = (rowsN q k).length := by omega
          subst this
          repeat' (first | simp -implicitDefEqProofs (maxSteps := 1000000) (disch := (first | omega | (simp only [go_sem] <;> omega) | fail)) only [go_sem, ints, bools, mat] | ((first | refine goIf_b (fun h => ?_) (fun h => ?_) | refine goG_b (fun h => ?_) (fun h => ?_) | refine goTG_b (fun h => ?_) (fun h => ?_) | refine goOG_b (fun h => ?_) (fun h => ?_)) <;> ((try simp only [Bool.not_eq_true', Bool.not_eq_false'] at h); (try simp only [h]); (try simp only [decide_eq_true_eq, decide_eq_false_iff_not, bne_iff_ne, bne_eq_false_iff_eq, beq_iff_eq, beq_eq_false_iff_ne, ne_eq, Int.not_lt, Int.not_le, Bool.and_eq_true, Bool.and_eq_false_iff, Bool.or_eq_true, Bool.or_eq_false_iff] at h)) <;> (try (exfalso; omega))))
          refine hJ (k + 1) (by omega) (by omega) _ ?_
          simp -implicitDefEqProofs (maxSteps := 1000000) (disch := (first | omega | (simp only [go_sem] <;> omega) | fail)) only [go_sem, ints, bools, mat]
          rfl
    · have : k = m := by omega
      subst this
      first | refine goC_call [.o, .g (fnL (fun x => x.length ≤ 3) badR)] (d_slices_DeleteFunc_rows (rowsN q k) badR (fnL (fun x => x.length ≤ 3) badR) (fun i hi => ⟨_, hrr _ (by simp [hi]), rfl, rfl⟩) (by omega)) ?_ | refine goOC_call [.o, .g (fnL (fun x => x.length ≤ 3) badR)] (d_slices_DeleteFunc_rows (rowsN q k) badR (fnL (fun x => x.length ≤ 3) badR) (fun i hi => ⟨_, hrr _ (by simp [hi]), rfl, rfl⟩) (by omega)) ?_
      repeat' (first | simp -implicitDefEqProofs (maxSteps := 1000000) (disch := (first | omega | (simp only [go_sem] <;> omega) | fail)) only [go_sem, ints, bools, mat] | ((first | refine goIf_b (fun h => ?_) (fun h => ?_) | refine goG_b (fun h => ?_) (fun h => ?_) | refine goTG_b (fun h => ?_) (fun h => ?_) | refine goOG_b (fun h => ?_) (fun h => ?_)) <;> ((try simp only [Bool.not_eq_true', Bool.not_eq_false'] at h); (try simp only [h]); (try simp only [decide_eq_true_eq, decide_eq_false_iff_not, bne_iff_ne, bne_eq_false_iff_eq, beq_iff_eq, beq_eq_false_iff_ne, ne_eq, Int.not_lt, Int.not_le, Bool.and_eq_true, Bool.and_eq_false_iff, Bool.or_eq_true, Bool.or_eq_false_iff] at h)) <;> (try (exfalso; omega))))
      refine chk_intro (fnOK_mk (d_impl_columnsFor_1 [] (by simp)).1 [] rfl fun ds r hg => ?_) ?_
      · obtain ⟨n, hn, rfl, rfl⟩ := hg
        exact ⟨_, d_impl_columnsFor_1 n hn⟩
      repeat' (first | simp -implicitDefEqProofs (maxSteps := 1000000) (disch := (first | omega | (simp only [go_sem] <;> omega) | fail)) only [go_sem, ints, bools, mat] | ((first | refine goIf_b (fun h => ?_) (fun h => ?_) | refine goG_b (fun h => ?_) (fun h => ?_) | refine goTG_b (fun h => ?_) (fun h => ?_) | refine goOG_b (fun h => ?_) (fun h => ?_)) <;> ((try simp only [Bool.not_eq_true', Bool.not_eq_false'] at h); (try simp only [h]); (try simp only [decide_eq_true_eq, decide_eq_false_iff_not, bne_iff_ne, bne_eq_false_iff_eq, beq_iff_eq, beq_eq_false_iff_ne, ne_eq, Int.not_lt, Int.not_le, Bool.and_eq_true, Bool.and_eq_false_iff, Bool.or_eq_true, Bool.or_eq_false_iff] at h)) <;> (try (exfalso; omega))))
      rfl
def hsN (cs : List (List Int)) (a : List Int) (k : Nat) : Nat → Int
  | 0 => 0
  | i + 1 => hsN cs a k i + a.getD i 0 * (cs.getD i []).getD k 0
def in3 (cs : List (List Int)) (m : Nat) : Prop := ∀ i, i < cs.length → (cs.getD i []).length = m ∧ ∀ k, 0 ≤ (cs.getD i []).getD k 0 ∧ (cs.getD i []).getD k 0 < 4
theorem hsN_bnd {cs : List (List Int)} {a : List Int} {m : Nat} (ha : in4 a) (h : in3 cs m) (k : Nat) : ∀ i : Nat, i ≤ cs.length → 0 ≤ hsN cs a k i ∧ hsN cs a k i ≤ 9 * i
  | 0, _ => by simp [hsN]
  | i + 1, hi => by
    have h1 := hsN_bnd ha h k i (by omega)
    have h2 := ha i
    have h3 := (h i (by omega)).2 k
    have h4 : 0 ≤ a.getD i 0 * (cs.getD i []).getD k 0 := Int.mul_nonneg h2.1 h3.1
    have h5 : a.getD i 0 * (cs.getD i []).getD k 0 ≤ 3 * 3 := Int.mul_le_mul (by omega) (by omega) h3.1 (by omega)
    rw [hsN]; omega
def hamB (q : Int) (m : Nat) (cs : List (List Int)) (a : List Int) : Bool := (List.range m).all fun k => hsN cs a k cs.length % q == 0
theorem hamB_ok (q : Int) (m : Nat) (cs : List (List Int)) (a : List Int) : hamB q m cs a = true ↔ ∀ k, k < m → hsN cs a k cs.length % q = 0 := by
  simp only [hamB, List.all_eq_true, List.mem_range, beq_iff_eq]
theorem d_impl_HammingCode_1 (q : Int) (m : Nat) (cs : List (List Int)) (a : List Int) (hq : 2 ≤ q ∧ q ≤ 3) (hm : m ≤ 3) (hc : cs.length ≤ 8) (h8 : a.length ≤ 8) (hal : cs.length ≤ a.length) (ha : in4 a) (hcs : in3 cs m) :
    Den PA f_impl_HammingCode_1 [.d (dig a), .box [di m], .box [.lst 1 (cs.map ints)], .box [di q]] [.any, .any, .any, .any] (.d (db (hamB q m cs a))) := by
  have e := hamB_ok q m cs a
  refine den_go [] l_impl_HammingCode_1 ?_
  repeat' (first | simp -implicitDefEqProofs (maxSteps := 1000000) (disch := (first | omega | (simp only [go_sem] <;> omega) | fail)) only [go_sem, ints, bools, mat, c_impl_HammingCode_1] | ((first | refine goIf_b (fun h => ?_) (fun h => ?_) | refine goG_b (fun h => ?_) (fun h => ?_) | refine goTG_b (fun h => ?_) (fun h => ?_) | refine goOG_b (fun h => ?_) (fun h => ?_)) <;> ((try simp only [Bool.not_eq_true', Bool.not_eq_false'] at h); (try simp only [h]); (try simp only [decide_eq_true_eq, decide_eq_false_iff_not, bne_iff_ne, bne_eq_false_iff_eq, beq_iff_eq, beq_eq_false_iff_ne, ne_eq, Int.not_lt, Int.not_le, Bool.and_eq_true, Bool.and_eq_false_iff, Bool.or_eq_true, Bool.or_eq_false_iff] at h))))
  refine go_loop (fun (k : Nat) => ⟨[(2, .iref [.lst 1 (cs.map ints)] 0), (3, .iref [di q] 0), (4, .ref 0 0), (10, .d (di m)), (11, .d (di k))], [some (.var ((pad8 a).map dy))]⟩) (fun k => k ≤ m ∧ ∀ i, i < k → hsN cs a i cs.length % q = 0) (fun k => m - k) 0 ?_ ?_ ?_
  · (simp -implicitDefEqProofs (maxSteps := 1000000) (disch := (first | omega | (simp only [go_sem] <;> omega) | fail)) only [go_sem, ints, bools, mat] <;> rfl)
  · exact ⟨Nat.zero_le _, fun i hi => by omega⟩
  · rintro k ⟨hk, hz⟩ J hJ
    repeat' (first | simp -implicitDefEqProofs (maxSteps := 1000000) (disch := (first | omega | (simp only [go_sem] <;> omega) | fail)) only [go_sem, ints, bools, mat] | ((first | refine goIf_b (fun h => ?_) (fun h => ?_) | refine goG_b (fun h => ?_) (fun h => ?_) | refine goTG_b (fun h => ?_) (fun h => ?_) | refine goOG_b (fun h => ?_) (fun h => ?_)) <;> ((try simp only [Bool.not_eq_true', Bool.not_eq_false'] at h); (try simp only [h]); (try simp only [decide_eq_true_eq, decide_eq_false_iff_not, bne_iff_ne, bne_eq_false_iff_eq, beq_iff_eq, beq_eq_false_iff_ne, ne_eq, Int.not_lt, Int.not_le, Bool.and_eq_true, Bool.and_eq_false_iff, Bool.or_eq_true, Bool.or_eq_false_iff] at h)) <;> (try (exfalso; omega))))
    · refine go_loop (fun (i : Nat) => ⟨[(2, .iref [.lst 1 (cs.map ints)] 0), (3, .iref [di q] 0), (4, .ref 0 0), (6, .d (di k)), (7, .d (di (hsN cs a k i))), (10, .d (di m)), (11, .d (di k)), (14, .d (.lst 1 (cs.map ints))), (15, .d (di cs.length)), (16, .d (di i))], [some (.var ((pad8 a).map dy))]⟩) (fun i => i ≤ cs.length) (fun i => cs.length - i) 0 ?_ ?_ ?_
      · (simp -implicitDefEqProofs (maxSteps := 1000000) (disch := (first | omega | (simp only [go_sem] <;> omega) | fail)) only [go_sem, ints, bools, mat] <;> rfl)
      · exact Nat.zero_le _
      · rintro i hi J2 hJ2
        have hpa := pad8_len a
        have hp := pad8_get h8 i
        have hb := hsN_bnd ha hcs k i hi
        have hb1 := fun hh : i < cs.length => hsN_bnd ha hcs k (i + 1) hh
        have hai := in4_pad h8 ha i
        have hci := fun hh : i < cs.length => (hcs i hh).1
        have hck := fun hh : i < cs.length => (hcs i hh).2 k
        have hmu : i < cs.length → 0 ≤ (pad8 a).getD i 0 * (cs.getD i []).getD k 0 ∧ (pad8 a).getD i 0 * (cs.getD i []).getD k 0 ≤ 9 := fun hh => by
          have h5 : (pad8 a).getD i 0 * (cs.getD i []).getD k 0 ≤ 3 * 3 := Int.mul_le_mul (by omega) (by have := hck hh; omega) (hck hh).1 (by omega)
          exact ⟨Int.mul_nonneg hai.1 (hck hh).1, by omega⟩
        by_cases hil : i < cs.length
        · repeat' (first | simp -implicitDefEqProofs (maxSteps := 1000000) (disch := (first | omega | (simp only [go_sem] <;> omega) | fail)) only [go_sem, ints, bools, mat] | ((first | refine goIf_b (fun h => ?_) (fun h => ?_) | refine goG_b (fun h => ?_) (fun h => ?_) | refine goTG_b (fun h => ?_) (fun h => ?_) | refine goOG_b (fun h => ?_) (fun h => ?_)) <;> ((try simp only [Bool.not_eq_true', Bool.not_eq_false'] at h); (try simp only [h]); (try simp only [decide_eq_true_eq, decide_eq_false_iff_not, bne_iff_ne, bne_eq_false_iff_eq, beq_iff_eq, beq_eq_false_iff_ne, ne_eq, Int.not_lt, Int.not_le, Bool.and_eq_true, Bool.and_eq_false_iff, Bool.or_eq_true, Bool.or_eq_false_iff] at h)) <;> (try (exfalso; omega))))
          refine hJ2 (i + 1) (by omega) (by omega) _ ?_
          simp -implicitDefEqProofs (maxSteps := 1000000) (disch := (first | omega | (simp only [go_sem] <;> omega) | fail)) only [go_sem, ints, bools, mat]
          rw [hsN, ← hp]; rfl
        · have : i = cs.length := by omega
          subst this
          have hmb := mod_bnd (x := hsN cs a k cs.length) (show 2 ≤ q ∧ q ≤ 4 by omega)
          repeat' (first | simp -implicitDefEqProofs (maxSteps := 1000000) (disch := (first | omega | (simp only [go_sem] <;> omega) | fail)) only [go_sem, ints, bools, mat] | ((first | refine goIf_b (fun h => ?_) (fun h => ?_) | refine goG_b (fun h => ?_) (fun h => ?_) | refine goTG_b (fun h => ?_) (fun h => ?_) | refine goOG_b (fun h => ?_) (fun h => ?_)) <;> ((try simp only [Bool.not_eq_true', Bool.not_eq_false'] at h); (try simp only [h]); (try simp only [decide_eq_true_eq, decide_eq_false_iff_not, bne_iff_ne, bne_eq_false_iff_eq, beq_iff_eq, beq_eq_false_iff_ne, ne_eq, Int.not_lt, Int.not_le, Bool.and_eq_true, Bool.and_eq_false_iff, Bool.or_eq_true, Bool.or_eq_false_iff] at h)) <;> (try (exfalso; omega))))
          · exact dbF fun h' => by have := e.1 h' k (by omega); omega
          · have h2 := all_ext hz h
            refine hJ (k + 1) ⟨by omega, h2⟩ (by omega) _ ?_
            (simp -implicitDefEqProofs (maxSteps := 1000000) (disch := (first | omega | (simp only [go_sem] <;> omega) | fail)) only [go_sem, ints, bools, mat] <;> rfl)
    · have : k = m := by omega
      subst this
      repeat' (first | simp -implicitDefEqProofs (maxSteps := 1000000) (disch := (first | omega | (simp only [go_sem] <;> omega) | fail)) only [go_sem, ints, bools, mat] | ((first | refine goIf_b (fun h => ?_) (fun h => ?_) | refine goG_b (fun h => ?_) (fun h => ?_) | refine goTG_b (fun h => ?_) (fun h => ?_) | refine goOG_b (fun h => ?_) (fun h => ?_)) <;> ((try simp only [Bool.not_eq_true', Bool.not_eq_false'] at h); (try simp only [h]); (try simp only [decide_eq_true_eq, decide_eq_false_iff_not, bne_iff_ne, bne_eq_false_iff_eq, beq_iff_eq, beq_eq_false_iff_ne, ne_eq, Int.not_lt, Int.not_le, Bool.and_eq_true, Bool.and_eq_false_iff, Bool.or_eq_true, Bool.or_eq_false_iff] at h)) <;> (try (exfalso; omega))))
      exact dbT (e.2 hz)
def hcM (q m low : Int) : Int := if 2 ≤ q ∧ q ≤ 3 ∧ low ≤ m ∧ m ≤ 3 then (if 8 < (colN q.toNat m.toNat).length then 3 else 0) else 2
theorem d_impl_hammingCode (q m low : Int) (hlo : 0 ≤ low) : Den PA f_impl_hammingCode [.d (di q), .d (di m), .d (di low)] [.any, .any, .any] (.d (di (hcM q m low))) := by
  refine den_go [] l_impl_hammingCode ?_
  by_cases hr : 2 ≤ q ∧ q ≤ 3 ∧ low ≤ m ∧ m ≤ 3
  · have e : hcM q m low = if 8 < (colN q.toNat m.toNat).length then 3 else 0 := if_pos hr
    have hq : q.toNat = 2 ∨ q.toNat = 3 := by omega
    have hcl := colN_len hq (show m.toNat ≤ 3 by omega)
    have hcf := d_impl_columnsFor q.toNat m.toNat hq (by omega)
    rw [Int.toNat_of_nonneg (show 0 ≤ q by omega), Int.toNat_of_nonneg (show 0 ≤ m by omega)] at hcf
    rw [e]
    repeat' (first | simp -implicitDefEqProofs (maxSteps := 1000000) (disch := (first | omega | (simp only [go_sem] <;> omega) | fail)) only [go_sem, ints, bools, mat, c_impl_hammingCode] | ((first | refine goIf_b (fun h => ?_) (fun h => ?_) | refine goG_b (fun h => ?_) (fun h => ?_) | refine goTG_b (fun h => ?_) (fun h => ?_) | refine goOG_b (fun h => ?_) (fun h => ?_)) <;> ((try simp only [Bool.not_eq_true', Bool.not_eq_false'] at h); (try simp only [h]); (try simp only [decide_eq_true_eq, decide_eq_false_iff_not, bne_iff_ne, bne_eq_false_iff_eq, beq_iff_eq, beq_eq_false_iff_ne, ne_eq, Int.not_lt, Int.not_le, Bool.and_eq_true, Bool.and_eq_false_iff, Bool.or_eq_true, Bool.or_eq_false_iff] at h)) <;> (try (exfalso; omega))))
    first | refine goC_call [.r, .r] (hcf) ?_ | refine goOC_call [.r, .r] (hcf) ?_
    repeat' (first | simp -implicitDefEqProofs (maxSteps := 1000000) (disch := (first | omega | (simp only [go_sem] <;> omega) | fail)) only [go_sem, ints, bools, mat] | ((first | refine goIf_b (fun h => ?_) (fun h => ?_) | refine goG_b (fun h => ?_) (fun h => ?_) | refine goTG_b (fun h => ?_) (fun h => ?_) | refine goOG_b (fun h => ?_) (fun h => ?_)) <;> ((try simp only [Bool.not_eq_true', Bool.not_eq_false'] at h); (try simp only [h]); (try simp only [decide_eq_true_eq, decide_eq_false_iff_not, bne_iff_ne, bne_eq_false_iff_eq, beq_iff_eq, beq_eq_false_iff_ne, ne_eq, Int.not_lt, Int.not_le, Bool.and_eq_true, Bool.and_eq_false_iff, Bool.or_eq_true, Bool.or_eq_false_iff] at h)) <;> (try (exfalso; omega))))
    · rw [if_pos (by omega)]
    · rw [if_neg (by omega)]
  · have e : hcM q m low = 2 := if_neg hr
    rw [e]
    repeat' (first | simp -implicitDefEqProofs (maxSteps := 1000000) (disch := (first | omega | (simp only [go_sem] <;> omega) | fail)) only [go_sem, ints, bools, mat, c_impl_hammingCode] | ((first | refine goIf_b (fun h => ?_) (fun h => ?_) | refine goG_b (fun h => ?_) (fun h => ?_) | refine goTG_b (fun h => ?_) (fun h => ?_) | refine goOG_b (fun h => ?_) (fun h => ?_)) <;> ((try simp only [Bool.not_eq_true', Bool.not_eq_false'] at h); (try simp only [h]); (try simp only [decide_eq_true_eq, decide_eq_false_iff_not, bne_iff_ne, bne_eq_false_iff_eq, beq_iff_eq, beq_eq_false_iff_ne, ne_eq, Int.not_lt, Int.not_le, Bool.and_eq_true, Bool.and_eq_false_iff, Bool.or_eq_true, Bool.or_eq_false_iff] at h)) <;> (try (exfalso; omega))))
/-- The Hamming code's space, words. -/
def hamL (q m : Nat) : List Int := List.replicate (colN q m).length (q : Int)
def hamP (q m : Nat) (a : List Int) : Bool := hamB q m (colN q m) a
structure Ham (q m : Nat) : Prop where
  hq : q = 2 ∨ q = 3
  hm : m ≤ 3
  hlen : 1 ≤ (colN q m).length ∧ (colN q m).length ≤ 8
  hsp : isSpaceM (hamL q m) = true
  hin : in3 (colN q m) m
@[go_sem] theorem hamL_len (q m : Nat) : (hamL q m).length = (colN q m).length := by simp [hamL]
theorem d_impl_HammingCode (q m : Nat) (h2 : 2 ≤ m) (hh : Ham q m) : Den PA f_impl_HammingCode [.d (di q), .d (di m)] [.any, .any] (.tup [.agg [.own 1 ((hamL q m).map di)], .own 1 ((thoseM (hamL q m) (hamP q m)).map di), .d (di 0)]) := by
  obtain ⟨hq, hm, hlen, hsp, hin⟩ := hh
  have hz := isSpaceM_szs hsp
  have ehc : hcM q m 2 = 0 := by
    unfold hcM
    rw [if_pos (by omega), Int.toNat_natCast, Int.toNat_natCast, if_neg (by omega)]
  have h0 := d_impl_hammingCode q m 2 (by omega)
  rw [ehc] at h0
  refine den_go [] l_impl_HammingCode ?_
  repeat' (first | simp -implicitDefEqProofs (maxSteps := 1000000) (disch := (first | omega | (simp only [go_sem] <;> omega) | fail)) only [go_sem, ints, bools, mat, c_impl_HammingCode] | ((first | refine goIf_b (fun h => ?_) (fun h => ?_) | refine goG_b (fun h => ?_) (fun h => ?_) | refine goTG_b (fun h => ?_) (fun h => ?_) | refine goOG_b (fun h => ?_) (fun h => ?_)) <;> ((try simp only [Bool.not_eq_true', Bool.not_eq_false'] at h); (try simp only [h]); (try simp only [decide_eq_true_eq, decide_eq_false_iff_not, bne_iff_ne, bne_eq_false_iff_eq, beq_iff_eq, beq_eq_false_iff_ne, ne_eq, Int.not_lt, Int.not_le, Bool.and_eq_true, Bool.and_eq_false_iff, Bool.or_eq_true, Bool.or_eq_false_iff] at h)) <;> (try (exfalso; omega))))
  first | refine goC_call [.r, .r, .r] (h0) ?_ | refine goOC_call [.r, .r, .r] (h0) ?_
  repeat' (first | simp -implicitDefEqProofs (maxSteps := 1000000) (disch := (first | omega | (simp only [go_sem] <;> omega) | fail)) only [go_sem, ints, bools, mat] | ((first | refine goIf_b (fun h => ?_) (fun h => ?_) | refine goG_b (fun h => ?_) (fun h => ?_) | refine goTG_b (fun h => ?_) (fun h => ?_) | refine goOG_b (fun h => ?_) (fun h => ?_)) <;> ((try simp only [Bool.not_eq_true', Bool.not_eq_false'] at h); (try simp only [h]); (try simp only [decide_eq_true_eq, decide_eq_false_iff_not, bne_iff_ne, bne_eq_false_iff_eq, beq_iff_eq, beq_eq_false_iff_ne, ne_eq, Int.not_lt, Int.not_le, Bool.and_eq_true, Bool.and_eq_false_iff, Bool.or_eq_true, Bool.or_eq_false_iff] at h)) <;> (try (exfalso; omega))))
  first | refine goC_call [.r, .r] (d_impl_columnsFor q m hq hm) ?_ | refine goOC_call [.r, .r] (d_impl_columnsFor q m hq hm) ?_
  repeat' (first | simp -implicitDefEqProofs (maxSteps := 1000000) (disch := (first | omega | (simp only [go_sem] <;> omega) | fail)) only [go_sem, ints, bools, mat] | ((first | refine goIf_b (fun h => ?_) (fun h => ?_) | refine goG_b (fun h => ?_) (fun h => ?_) | refine goTG_b (fun h => ?_) (fun h => ?_) | refine goOG_b (fun h => ?_) (fun h => ?_)) <;> ((try simp only [Bool.not_eq_true', Bool.not_eq_false'] at h); (try simp only [h]); (try simp only [decide_eq_true_eq, decide_eq_false_iff_not, bne_iff_ne, bne_eq_false_iff_eq, beq_iff_eq, beq_eq_false_iff_ne, ne_eq, Int.not_lt, Int.not_le, Bool.and_eq_true, Bool.and_eq_false_iff, Bool.or_eq_true, Bool.or_eq_false_iff] at h)) <;> (try (exfalso; omega))))
  first | refine goC_call [.r, .r] (d_slices_Repeat q (colN q m).length hlen.1 (by omega)) ?_ | refine goOC_call [.r, .r] (d_slices_Repeat q (colN q m).length hlen.1 (by omega)) ?_
  repeat' (first | simp -implicitDefEqProofs (maxSteps := 1000000) (disch := (first | omega | (simp only [go_sem] <;> omega) | fail)) only [go_sem, ints, bools, mat] | ((first | refine goIf_b (fun h => ?_) (fun h => ?_) | refine goG_b (fun h => ?_) (fun h => ?_) | refine goTG_b (fun h => ?_) (fun h => ?_) | refine goOG_b (fun h => ?_) (fun h => ?_)) <;> ((try simp only [Bool.not_eq_true', Bool.not_eq_false'] at h); (try simp only [h]); (try simp only [decide_eq_true_eq, decide_eq_false_iff_not, bne_iff_ne, bne_eq_false_iff_eq, beq_iff_eq, beq_eq_false_iff_ne, ne_eq, Int.not_lt, Int.not_le, Bool.and_eq_true, Bool.and_eq_false_iff, Bool.or_eq_true, Bool.or_eq_false_iff] at h)) <;> (try (exfalso; omega))))
  first | refine goC_call [.r, .g (fnD (hamL q m).length (hamP q m))] (d_impl_those (hamL q m) hsp (hamP q m) _ (fnD_mk hsp (hamP q m))) ?_ | refine goOC_call [.r, .g (fnD (hamL q m).length (hamP q m))] (d_impl_those (hamL q m) hsp (hamP q m) _ (fnD_mk hsp (hamP q m))) ?_
  repeat' (first | simp -implicitDefEqProofs (maxSteps := 1000000) (disch := (first | omega | (simp only [go_sem] <;> omega) | fail)) only [go_sem, ints, bools, mat] | ((first | refine goIf_b (fun h => ?_) (fun h => ?_) | refine goG_b (fun h => ?_) (fun h => ?_) | refine goTG_b (fun h => ?_) (fun h => ?_) | refine goOG_b (fun h => ?_) (fun h => ?_)) <;> ((try simp only [Bool.not_eq_true', Bool.not_eq_false'] at h); (try simp only [h]); (try simp only [decide_eq_true_eq, decide_eq_false_iff_not, bne_iff_ne, bne_eq_false_iff_eq, beq_iff_eq, beq_eq_false_iff_ne, ne_eq, Int.not_lt, Int.not_le, Bool.and_eq_true, Bool.and_eq_false_iff, Bool.or_eq_true, Bool.or_eq_false_iff] at h)) <;> (try (exfalso; omega))))
  refine chk_intro rfl (chk_intro ?_ rfl)
  refine fnOK_mk (d_impl_HammingCode_1 2 0 [] [] (by omega) (by omega) (by simp) (by simp) (by simp) (fun i => by simp) (fun i hi => by simp at hi)).1 [[di m], [.lst 1 ((colN q m).map ints)], [di q]] (by simp -implicitDefEqProofs (maxSteps := 1000000) (disch := (first | omega | (simp only [go_sem] <;> omega) | fail)) only [go_sem, ints, bools, mat]) fun ds r hgg => ?_
  obtain ⟨a, hal, ha4, rfl, rfl⟩ := hgg
  exact ⟨_, d_impl_HammingCode_1 q m (colN q m) a (by omega) hm hlen.2 (by omega) (by omega) ha4 hin⟩
theorem d_impl_HammingCode_no (q m : Int) (h : hcM q m 2 ≠ 0) : Den PA f_impl_HammingCode [.d (di q), .d (di m)] [.any, .any] (.tup [.d (.agg [nil]), .d nil, .d (di (hcM q m 2))]) := by
  have h0 := d_impl_hammingCode q m 2 (by omega)
  generalize hcM q m 2 = b at *
  refine den_go [] l_impl_HammingCode ?_
  repeat' (first | simp -implicitDefEqProofs (maxSteps := 1000000) (disch := (first | omega | (simp only [go_sem] <;> omega) | fail)) only [go_sem, ints, bools, mat, c_impl_HammingCode] | ((first | refine goIf_b (fun h => ?_) (fun h => ?_) | refine goG_b (fun h => ?_) (fun h => ?_) | refine goTG_b (fun h => ?_) (fun h => ?_) | refine goOG_b (fun h => ?_) (fun h => ?_)) <;> ((try simp only [Bool.not_eq_true', Bool.not_eq_false'] at h); (try simp only [h]); (try simp only [decide_eq_true_eq, decide_eq_false_iff_not, bne_iff_ne, bne_eq_false_iff_eq, beq_iff_eq, beq_eq_false_iff_ne, ne_eq, Int.not_lt, Int.not_le, Bool.and_eq_true, Bool.and_eq_false_iff, Bool.or_eq_true, Bool.or_eq_false_iff] at h)) <;> (try (exfalso; omega))))
  first | refine goC_call [.r, .r, .r] (h0) ?_ | refine goOC_call [.r, .r, .r] (h0) ?_
  repeat' (first | simp -implicitDefEqProofs (maxSteps := 1000000) (disch := (first | omega | (simp only [go_sem] <;> omega) | fail)) only [go_sem, ints, bools, mat] | ((first | refine goIf_b (fun h => ?_) (fun h => ?_) | refine goG_b (fun h => ?_) (fun h => ?_) | refine goTG_b (fun h => ?_) (fun h => ?_) | refine goOG_b (fun h => ?_) (fun h => ?_)) <;> ((try simp only [Bool.not_eq_true', Bool.not_eq_false'] at h); (try simp only [h]); (try simp only [decide_eq_true_eq, decide_eq_false_iff_not, bne_iff_ne, bne_eq_false_iff_eq, beq_iff_eq, beq_eq_false_iff_ne, ne_eq, Int.not_lt, Int.not_le, Bool.and_eq_true, Bool.and_eq_false_iff, Bool.or_eq_true, Bool.or_eq_false_iff] at h)) <;> (try (exfalso; omega))))
def pwN (q : Nat) : Nat → Nat
  | 0 => 1
  | k + 1 => pwN q k * q
theorem pwN_bnd {q : Nat} (hq : q = 2 ∨ q = 3) {k : Nat} (hk : k ≤ 3) : 1 ≤ pwN q k ∧ pwN q k ≤ 27 := by
  rcases hq with rfl | rfl
  · rcases k with _ | _ | _ | _ | k
    iterate 4 decide
    omega
  · rcases k with _ | _ | _ | _ | k
    iterate 4 decide
    omega
/-- A number's digits from the last: the digits, what is left, the last that is not 0. -/
def cdN (q : Int) (m : Nat) (n : Int) : Nat → List Int × Int × Int
  | 0 => (List.replicate m 0, n, 0)
  | j + 1 => let s := cdN q m n j; (s.1.set (m - 1 - j) (s.2.1 % q), s.2.1 / q, if s.2.1 % q = 0 then s.2.2 else s.2.1 % q)
theorem cdN_len (q : Int) (m : Nat) (n : Int) : ∀ j, (cdN q m n j).1.length = m
  | 0 => by simp [cdN]
  | j + 1 => by simp [cdN, cdN_len q m n j]
theorem cdN_bnd {q : Int} (hq : 2 ≤ q ∧ q ≤ 3) (m : Nat) {n : Int} (hn : 0 ≤ n ∧ n < 27) : ∀ j, 0 ≤ (cdN q m n j).2.1 ∧ (cdN q m n j).2.1 < 27
  | 0 => by simp [cdN]; omega
  | j + 1 => by
    have h := cdN_bnd hq m hn j
    have := div_le_self h.1 (show 1 ≤ q by omega)
    simp only [cdN]; omega
def scN (q m n : Nat) : List (List Int) := (((List.range n).map fun (i : Nat) => cdN q m i m).filter fun s => s.2.2 == 1).map fun s => s.1
theorem scN_succ (q m n : Nat) : scN q m (n + 1) = scN q m n ++ (if (cdN q m n m).2.2 = 1 then [(cdN q m n m).1] else []) := by
  unfold scN
  rw [List.range_succ, List.map_append, List.filter_append, List.map_append]
  by_cases h : (cdN q m n m).2.2 = 1 <;> simp [h]
theorem scN_len (q m n : Nat) : (scN q m n).length ≤ n := by
  unfold scN
  rw [List.length_map]
  exact Nat.le_trans (List.length_filter_le _ _) (by simp)
theorem cdN_zero (q : Int) (m : Nat) : ∀ j, (cdN q m 0 j).2 = (0, 0)
  | 0 => rfl
  | j + 1 => by
    have := cdN_zero q m j
    have h1 : (cdN q m 0 j).2.1 = 0 := by rw [this]
    have h2 : (cdN q m 0 j).2.2 = 0 := by rw [this]
    simp [cdN, h1, h2]
theorem scN_one (q m : Nat) : scN q m 1 = [] := by
  rw [scN_succ, if_neg]; rfl
  rw [show ((0 : Nat) : Int) = 0 from rfl, cdN_zero]; decide
theorem d_spec_l06Columns (q m : Nat) (hq : q = 2 ∨ q = 3) (hm : 1 ≤ m ∧ m ≤ 3) : Den PA f_spec_l06Columns [.d (di q), .d (di m)] [.any, .any] (.own 1 ((scN q m (pwN q m)).map ints)) := by
  refine den_go [] l_spec_l06Columns ?_
  repeat' (first | simp -implicitDefEqProofs (maxSteps := 1000000) (disch := (first | omega | (simp only [go_sem] <;> omega) | fail)) only [go_sem, ints, bools, mat, c_spec_l06Columns] | ((first | refine goIf_b (fun h => ?_) (fun h => ?_) | refine goG_b (fun h => ?_) (fun h => ?_) | refine goTG_b (fun h => ?_) (fun h => ?_) | refine goOG_b (fun h => ?_) (fun h => ?_)) <;> ((try simp only [Bool.not_eq_true', Bool.not_eq_false'] at h); (try simp only [h]); (try simp only [decide_eq_true_eq, decide_eq_false_iff_not, bne_iff_ne, bne_eq_false_iff_eq, beq_iff_eq, beq_eq_false_iff_ne, ne_eq, Int.not_lt, Int.not_le, Bool.and_eq_true, Bool.and_eq_false_iff, Bool.or_eq_true, Bool.or_eq_false_iff] at h))))
  refine go_loop (fun (k : Nat) => ⟨[(0, .d (di q)), (1, .d (di m)), (5, .sl 0 0 0 1), (6, .d (di (pwN q k))), (7, .d (di k))], [some (.dat 1 [])]⟩) (fun k => k ≤ m) (fun k => m - k) 0 ?_ ?_ ?_
  · (simp -implicitDefEqProofs (maxSteps := 1000000) (disch := (first | omega | (simp only [go_sem] <;> omega) | fail)) only [go_sem, ints, bools, mat] <;> rfl)
  · exact Nat.zero_le _
  · rintro k hk J hJ
    have hpw := pwN_bnd hq (k := k) (by omega)
    have hpw1 := fun hh : k < m => pwN_bnd hq (k := k + 1) (by omega)
    have hpe : pwN q (k + 1) = pwN q k * q := rfl
    have hpi : ((pwN q (k + 1) : Nat) : Int) = (pwN q k : Int) * q := by rw [hpe]; simp
    rw [← hpe] at *
    repeat' (first | simp -implicitDefEqProofs (maxSteps := 1000000) (disch := (first | omega | (simp only [go_sem] <;> omega) | fail)) only [go_sem, ints, bools, mat] | ((first | refine goIf_b (fun h => ?_) (fun h => ?_) | refine goG_b (fun h => ?_) (fun h => ?_) | refine goTG_b (fun h => ?_) (fun h => ?_) | refine goOG_b (fun h => ?_) (fun h => ?_)) <;> ((try simp only [Bool.not_eq_true', Bool.not_eq_false'] at h); (try simp only [h]); (try simp only [decide_eq_true_eq, decide_eq_false_iff_not, bne_iff_ne, bne_eq_false_iff_eq, beq_iff_eq, beq_eq_false_iff_ne, ne_eq, Int.not_lt, Int.not_le, Bool.and_eq_true, Bool.and_eq_false_iff, Bool.or_eq_true, Bool.or_eq_false_iff] at h)) <;> (try (exfalso; omega))))
    · refine hJ (k + 1) (by omega) (by omega) _ ?_
      simp -implicitDefEqProofs (maxSteps := 1000000) (disch := (first | omega | (simp only [go_sem] <;> omega) | fail)) only [go_sem, ints, bools, mat]
      rw [hpi]; rfl
    · have : k = m := by omega
      subst this
      repeat' (first | simp -implicitDefEqProofs (maxSteps := 1000000) (disch := (first | omega | (simp only [go_sem] <;> omega) | fail)) only [go_sem, ints, bools, mat] | ((first | refine goIf_b (fun h => ?_) (fun h => ?_) | refine goG_b (fun h => ?_) (fun h => ?_) | refine goTG_b (fun h => ?_) (fun h => ?_) | refine goOG_b (fun h => ?_) (fun h => ?_)) <;> ((try simp only [Bool.not_eq_true', Bool.not_eq_false'] at h); (try simp only [h]); (try simp only [decide_eq_true_eq, decide_eq_false_iff_not, bne_iff_ne, bne_eq_false_iff_eq, beq_iff_eq, beq_eq_false_iff_ne, ne_eq, Int.not_lt, Int.not_le, Bool.and_eq_true, Bool.and_eq_false_iff, Bool.or_eq_true, Bool.or_eq_false_iff] at h)) <;> (try (exfalso; omega))))
      refine go_loop (fun (n : Nat) => ⟨[(0, .d (di q)), (1, .d (di k)), (5, .sl 0 0 (scN q k n).length 1), (6, .d (di (pwN q k))), (8, .d (di n))], [some (.dat 1 ((scN q k n).map ints))]⟩) (fun n => 1 ≤ n ∧ n ≤ pwN q k) (fun n => pwN q k - n) 1 ?_ ?_ ?_
      · simp -implicitDefEqProofs (maxSteps := 1000000) (disch := (first | omega | (simp only [go_sem] <;> omega) | fail)) only [go_sem, ints, bools, mat]
        rw [scN_one]; rfl
      · exact ⟨Nat.le_refl _, hpw.1⟩
      · rintro n ⟨hn1, hn2⟩ J2 hJ2
        have hsl := scN_len q k n
        repeat' (first | simp -implicitDefEqProofs (maxSteps := 1000000) (disch := (first | omega | (simp only [go_sem] <;> omega) | fail)) only [go_sem, ints, bools, mat] | ((first | refine goIf_b (fun h => ?_) (fun h => ?_) | refine goG_b (fun h => ?_) (fun h => ?_) | refine goTG_b (fun h => ?_) (fun h => ?_) | refine goOG_b (fun h => ?_) (fun h => ?_)) <;> ((try simp only [Bool.not_eq_true', Bool.not_eq_false'] at h); (try simp only [h]); (try simp only [decide_eq_true_eq, decide_eq_false_iff_not, bne_iff_ne, bne_eq_false_iff_eq, beq_iff_eq, beq_eq_false_iff_ne, ne_eq, Int.not_lt, Int.not_le, Bool.and_eq_true, Bool.and_eq_false_iff, Bool.or_eq_true, Bool.or_eq_false_iff] at h)) <;> (try (exfalso; omega))))
        · refine go_loop (fun (j : Nat) => ⟨[(0, .d (di q)), (1, .d (di k)), (5, .sl 0 0 (scN q k n).length 1), (6, .d (di (pwN q k))), (8, .d (di n)), (9, .sl 1 0 k 1), (10, .d (di (cdN q k n j).2.1)), (11, .d (di (cdN q k n j).2.2)), (12, .d (di ((k : Int) - 1 - j)))], [some (.dat 1 ((scN q k n).map ints)), some (.dat 1 ((cdN q k n j).1.map di))]⟩) (fun j => j ≤ k) (fun j => k - j) 0 ?_ ?_ ?_
          · simp -implicitDefEqProofs (maxSteps := 1000000) (disch := (first | omega | (simp only [go_sem] <;> omega) | fail)) only [go_sem, ints, bools, mat]
            simp [cdN]
          · exact Nat.zero_le _
          · rintro j hj J3 hJ3
            have hcl := cdN_len q k n j
            have hcb := cdN_bnd (q := q) (by omega) k (n := n) (by omega) j
            have hdb := div_le_self hcb.1 (show (1 : Int) ≤ q by omega)
            have hmb := mod_bnd (x := (cdN q k n j).2.1) (show (2 : Int) ≤ q ∧ (q : Int) ≤ 4 by omega)
            by_cases hjk : j < k
            · have hti : ((k : Int) - 1 - j).toNat = k - 1 - j := by omega
              have hge : ((cdN q k n j).1.set (k - 1 - j) ((cdN q k n j).2.1 % q)).getD (k - 1 - j) 0 = (cdN q k n j).2.1 % q := by rw [getD_set _ _ _ _ (by omega), if_pos rfl]
              have e1 : (cdN q k n (j + 1)).1 = (cdN q k n j).1.set (k - 1 - j) ((cdN q k n j).2.1 % q) := rfl
              have e2 : (cdN q k n (j + 1)).2.1 = (cdN q k n j).2.1 / q := rfl
              have e3 : (cdN q k n (j + 1)).2.2 = if (cdN q k n j).2.1 % q = 0 then (cdN q k n j).2.2 else (cdN q k n j).2.1 % q := rfl
              repeat' (first | simp -implicitDefEqProofs (maxSteps := 1000000) (disch := (first | omega | (simp only [go_sem] <;> omega) | fail)) only [go_sem, ints, bools, mat] | ((first | refine goIf_b (fun h => ?_) (fun h => ?_) | refine goG_b (fun h => ?_) (fun h => ?_) | refine goTG_b (fun h => ?_) (fun h => ?_) | refine goOG_b (fun h => ?_) (fun h => ?_)) <;> ((try simp only [Bool.not_eq_true', Bool.not_eq_false'] at h); (try simp only [h]); (try simp only [decide_eq_true_eq, decide_eq_false_iff_not, bne_iff_ne, bne_eq_false_iff_eq, beq_iff_eq, beq_eq_false_iff_ne, ne_eq, Int.not_lt, Int.not_le, Bool.and_eq_true, Bool.and_eq_false_iff, Bool.or_eq_true, Bool.or_eq_false_iff] at h)) <;> (try (exfalso; omega))))
              · rw [hti] at *
                rw [hge] at *
                refine hJ3 (j + 1) (by omega) (by omega) _ ?_
                rw [e1, e2, e3, if_neg h]
                simp -implicitDefEqProofs (maxSteps := 1000000) (disch := (first | omega | (simp only [go_sem] <;> omega) | fail)) only [go_sem, ints, bools, mat]
                simp; omega
              · rw [hti] at *
                rw [hge] at *
                refine hJ3 (j + 1) (by omega) (by omega) _ ?_
                rw [e1, e2, e3, if_pos h]
                simp -implicitDefEqProofs (maxSteps := 1000000) (disch := (first | omega | (simp only [go_sem] <;> omega) | fail)) only [go_sem, ints, bools, mat]
                simp; omega
            · have : j = k := by omega
              subst this
              repeat' (first | simp -implicitDefEqProofs (maxSteps := 1000000) (disch := (first | omega | (simp only [go_sem] <;> omega) | fail)) only [go_sem, ints, bools, mat] | ((first | refine goIf_b (fun h => ?_) (fun h => ?_) | refine goG_b (fun h => ?_) (fun h => ?_) | refine goTG_b (fun h => ?_) (fun h => ?_) | refine goOG_b (fun h => ?_) (fun h => ?_)) <;> ((try simp only [Bool.not_eq_true', Bool.not_eq_false'] at h); (try simp only [h]); (try simp only [decide_eq_true_eq, decide_eq_false_iff_not, bne_iff_ne, bne_eq_false_iff_eq, beq_iff_eq, beq_eq_false_iff_ne, ne_eq, Int.not_lt, Int.not_le, Bool.and_eq_true, Bool.and_eq_false_iff, Bool.or_eq_true, Bool.or_eq_false_iff] at h)) <;> (try (exfalso; omega))))
              · refine hJ2 (n + 1) ⟨by omega, by omega⟩ (by omega) _ ?_
                simp -implicitDefEqProofs (maxSteps := 1000000) (disch := (first | omega | (simp only [go_sem] <;> omega) | fail)) only [go_sem, ints, bools, mat]
                rw [scN_succ, if_pos h]; simp
              · refine hJ2 (n + 1) ⟨by omega, by omega⟩ (by omega) _ ?_
                simp -implicitDefEqProofs (maxSteps := 1000000) (disch := (first | omega | (simp only [go_sem] <;> omega) | fail)) only [go_sem, ints, bools, mat]
                rw [scN_succ, if_neg h]; simp
        · have : n = pwN q k := by omega
          rw [this]
theorem in3_chk {cs : List (List Int)} {m : Nat} (h : cs.all (fun x => x.length == m && x.all fun d => decide (0 ≤ d) && decide (d < 4)) = true) : in3 cs m := fun i hi => by
  have h1 := List.all_eq_true.1 h (cs.getD i []) (by simp [hi])
  rw [Bool.and_eq_true, beq_iff_eq, List.all_eq_true] at h1
  refine ⟨h1.1, fun k => ?_⟩
  rcases Nat.lt_or_ge k (cs.getD i []).length with hk | hk
  · have := h1.2 _ (mem_getD hk)
    simpa using this
  · have : (cs.getD i []).getD k 0 = 0 := by rw [List.getD_eq_getElem?_getD, List.getElem?_eq_none hk]; rfl
    rw [this]; decide
theorem ham22 : Ham 2 2 := ⟨.inl rfl, by decide, by decide, by decide, in3_chk (by decide)⟩
theorem ham23 : Ham 2 3 := ⟨.inl rfl, by decide, by decide, by decide, in3_chk (by decide)⟩
theorem ham32 : Ham 3 2 := ⟨.inr rfl, by decide, by decide, by decide, in3_chk (by decide)⟩
theorem col_sc {q m : Nat} (hq : q = 2 ∨ q = 3) (hm : 1 ≤ m ∧ m ≤ 3) : scN q m (pwN q m) = colN q m := by
  have : m = 1 ∨ m = 2 ∨ m = 3 := by omega
  rcases hq with rfl | rfl <;> rcases this with rfl | rfl | rfl <;> decide
theorem d_spec_l06Cols (q m : Nat) (hq : q = 2 ∨ q = 3) (hm : 1 ≤ m ∧ m ≤ 3) : Den PA f_spec_l06Columns [.d (di q), .d (di m)] [.any, .any] (.own 1 ((colN q m).map ints)) := by
  rw [← col_sc hq hm]; exact d_spec_l06Columns q m hq hm
theorem d_spec_l06Hamming (q m : Nat) (h2 : 1 ≤ m) (hh : Ham q m) : Den PA f_spec_l06Hamming [.d (di q), .d (di m)] [.any, .any] (.tup [.agg [.own 1 ((hamL q m).map di)], .own 1 ((thoseM (hamL q m) (hamP q m)).map di)]) := by
  obtain ⟨hq, hm, hlen, hsp, hin⟩ := hh
  have hz := isSpaceM_szs hsp
  have hn := isSpaceM_n hsp
  have hp := isSpaceM_prod hsp
  have hp1 := prodM_pos (isSpaceM_szs hsp)
  have hal := allW_len (hamL q m)
  refine den_go [] l_spec_l06Hamming ?_
  repeat' (first | simp -implicitDefEqProofs (maxSteps := 1000000) (disch := (first | omega | (simp only [go_sem] <;> omega) | fail)) only [go_sem, ints, bools, mat, c_spec_l06Hamming] | ((first | refine goIf_b (fun h => ?_) (fun h => ?_) | refine goG_b (fun h => ?_) (fun h => ?_) | refine goTG_b (fun h => ?_) (fun h => ?_) | refine goOG_b (fun h => ?_) (fun h => ?_)) <;> ((try simp only [Bool.not_eq_true', Bool.not_eq_false'] at h); (try simp only [h]); (try simp only [decide_eq_true_eq, decide_eq_false_iff_not, bne_iff_ne, bne_eq_false_iff_eq, beq_iff_eq, beq_eq_false_iff_ne, ne_eq, Int.not_lt, Int.not_le, Bool.and_eq_true, Bool.and_eq_false_iff, Bool.or_eq_true, Bool.or_eq_false_iff] at h)) <;> (try (exfalso; omega))))
  first | refine goC_call [.r, .r] (d_spec_l06Cols q m hq ⟨h2, hm⟩) ?_ | refine goOC_call [.r, .r] (d_spec_l06Cols q m hq ⟨h2, hm⟩) ?_
  repeat' (first | simp -implicitDefEqProofs (maxSteps := 1000000) (disch := (first | omega | (simp only [go_sem] <;> omega) | fail)) only [go_sem, ints, bools, mat] | ((first | refine goIf_b (fun h => ?_) (fun h => ?_) | refine goG_b (fun h => ?_) (fun h => ?_) | refine goTG_b (fun h => ?_) (fun h => ?_) | refine goOG_b (fun h => ?_) (fun h => ?_)) <;> ((try simp only [Bool.not_eq_true', Bool.not_eq_false'] at h); (try simp only [h]); (try simp only [decide_eq_true_eq, decide_eq_false_iff_not, bne_iff_ne, bne_eq_false_iff_eq, beq_iff_eq, beq_eq_false_iff_ne, ne_eq, Int.not_lt, Int.not_le, Bool.and_eq_true, Bool.and_eq_false_iff, Bool.or_eq_true, Bool.or_eq_false_iff] at h)) <;> (try (exfalso; omega))))
  have ehl : hamL q m = List.replicate (colN q m).length (q : Int) := rfl
  refine go_loop (fun (i : Nat) => ⟨[(0, .d (di q)), (1, .d (di m)), (4, .ref 0 0), (6, .sl 1 0 (colN q m).length 1), (7, .ref 2 0), (8, .sl 3 0 0 1), (9, .d (di i))], [some (.var [D.v (.slice none 0 0)]), some (.dat 1 ((colN q m).map ints)), some (.mix [.sl 4 0 i 1]), some (.dat 1 []), some (.dat 1 ((List.replicate i (q : Int)).map di))]⟩) (fun i => i ≤ (colN q m).length) (fun i => (colN q m).length - i) 0 ?_ ?_ ?_
  · (simp -implicitDefEqProofs (maxSteps := 1000000) (disch := (first | omega | (simp only [go_sem] <;> omega) | fail)) only [go_sem, ints, bools, mat] <;> rfl)
  · exact Nat.zero_le _
  · rintro i hi J hJ
    by_cases hil : i < (colN q m).length
    · repeat' (first | simp -implicitDefEqProofs (maxSteps := 1000000) (disch := (first | omega | (simp only [go_sem] <;> omega) | fail)) only [go_sem, ints, bools, mat] | ((first | refine goIf_b (fun h => ?_) (fun h => ?_) | refine goG_b (fun h => ?_) (fun h => ?_) | refine goTG_b (fun h => ?_) (fun h => ?_) | refine goOG_b (fun h => ?_) (fun h => ?_)) <;> ((try simp only [Bool.not_eq_true', Bool.not_eq_false'] at h); (try simp only [h]); (try simp only [decide_eq_true_eq, decide_eq_false_iff_not, bne_iff_ne, bne_eq_false_iff_eq, beq_iff_eq, beq_eq_false_iff_ne, ne_eq, Int.not_lt, Int.not_le, Bool.and_eq_true, Bool.and_eq_false_iff, Bool.or_eq_true, Bool.or_eq_false_iff] at h)) <;> (try (exfalso; omega))))
      refine hJ (i + 1) (by omega) (by omega) _ ?_
      simp -implicitDefEqProofs (maxSteps := 1000000) (disch := (first | omega | (simp only [go_sem] <;> omega) | fail)) only [go_sem, ints, bools, mat]
      rw [List.replicate_succ']; simp
    · have : i = (colN q m).length := by omega
      subst this
      repeat' (first | simp -implicitDefEqProofs (maxSteps := 1000000) (disch := (first | omega | (simp only [go_sem] <;> omega) | fail)) only [go_sem, ints, bools, mat] | ((first | refine goIf_b (fun h => ?_) (fun h => ?_) | refine goG_b (fun h => ?_) (fun h => ?_) | refine goTG_b (fun h => ?_) (fun h => ?_) | refine goOG_b (fun h => ?_) (fun h => ?_)) <;> ((try simp only [Bool.not_eq_true', Bool.not_eq_false'] at h); (try simp only [h]); (try simp only [decide_eq_true_eq, decide_eq_false_iff_not, bne_iff_ne, bne_eq_false_iff_eq, beq_iff_eq, beq_eq_false_iff_ne, ne_eq, Int.not_lt, Int.not_le, Bool.and_eq_true, Bool.and_eq_false_iff, Bool.or_eq_true, Bool.or_eq_false_iff] at h)) <;> (try (exfalso; omega))))
      rw [← ehl]
      refine go_loop (fun (w : Nat) => ⟨[(0, .d (di q)), (1, .d (di m)), (4, .ref 0 0), (6, .sl 1 0 (colN q m).length 1), (7, .ref 2 0), (8, .sl 3 0 (((allW (hamL q m)).take w).filter fun w => hamP q m (digM (hamL q m) w)).length 1), (10, .d (di w))], [some (.var [D.v (.slice none 0 0)]), some (.dat 1 ((colN q m).map ints)), some (.mix [.sl 4 0 (colN q m).length 1]), some (.dat 1 ((((allW (hamL q m)).take w).filter fun w => hamP q m (digM (hamL q m) w)).map di)), some (.dat 1 ((hamL q m).map di))]⟩) (fun w => w ≤ (prodM (hamL q m)).toNat) (fun w => (prodM (hamL q m)).toNat - w) 0 ?_ ?_ ?_
      · (simp -implicitDefEqProofs (maxSteps := 1000000) (disch := (first | omega | (simp only [go_sem] <;> omega) | fail)) only [go_sem, ints, bools, mat] <;> rfl)
      · exact Nat.zero_le _
      · rintro w hw J2 hJ2
        have hlh := hamL_len q m
        have hszn : ∀ i, i < (hamL q m).length → 2 ≤ (hamL q m).getD i 0 ∧ (hamL q m).getD i 0 ≤ 4 := fun i hi => by
          rw [hlh] at hi
          have : (hamL q m).getD i 0 = q := by rw [ehl]; simp [hi]
          omega
        have hwt := fun h => allW_get (hamL q m) (i := w) h
        have hfl := filter_len_le (fun w => hamP q m (digM (hamL q m) w)) ((allW (hamL q m)).take w) w (by simp; omega)
        repeat' (first | simp -implicitDefEqProofs (maxSteps := 1000000) (disch := (first | omega | (simp only [go_sem] <;> omega) | fail)) only [go_sem, ints, bools, mat] | ((first | refine goIf_b (fun h => ?_) (fun h => ?_) | refine goG_b (fun h => ?_) (fun h => ?_) | refine goTG_b (fun h => ?_) (fun h => ?_) | refine goOG_b (fun h => ?_) (fun h => ?_)) <;> ((try simp only [Bool.not_eq_true', Bool.not_eq_false'] at h); (try simp only [h]); (try simp only [decide_eq_true_eq, decide_eq_false_iff_not, bne_iff_ne, bne_eq_false_iff_eq, beq_iff_eq, beq_eq_false_iff_ne, ne_eq, Int.not_lt, Int.not_le, Bool.and_eq_true, Bool.and_eq_false_iff, Bool.or_eq_true, Bool.or_eq_false_iff] at h)) <;> (try (exfalso; omega))))
        first | refine goC_call [.r] (d_spec_l01N (hamL q m) (by omega) hszn) ?_ | refine goOC_call [.r] (d_spec_l01N (hamL q m) (by omega) hszn) ?_
        by_cases hwl : w < (prodM (hamL q m)).toNat
        · repeat' (first | simp -implicitDefEqProofs (maxSteps := 1000000) (disch := (first | omega | (simp only [go_sem] <;> omega) | fail)) only [go_sem, ints, bools, mat] | ((first | refine goIf_b (fun h => ?_) (fun h => ?_) | refine goG_b (fun h => ?_) (fun h => ?_) | refine goTG_b (fun h => ?_) (fun h => ?_) | refine goOG_b (fun h => ?_) (fun h => ?_)) <;> ((try simp only [Bool.not_eq_true', Bool.not_eq_false'] at h); (try simp only [h]); (try simp only [decide_eq_true_eq, decide_eq_false_iff_not, bne_iff_ne, bne_eq_false_iff_eq, beq_iff_eq, beq_eq_false_iff_ne, ne_eq, Int.not_lt, Int.not_le, Bool.and_eq_true, Bool.and_eq_false_iff, Bool.or_eq_true, Bool.or_eq_false_iff] at h)) <;> (try (exfalso; omega))))
          first | refine goC_call [.r, .r] (d_spec_l01Digits (hamL q m) hsp w (by omega) (by omega)) ?_ | refine goOC_call [.r, .r] (d_spec_l01Digits (hamL q m) hsp w (by omega) (by omega)) ?_
          have hdl : (digM (hamL q m) w).length = (colN q m).length := by rw [digM_len, hamL_len]
          have hd4 : in4 (digM (hamL q m) w) := digM_bnd w hz
          repeat' (first | simp -implicitDefEqProofs (maxSteps := 1000000) (disch := (first | omega | (simp only [go_sem] <;> omega) | fail)) only [go_sem, ints, bools, mat] | ((first | refine goIf_b (fun h => ?_) (fun h => ?_) | refine goG_b (fun h => ?_) (fun h => ?_) | refine goTG_b (fun h => ?_) (fun h => ?_) | refine goOG_b (fun h => ?_) (fun h => ?_)) <;> ((try simp only [Bool.not_eq_true', Bool.not_eq_false'] at h); (try simp only [h]); (try simp only [decide_eq_true_eq, decide_eq_false_iff_not, bne_iff_ne, bne_eq_false_iff_eq, beq_iff_eq, beq_eq_false_iff_ne, ne_eq, Int.not_lt, Int.not_le, Bool.and_eq_true, Bool.and_eq_false_iff, Bool.or_eq_true, Bool.or_eq_false_iff] at h)) <;> (try (exfalso; omega))))
          refine go_loop (fun (k : Nat) => ⟨[(0, .d (di q)), (1, .d (di m)), (4, .ref 0 0), (6, .sl 1 0 (colN q m).length 1), (7, .ref 2 0), (8, .sl 3 0 (((allW (hamL q m)).take w).filter fun w => hamP q m (digM (hamL q m) w)).length 1), (10, .d (di w)), (11, .sl 4 0 (digM (hamL q m) w).length 1), (12, .d (db (hamB q k (colN q m) (digM (hamL q m) w)))), (13, .d (di k))], [some (.var [D.v (.slice none 0 0)]), some (.dat 1 ((colN q m).map ints)), some (.mix [.sl 5 0 (colN q m).length 1]), some (.dat 1 ((((allW (hamL q m)).take w).filter fun w => hamP q m (digM (hamL q m) w)).map di)), some (.dat 1 ((digM (hamL q m) w).map di)), some (.dat 1 ((hamL q m).map di))]⟩) (fun k => k ≤ m) (fun k => m - k) 0 ?_ ?_ ?_
          · (simp -implicitDefEqProofs (maxSteps := 1000000) (disch := (first | omega | (simp only [go_sem] <;> omega) | fail)) only [go_sem, ints, bools, mat] <;> rfl)
          · exact Nat.zero_le _
          · rintro k hk J3 hJ3
            by_cases hkm : k < m
            · repeat' (first | simp -implicitDefEqProofs (maxSteps := 1000000) (disch := (first | omega | (simp only [go_sem] <;> omega) | fail)) only [go_sem, ints, bools, mat] | ((first | refine goIf_b (fun h => ?_) (fun h => ?_) | refine goG_b (fun h => ?_) (fun h => ?_) | refine goTG_b (fun h => ?_) (fun h => ?_) | refine goOG_b (fun h => ?_) (fun h => ?_)) <;> ((try simp only [Bool.not_eq_true', Bool.not_eq_false'] at h); (try simp only [h]); (try simp only [decide_eq_true_eq, decide_eq_false_iff_not, bne_iff_ne, bne_eq_false_iff_eq, beq_iff_eq, beq_eq_false_iff_ne, ne_eq, Int.not_lt, Int.not_le, Bool.and_eq_true, Bool.and_eq_false_iff, Bool.or_eq_true, Bool.or_eq_false_iff] at h)) <;> (try (exfalso; omega))))
              refine go_loop (fun (i : Nat) => ⟨[(0, .d (di q)), (1, .d (di m)), (4, .ref 0 0), (6, .sl 1 0 (colN q m).length 1), (7, .ref 2 0), (8, .sl 3 0 (((allW (hamL q m)).take w).filter fun w => hamP q m (digM (hamL q m) w)).length 1), (10, .d (di w)), (11, .sl 4 0 (digM (hamL q m) w).length 1), (12, .d (db (hamB q k (colN q m) (digM (hamL q m) w)))), (13, .d (di k)), (14, .d (di (hsN (colN q m) (digM (hamL q m) w) k i))), (15, .d (di i))], [some (.var [D.v (.slice none 0 0)]), some (.dat 1 ((colN q m).map ints)), some (.mix [.sl 5 0 (colN q m).length 1]), some (.dat 1 ((((allW (hamL q m)).take w).filter fun w => hamP q m (digM (hamL q m) w)).map di)), some (.dat 1 ((digM (hamL q m) w).map di)), some (.dat 1 ((hamL q m).map di))]⟩) (fun i => i ≤ (colN q m).length) (fun i => (colN q m).length - i) 0 ?_ ?_ ?_
              · (simp -implicitDefEqProofs (maxSteps := 1000000) (disch := (first | omega | (simp only [go_sem] <;> omega) | fail)) only [go_sem, ints, bools, mat] <;> rfl)
              · exact Nat.zero_le _
              · rintro i hi J4 hJ4
                have hb := hsN_bnd hd4 hin k i hi
                have hb1 := fun hh : i < (colN q m).length => hsN_bnd hd4 hin k (i + 1) hh
                have hai := hd4 i
                have hci := fun hh : i < (colN q m).length => (hin i hh).1
                have hck := fun hh : i < (colN q m).length => (hin i hh).2 k
                have hmu : i < (colN q m).length → 0 ≤ (digM (hamL q m) w).getD i 0 * ((colN q m).getD i []).getD k 0 ∧ (digM (hamL q m) w).getD i 0 * ((colN q m).getD i []).getD k 0 ≤ 9 := fun hh => by
                  have h5 : (digM (hamL q m) w).getD i 0 * ((colN q m).getD i []).getD k 0 ≤ 3 * 3 := Int.mul_le_mul (by omega) (by have := hck hh; omega) (hck hh).1 (by omega)
                  exact ⟨Int.mul_nonneg hai.1 (hck hh).1, by omega⟩
                by_cases hil : i < (colN q m).length
                · repeat' (first | simp -implicitDefEqProofs (maxSteps := 1000000) (disch := (first | omega | (simp only [go_sem] <;> omega) | fail)) only [go_sem, ints, bools, mat] | ((first | refine goIf_b (fun h => ?_) (fun h => ?_) | refine goG_b (fun h => ?_) (fun h => ?_) | refine goTG_b (fun h => ?_) (fun h => ?_) | refine goOG_b (fun h => ?_) (fun h => ?_)) <;> ((try simp only [Bool.not_eq_true', Bool.not_eq_false'] at h); (try simp only [h]); (try simp only [decide_eq_true_eq, decide_eq_false_iff_not, bne_iff_ne, bne_eq_false_iff_eq, beq_iff_eq, beq_eq_false_iff_ne, ne_eq, Int.not_lt, Int.not_le, Bool.and_eq_true, Bool.and_eq_false_iff, Bool.or_eq_true, Bool.or_eq_false_iff] at h)) <;> (try (exfalso; omega))))
                  refine hJ4 (i + 1) (by omega) (by omega) _ ?_
                  simp -implicitDefEqProofs (maxSteps := 1000000) (disch := (first | omega | (simp only [go_sem] <;> omega) | fail)) only [go_sem, ints, bools, mat]
                  rw [hsN]; rfl
                · have : i = (colN q m).length := by omega
                  subst this
                  have hmb := mod_bnd (x := hsN (colN q m) (digM (hamL q m) w) k (colN q m).length) (show (2 : Int) ≤ q ∧ (q : Int) ≤ 4 by omega)
                  have hbs : hamB q (k + 1) (colN q m) (digM (hamL q m) w) = (hamB q k (colN q m) (digM (hamL q m) w) && (hsN (colN q m) (digM (hamL q m) w) k (colN q m).length % q == 0)) := by
                    simp [hamB, List.range_succ]
                  repeat' (first | simp -implicitDefEqProofs (maxSteps := 1000000) (disch := (first | omega | (simp only [go_sem] <;> omega) | fail)) only [go_sem, ints, bools, mat] | ((first | refine goIf_b (fun h => ?_) (fun h => ?_) | refine goG_b (fun h => ?_) (fun h => ?_) | refine goTG_b (fun h => ?_) (fun h => ?_) | refine goOG_b (fun h => ?_) (fun h => ?_)) <;> ((try simp only [Bool.not_eq_true', Bool.not_eq_false'] at h); (try simp only [h]); (try simp only [decide_eq_true_eq, decide_eq_false_iff_not, bne_iff_ne, bne_eq_false_iff_eq, beq_iff_eq, beq_eq_false_iff_ne, ne_eq, Int.not_lt, Int.not_le, Bool.and_eq_true, Bool.and_eq_false_iff, Bool.or_eq_true, Bool.or_eq_false_iff] at h)) <;> (try (exfalso; omega))))
                  · refine hJ3 (k + 1) (by omega) (by omega) _ ?_
                    simp -implicitDefEqProofs (maxSteps := 1000000) (disch := (first | omega | (simp only [go_sem] <;> omega) | fail)) only [go_sem, ints, bools, mat]
                    rw [hbs]
                    simp_all
                  · refine hJ3 (k + 1) (by omega) (by omega) _ ?_
                    simp -implicitDefEqProofs (maxSteps := 1000000) (disch := (first | omega | (simp only [go_sem] <;> omega) | fail)) only [go_sem, ints, bools, mat]
                    rw [hbs]
                    simp_all
            · have : k = m := by omega
              subst this
              repeat' (first | simp -implicitDefEqProofs (maxSteps := 1000000) (disch := (first | omega | (simp only [go_sem] <;> omega) | fail)) only [go_sem, ints, bools, mat] | ((first | refine goIf_b (fun h => ?_) (fun h => ?_) | refine goG_b (fun h => ?_) (fun h => ?_) | refine goTG_b (fun h => ?_) (fun h => ?_) | refine goOG_b (fun h => ?_) (fun h => ?_)) <;> ((try simp only [Bool.not_eq_true', Bool.not_eq_false'] at h); (try simp only [h]); (try simp only [decide_eq_true_eq, decide_eq_false_iff_not, bne_iff_ne, bne_eq_false_iff_eq, beq_iff_eq, beq_eq_false_iff_ne, ne_eq, Int.not_lt, Int.not_le, Bool.and_eq_true, Bool.and_eq_false_iff, Bool.or_eq_true, Bool.or_eq_false_iff] at h)) <;> (try (exfalso; omega))))
              · refine hJ2 (w + 1) (by omega) (by omega) _ ?_
                simp -implicitDefEqProofs (maxSteps := 1000000) (disch := (first | omega | (simp only [go_sem] <;> omega) | fail)) only [go_sem, ints, bools, mat]
                rw [take_allW _ hwl, List.filter_append]
                have h' : hamP q k (digM (hamL q k) w) = true := h
                simp [h']
              · refine hJ2 (w + 1) (by omega) (by omega) _ ?_
                simp -implicitDefEqProofs (maxSteps := 1000000) (disch := (first | omega | (simp only [go_sem] <;> omega) | fail)) only [go_sem, ints, bools, mat]
                rw [take_allW _ hwl, List.filter_append]
                have h' : hamP q k (digM (hamL q k) w) = false := h
                simp [h']
        · have : w = (prodM (hamL q m)).toNat := by omega
          subst this
          rw [List.take_of_length_le (by rw [hal]; exact Nat.le_refl _)]
          repeat' (first | simp -implicitDefEqProofs (maxSteps := 1000000) (disch := (first | omega | (simp only [go_sem] <;> omega) | fail)) only [go_sem, ints, bools, mat] | ((first | refine goIf_b (fun h => ?_) (fun h => ?_) | refine goG_b (fun h => ?_) (fun h => ?_) | refine goTG_b (fun h => ?_) (fun h => ?_) | refine goOG_b (fun h => ?_) (fun h => ?_)) <;> ((try simp only [Bool.not_eq_true', Bool.not_eq_false'] at h); (try simp only [h]); (try simp only [decide_eq_true_eq, decide_eq_false_iff_not, bne_iff_ne, bne_eq_false_iff_eq, beq_iff_eq, beq_eq_false_iff_ne, ne_eq, Int.not_lt, Int.not_le, Bool.and_eq_true, Bool.and_eq_false_iff, Bool.or_eq_true, Bool.or_eq_false_iff] at h)) <;> (try (exfalso; omega))))
          rfl
theorem d_spec_HammingCode (q m : Nat) (h2 : 2 ≤ m) (hh : Ham q m) : Den PA f_spec_HammingCode [.d (di q), .d (di m)] [.any, .any] (.tup [.agg [.own 1 ((hamL q m).map di)], .own 1 ((thoseM (hamL q m) (hamP q m)).map di), .d (di 0)]) := by
  have hq := hh.hq
  have hm := hh.hm
  have hlen := hh.hlen
  have e1 : (decide ((2 : Int) ≤ q) && decide ((q : Int) ≤ 3)) = true := by simp; omega
  have e2 : (decide ((2 : Int) ≤ m) && decide ((m : Int) ≤ 3)) = true := by simp; omega
  refine den_go [] l_spec_HammingCode ?_
  repeat' (first | simp -implicitDefEqProofs (maxSteps := 1000000) (disch := (first | omega | (simp only [go_sem] <;> omega) | fail)) only [go_sem, ints, bools, mat, c_spec_HammingCode] | ((first | refine goIf_b (fun h => ?_) (fun h => ?_) | refine goG_b (fun h => ?_) (fun h => ?_) | refine goTG_b (fun h => ?_) (fun h => ?_) | refine goOG_b (fun h => ?_) (fun h => ?_)) <;> ((try simp only [Bool.not_eq_true', Bool.not_eq_false'] at h); (try simp only [h]); (try simp only [decide_eq_true_eq, decide_eq_false_iff_not, bne_iff_ne, bne_eq_false_iff_eq, beq_iff_eq, beq_eq_false_iff_ne, ne_eq, Int.not_lt, Int.not_le, Bool.and_eq_true, Bool.and_eq_false_iff, Bool.or_eq_true, Bool.or_eq_false_iff] at h)) <;> (try (exfalso; omega))))
  first | refine goC_call [.r, .r, .r] (d_spec_l01In q 2 3) ?_ | refine goOC_call [.r, .r, .r] (d_spec_l01In q 2 3) ?_
  rw [e1]
  repeat' (first | simp -implicitDefEqProofs (maxSteps := 1000000) (disch := (first | omega | (simp only [go_sem] <;> omega) | fail)) only [go_sem, ints, bools, mat] | ((first | refine goIf_b (fun h => ?_) (fun h => ?_) | refine goG_b (fun h => ?_) (fun h => ?_) | refine goTG_b (fun h => ?_) (fun h => ?_) | refine goOG_b (fun h => ?_) (fun h => ?_)) <;> ((try simp only [Bool.not_eq_true', Bool.not_eq_false'] at h); (try simp only [h]); (try simp only [decide_eq_true_eq, decide_eq_false_iff_not, bne_iff_ne, bne_eq_false_iff_eq, beq_iff_eq, beq_eq_false_iff_ne, ne_eq, Int.not_lt, Int.not_le, Bool.and_eq_true, Bool.and_eq_false_iff, Bool.or_eq_true, Bool.or_eq_false_iff] at h)) <;> (try (exfalso; omega))))
  first | refine goC_call [.r, .r, .r] (d_spec_l01In m 2 3) ?_ | refine goOC_call [.r, .r, .r] (d_spec_l01In m 2 3) ?_
  rw [e2]
  repeat' (first | simp -implicitDefEqProofs (maxSteps := 1000000) (disch := (first | omega | (simp only [go_sem] <;> omega) | fail)) only [go_sem, ints, bools, mat] | ((first | refine goIf_b (fun h => ?_) (fun h => ?_) | refine goG_b (fun h => ?_) (fun h => ?_) | refine goTG_b (fun h => ?_) (fun h => ?_) | refine goOG_b (fun h => ?_) (fun h => ?_)) <;> ((try simp only [Bool.not_eq_true', Bool.not_eq_false'] at h); (try simp only [h]); (try simp only [decide_eq_true_eq, decide_eq_false_iff_not, bne_iff_ne, bne_eq_false_iff_eq, beq_iff_eq, beq_eq_false_iff_ne, ne_eq, Int.not_lt, Int.not_le, Bool.and_eq_true, Bool.and_eq_false_iff, Bool.or_eq_true, Bool.or_eq_false_iff] at h)) <;> (try (exfalso; omega))))
  first | refine goC_call [.r, .r] (d_spec_l06Cols q m hq ⟨by omega, hm⟩) ?_ | refine goOC_call [.r, .r] (d_spec_l06Cols q m hq ⟨by omega, hm⟩) ?_
  repeat' (first | simp -implicitDefEqProofs (maxSteps := 1000000) (disch := (first | omega | (simp only [go_sem] <;> omega) | fail)) only [go_sem, ints, bools, mat] | ((first | refine goIf_b (fun h => ?_) (fun h => ?_) | refine goG_b (fun h => ?_) (fun h => ?_) | refine goTG_b (fun h => ?_) (fun h => ?_) | refine goOG_b (fun h => ?_) (fun h => ?_)) <;> ((try simp only [Bool.not_eq_true', Bool.not_eq_false'] at h); (try simp only [h]); (try simp only [decide_eq_true_eq, decide_eq_false_iff_not, bne_iff_ne, bne_eq_false_iff_eq, beq_iff_eq, beq_eq_false_iff_ne, ne_eq, Int.not_lt, Int.not_le, Bool.and_eq_true, Bool.and_eq_false_iff, Bool.or_eq_true, Bool.or_eq_false_iff] at h)) <;> (try (exfalso; omega))))
  first | refine goC_call [.r, .r] (d_spec_l06Hamming q m (by omega) hh) ?_ | refine goOC_call [.r, .r] (d_spec_l06Hamming q m (by omega) hh) ?_
  repeat' (first | simp -implicitDefEqProofs (maxSteps := 1000000) (disch := (first | omega | (simp only [go_sem] <;> omega) | fail)) only [go_sem, ints, bools, mat] | ((first | refine goIf_b (fun h => ?_) (fun h => ?_) | refine goG_b (fun h => ?_) (fun h => ?_) | refine goTG_b (fun h => ?_) (fun h => ?_) | refine goOG_b (fun h => ?_) (fun h => ?_)) <;> ((try simp only [Bool.not_eq_true', Bool.not_eq_false'] at h); (try simp only [h]); (try simp only [decide_eq_true_eq, decide_eq_false_iff_not, bne_iff_ne, bne_eq_false_iff_eq, beq_iff_eq, beq_eq_false_iff_ne, ne_eq, Int.not_lt, Int.not_le, Bool.and_eq_true, Bool.and_eq_false_iff, Bool.or_eq_true, Bool.or_eq_false_iff] at h)) <;> (try (exfalso; omega))))
theorem d_spec_HammingCode_no (q m : Int) (h : hcM q m 2 ≠ 0) : Den PA f_spec_HammingCode [.d (di q), .d (di m)] [.any, .any] (.tup [.d (.agg [nil]), .d nil, .d (di (hcM q m 2))]) := by
  refine den_go [] l_spec_HammingCode ?_
  by_cases hr : 2 ≤ q ∧ q ≤ 3 ∧ 2 ≤ m ∧ m ≤ 3
  · have e : hcM q m 2 = if 8 < (colN q.toNat m.toNat).length then 3 else 0 := if_pos hr
    have h8 : 8 < (colN q.toNat m.toNat).length := by
      rw [e] at h
      by_cases h8 : 8 < (colN q.toNat m.toNat).length
      · exact h8
      · rw [if_neg h8] at h; exact absurd rfl h
    rw [if_pos h8] at e
    have hcf := d_spec_l06Cols q.toNat m.toNat (by omega) (by omega)
    have hcl := colN_len (q := q.toNat) (m := m.toNat) (by omega) (by omega)
    rw [Int.toNat_of_nonneg (show 0 ≤ q by omega), Int.toNat_of_nonneg (show 0 ≤ m by omega)] at hcf
    have e1 : (decide (2 ≤ q) && decide (q ≤ 3)) = true := by simp; omega
    have e2 : (decide (2 ≤ m) && decide (m ≤ 3)) = true := by simp; omega
    rw [e]
    repeat' (first | simp -implicitDefEqProofs (maxSteps := 1000000) (disch := (first | omega | (simp only [go_sem] <;> omega) | fail)) only [go_sem, ints, bools, mat, c_spec_HammingCode] | ((first | refine goIf_b (fun h => ?_) (fun h => ?_) | refine goG_b (fun h => ?_) (fun h => ?_) | refine goTG_b (fun h => ?_) (fun h => ?_) | refine goOG_b (fun h => ?_) (fun h => ?_)) <;> ((try simp only [Bool.not_eq_true', Bool.not_eq_false'] at h); (try simp only [h]); (try simp only [decide_eq_true_eq, decide_eq_false_iff_not, bne_iff_ne, bne_eq_false_iff_eq, beq_iff_eq, beq_eq_false_iff_ne, ne_eq, Int.not_lt, Int.not_le, Bool.and_eq_true, Bool.and_eq_false_iff, Bool.or_eq_true, Bool.or_eq_false_iff] at h)) <;> (try (exfalso; omega))))
    first | refine goC_call [.r, .r, .r] (d_spec_l01In q 2 3) ?_ | refine goOC_call [.r, .r, .r] (d_spec_l01In q 2 3) ?_
    rw [e1]
    repeat' (first | simp -implicitDefEqProofs (maxSteps := 1000000) (disch := (first | omega | (simp only [go_sem] <;> omega) | fail)) only [go_sem, ints, bools, mat] | ((first | refine goIf_b (fun h => ?_) (fun h => ?_) | refine goG_b (fun h => ?_) (fun h => ?_) | refine goTG_b (fun h => ?_) (fun h => ?_) | refine goOG_b (fun h => ?_) (fun h => ?_)) <;> ((try simp only [Bool.not_eq_true', Bool.not_eq_false'] at h); (try simp only [h]); (try simp only [decide_eq_true_eq, decide_eq_false_iff_not, bne_iff_ne, bne_eq_false_iff_eq, beq_iff_eq, beq_eq_false_iff_ne, ne_eq, Int.not_lt, Int.not_le, Bool.and_eq_true, Bool.and_eq_false_iff, Bool.or_eq_true, Bool.or_eq_false_iff] at h)) <;> (try (exfalso; omega))))
    first | refine goC_call [.r, .r, .r] (d_spec_l01In m 2 3) ?_ | refine goOC_call [.r, .r, .r] (d_spec_l01In m 2 3) ?_
    rw [e2]
    repeat' (first | simp -implicitDefEqProofs (maxSteps := 1000000) (disch := (first | omega | (simp only [go_sem] <;> omega) | fail)) only [go_sem, ints, bools, mat] | ((first | refine goIf_b (fun h => ?_) (fun h => ?_) | refine goG_b (fun h => ?_) (fun h => ?_) | refine goTG_b (fun h => ?_) (fun h => ?_) | refine goOG_b (fun h => ?_) (fun h => ?_)) <;> ((try simp only [Bool.not_eq_true', Bool.not_eq_false'] at h); (try simp only [h]); (try simp only [decide_eq_true_eq, decide_eq_false_iff_not, bne_iff_ne, bne_eq_false_iff_eq, beq_iff_eq, beq_eq_false_iff_ne, ne_eq, Int.not_lt, Int.not_le, Bool.and_eq_true, Bool.and_eq_false_iff, Bool.or_eq_true, Bool.or_eq_false_iff] at h)) <;> (try (exfalso; omega))))
    first | refine goC_call [.r, .r] (hcf) ?_ | refine goOC_call [.r, .r] (hcf) ?_
    repeat' (first | simp -implicitDefEqProofs (maxSteps := 1000000) (disch := (first | omega | (simp only [go_sem] <;> omega) | fail)) only [go_sem, ints, bools, mat] | ((first | refine goIf_b (fun h => ?_) (fun h => ?_) | refine goG_b (fun h => ?_) (fun h => ?_) | refine goTG_b (fun h => ?_) (fun h => ?_) | refine goOG_b (fun h => ?_) (fun h => ?_)) <;> ((try simp only [Bool.not_eq_true', Bool.not_eq_false'] at h); (try simp only [h]); (try simp only [decide_eq_true_eq, decide_eq_false_iff_not, bne_iff_ne, bne_eq_false_iff_eq, beq_iff_eq, beq_eq_false_iff_ne, ne_eq, Int.not_lt, Int.not_le, Bool.and_eq_true, Bool.and_eq_false_iff, Bool.or_eq_true, Bool.or_eq_false_iff] at h)) <;> (try (exfalso; omega))))
  · have e : hcM q m 2 = 2 := if_neg hr
    rw [e]
    repeat' (first | simp -implicitDefEqProofs (maxSteps := 1000000) (disch := (first | omega | (simp only [go_sem] <;> omega) | fail)) only [go_sem, ints, bools, mat, c_spec_HammingCode] | ((first | refine goIf_b (fun h => ?_) (fun h => ?_) | refine goG_b (fun h => ?_) (fun h => ?_) | refine goTG_b (fun h => ?_) (fun h => ?_) | refine goOG_b (fun h => ?_) (fun h => ?_)) <;> ((try simp only [Bool.not_eq_true', Bool.not_eq_false'] at h); (try simp only [h]); (try simp only [decide_eq_true_eq, decide_eq_false_iff_not, bne_iff_ne, bne_eq_false_iff_eq, beq_iff_eq, beq_eq_false_iff_ne, ne_eq, Int.not_lt, Int.not_le, Bool.and_eq_true, Bool.and_eq_false_iff, Bool.or_eq_true, Bool.or_eq_false_iff] at h)) <;> (try (exfalso; omega))))
    first | refine goC_call [.r, .r, .r] (d_spec_l01In q 2 3) ?_ | refine goOC_call [.r, .r, .r] (d_spec_l01In q 2 3) ?_
    by_cases h1 : 2 ≤ q ∧ q ≤ 3
    · have e1 : (decide (2 ≤ q) && decide (q ≤ 3)) = true := by simp; omega
      have e2 : (decide (2 ≤ m) && decide (m ≤ 3)) = false := by simp; omega
      rw [e1]
      repeat' (first | simp -implicitDefEqProofs (maxSteps := 1000000) (disch := (first | omega | (simp only [go_sem] <;> omega) | fail)) only [go_sem, ints, bools, mat] | ((first | refine goIf_b (fun h => ?_) (fun h => ?_) | refine goG_b (fun h => ?_) (fun h => ?_) | refine goTG_b (fun h => ?_) (fun h => ?_) | refine goOG_b (fun h => ?_) (fun h => ?_)) <;> ((try simp only [Bool.not_eq_true', Bool.not_eq_false'] at h); (try simp only [h]); (try simp only [decide_eq_true_eq, decide_eq_false_iff_not, bne_iff_ne, bne_eq_false_iff_eq, beq_iff_eq, beq_eq_false_iff_ne, ne_eq, Int.not_lt, Int.not_le, Bool.and_eq_true, Bool.and_eq_false_iff, Bool.or_eq_true, Bool.or_eq_false_iff] at h)) <;> (try (exfalso; omega))))
      first | refine goC_call [.r, .r, .r] (d_spec_l01In m 2 3) ?_ | refine goOC_call [.r, .r, .r] (d_spec_l01In m 2 3) ?_
      rw [e2]
      repeat' (first | simp -implicitDefEqProofs (maxSteps := 1000000) (disch := (first | omega | (simp only [go_sem] <;> omega) | fail)) only [go_sem, ints, bools, mat] | ((first | refine goIf_b (fun h => ?_) (fun h => ?_) | refine goG_b (fun h => ?_) (fun h => ?_) | refine goTG_b (fun h => ?_) (fun h => ?_) | refine goOG_b (fun h => ?_) (fun h => ?_)) <;> ((try simp only [Bool.not_eq_true', Bool.not_eq_false'] at h); (try simp only [h]); (try simp only [decide_eq_true_eq, decide_eq_false_iff_not, bne_iff_ne, bne_eq_false_iff_eq, beq_iff_eq, beq_eq_false_iff_ne, ne_eq, Int.not_lt, Int.not_le, Bool.and_eq_true, Bool.and_eq_false_iff, Bool.or_eq_true, Bool.or_eq_false_iff] at h)) <;> (try (exfalso; omega))))
    · have e1 : (decide (2 ≤ q) && decide (q ≤ 3)) = false := by simp; omega
      rw [e1]
      repeat' (first | simp -implicitDefEqProofs (maxSteps := 1000000) (disch := (first | omega | (simp only [go_sem] <;> omega) | fail)) only [go_sem, ints, bools, mat] | ((first | refine goIf_b (fun h => ?_) (fun h => ?_) | refine goG_b (fun h => ?_) (fun h => ?_) | refine goTG_b (fun h => ?_) (fun h => ?_) | refine goOG_b (fun h => ?_) (fun h => ?_)) <;> ((try simp only [Bool.not_eq_true', Bool.not_eq_false'] at h); (try simp only [h]); (try simp only [decide_eq_true_eq, decide_eq_false_iff_not, bne_iff_ne, bne_eq_false_iff_eq, beq_iff_eq, beq_eq_false_iff_ne, ne_eq, Int.not_lt, Int.not_le, Bool.and_eq_true, Bool.and_eq_false_iff, Bool.or_eq_true, Bool.or_eq_false_iff] at h)) <;> (try (exfalso; omega))))
abbrev sn (l : List Int) : D := .v (.string (strOfNums l))
@[go_sem] theorem str_46 : (ByteArray.mk #[46]) = strOfNums [46] := rfl
@[go_sem] theorem str_nil : (ByteArray.mk #[]) = strOfNums [] := rfl
@[go_sem] theorem str_45 : (ByteArray.mk #[45]) = strOfNums [45] := rfl
theorem str_app (a b : List Int) : strOfNums a ++ strOfNums b = strOfNums (a ++ b) := by
  apply ByteArray.ext
  simp [strOfNums]
@[go_sem] theorem eqsA_addN {a b : List Int} (h : a.length + b.length < 1048577) : eqsA .add (.d (.v (.string (strOfNums a)))) (.d (.v (.string (strOfNums b)))) = some (.d (.v (.string (strOfNums (a ++ b))))) := by
  have h2 : (strOfNums a).size + (strOfNums b).size ≤ maxLen := by
    rw [strOfNums_size, strOfNums_size]; exact Nat.le_trans (Nat.le_of_lt h) (by decide)
  simp only [eqsA]
  rw [if_pos h2, str_app]
@[go_sem] theorem eqsA_neq_self {s : ByteArray} : eqsA .neq (.d (.v (.string s))) (.d (.v (.string s))) = some (.d (.v (.bool false))) := by simp [eqsA]
@[go_sem] theorem lnsA_n {l : List Int} : lnsA (.d (.v (.string (strOfNums l)))) = some (.d (.v (.int .i64 l.length))) := by simp [lnsA, strOfNums_size]
theorem str_ext (l : List Int) (a b : Nat) : (strOfNums l).extract a b = strOfNums ((l.take b).drop a) := by
  apply ByteArray.ext
  simp [strOfNums, ByteArray.data_extract, List.map_drop, List.map_take, List.drop_take]
@[go_sem] theorem sltA_n {tm : List (Nat × AV)} {l : List Int} {lo hi : Option Opd} : sltA tm (.d (.v (.string (strOfNums l)))) lo hi = (bndA tm l.length lo hi).map fun p => .d (.v (.string (strOfNums ((l.take p.2).drop p.1)))) := by
  simp only [sltA, strOfNums_size, str_ext]
def spL : List Int → List (List Int)
  | [] => [[]]
  | x :: r => if x = 46 then [] :: spL r else match spL r with
    | p :: ps => (x :: p) :: ps
    | [] => [[x]]
@[go_sem] theorem flat_sn (l : List (List Int)) : flat (l.map fun x => sn x) = l.map fun x => sn x := by
  induction l with
  | nil => rfl
  | cons x r ih => simp only [flat, List.map_cons, List.flatMap_cons, D.cells] at ih ⊢; rw [ih]; rfl
@[go_sem] theorem getSn {l : List (List Int)} {j : Nat} (h : j < l.length) : (l.map fun x => sn x)[j]? = some (sn (l.getD j [])) := by simp [h]
def ptS (m c : Int) : Int := if 48 ≤ c ∧ c ≤ 51 then or2 m (c - 48) else m
def ptB (p : List Int) : Int := p.foldl ptS 0
def psT (l : List Int) : List Int := (spL l).map ptB
@[go_sem] theorem psT_len (l : List Int) : (psT l).length = (spL l).length := by simp [psT]
theorem wrapU_bnd (x : Int) : 0 ≤ IntKind.wrap .u64 x ∧ IntKind.wrap .u64 x < 18446744073709551616 := by
  have e : IntKind.wrap .u64 x = x % 18446744073709551616 := rfl
  rw [e]; omega
@[go_sem] theorem binA_shr33 {a : Int} : binA .shr (.d (.v (.int .u64 a))) (.d (.v (.int .u64 33))) = some (.d (.v (.int .u64 (a / 8589934592)))) := by
  have e : min (33 : Int).toNat 64 = 33 := rfl
  have h1 : (0 : Int) ≤ 2 ^ 33 := by decide
  simp only [binA, binI, BinOp.isShift, true_or, if_true, if_neg (show ¬ (33 : Int) < 0 by omega), IntKind.bits, e, Option.map_some, Int.fdiv_eq_ediv_of_nonneg _ h1]
  rfl
@[go_sem] theorem binA_mask24 {a : Int} (h : 0 ≤ a) (h' : a < 18446744073709551616) : binA .and (.d (.v (.int .u64 a))) (.d (.v (.int .u64 16777215))) = some (.d (.v (.int .u64 (a % 16777216)))) := by
  have e1 : (BitVec.ofInt 64 a).toNat = a.toNat := by rw [BitVec.toNat_ofInt]; omega
  have e2 : (BitVec.ofInt 64 16777215).toNat = 16777215 := by decide
  have e3 : (BitVec.ofInt 64 a &&& BitVec.ofInt 64 16777215).toNat = a.toNat % 16777216 := by
    rw [BitVec.toNat_and, e1, e2]; exact Nat.and_two_pow_sub_one_eq_mod a.toNat 24
  have e4 : binI .and .u64 a 16777215 = some (.int .u64 (IntKind.wrap .u64 ((BitVec.ofInt 64 a &&& BitVec.ofInt 64 16777215).toNat : Nat))) := rfl
  simp only [binA, e4, BinOp.isShift, or_true, if_true, e3, Option.map_some]
  rw [wrap_u64 (by omega) (by omega)]
  congr 4
  omega
attribute [go_sem] mkBlk
def leaB (o : Option (Option Blk)) (k i : Nat) (s : Sto) : R × Sto :=
  match o with
  | some (some (.var cs)) => (.boxm (cs.map .d), s.set i none)
  | some (some (.mix cs)) => (.boxm (leaL (leaA k) cs (s.set i none)).1, (leaL (leaA k) cs (s.set i none)).2)
  | _ => (.any, s)
@[go_sem] theorem leaA_ref (k i : Nat) (s : Sto) : leaA (k + 1) (.ref i 0) s = leaB s[i]? k i s := by
  simp only [leaA, leaB] <;> (rcases s[i]? with _ | _ | b <;> first | rfl | (cases b <;> rfl))
@[go_sem] theorem leaB_var (cs : List D) (k i : Nat) (s : Sto) : leaB (some (some (.var cs))) k i s = (.boxm (cs.map .d), s.set i none) := rfl
@[go_sem] theorem RLes_boxm (x y xs ys : List R) : RLes (.boxm x :: xs) (.boxm y :: ys) = (x = y ∧ RLes xs ys) := by
  apply propext
  constructor
  · intro h; cases h with | cons h hs => cases h; exact ⟨rfl, hs⟩
  · rintro ⟨rfl, hs⟩; exact .cons .refl hs
abbrev du (n : Int) : D := .v (.int .u64 n)
/-- A source: its place, its hash. -/
abbrev Src := Nat × Int
abbrev srcR (cd : D) (s : Src) : R := .boxm [.d cd, .d (di s.1), .d (du s.2)]
def okS (l : List Int) (s : Src) : Prop := s.1 ≤ l.length ∧ 0 ≤ s.2 ∧ s.2 < 18446744073709551616
def nxH (h : Int) : Int := IntKind.wrap .u64 (IntKind.wrap .u64 (h * 6364136223846793005) + 1442695040888963407)
def nxX (l : List Int) (s : Src) : Int := nxH s.2 / 8589934592 % 16777216 + (if s.1 < l.length then l.getD s.1 0 else 0)
def nxS (l : List Int) (s : Src) : Src := (if s.1 < l.length then s.1 + 1 else s.1, nxH s.2)
/-- The next number below q, what is left. -/
def nxt (l : List Int) (s : Src) (q : Int) : Int × Src := if q < 1 then (0, s) else (nxX l s % q, nxS l s)
theorem nxS_ok {l : List Int} {s : Src} (h : okS l s) : okS l (nxS l s) := by
  refine ⟨?_, wrapU_bnd _⟩
  unfold nxS; dsimp only
  split
  · omega
  · exact h.1
theorem nxt_ok {l : List Int} {s : Src} (h : okS l s) (q : Int) : okS l (nxt l s q).2 := by
  unfold nxt
  split
  · exact h
  · exact nxS_ok h
theorem nxt_bnd {l : List Int} {s : Src} {q : Int} (hq : 1 ≤ q) : 0 ≤ (nxt l s q).1 ∧ (nxt l s q).1 < q := by
  unfold nxt
  rw [if_neg (by omega)]
  exact ⟨Int.emod_nonneg _ (by omega), Int.emod_lt_of_pos _ (by omega)⟩
theorem d_spec_l01Next (cd : D) (l : List Int) (hb : IsBts cd l) (hl : l.length < 1048577) (s : Src) (hs : okS l s) (q : Int) : Den PA f_spec_l01Next [srcR cd s, .d (di q)] [srcR cd (nxt l s q).2, .any] (.d (di (nxt l s q).1)) := by
  obtain ⟨at0, h⟩ := s
  obtain ⟨h1, h2, h3⟩ := hs
  dsimp only at h1 h2 h3
  refine den_go [0] l_spec_l01Next ?_
  by_cases hq : q < 1
  · have e : nxt l (at0, h) q = (0, (at0, h)) := if_pos hq
    rw [e]
    repeat' (first | simp -implicitDefEqProofs (maxSteps := 1000000) (disch := (first | omega | (simp only [go_sem] <;> omega) | fail)) only [go_sem, ints, bools, mat, c_spec_l01Next, srcR] | ((first | refine goIf_b (fun h => ?_) (fun h => ?_) | refine goG_b (fun h => ?_) (fun h => ?_) | refine goTG_b (fun h => ?_) (fun h => ?_) | refine goOG_b (fun h => ?_) (fun h => ?_)) <;> ((try simp only [Bool.not_eq_true', Bool.not_eq_false'] at h); (try simp only [h]); (try simp only [decide_eq_true_eq, decide_eq_false_iff_not, bne_iff_ne, bne_eq_false_iff_eq, beq_iff_eq, beq_eq_false_iff_ne, ne_eq, Int.not_lt, Int.not_le, Bool.and_eq_true, Bool.and_eq_false_iff, Bool.or_eq_true, Bool.or_eq_false_iff] at h)) <;> (try (exfalso; omega))))
  · have e : nxt l (at0, h) q = (nxX l (at0, h) % q, nxS l (at0, h)) := if_neg hq
    have hh := wrapU_bnd (IntKind.wrap .u64 (h * 6364136223846793005) + 1442695040888963407)
    rw [e]
    rcases hb with ⟨rfl, hby⟩ | ⟨rfl, rfl⟩
    · by_cases ha : at0 < l.length
      · have hba := hby _ (mem_getD ha)
        have ex : nxX l (at0, h) = nxH h / 8589934592 % 16777216 + l.getD at0 0 := by simp only [nxX, if_pos ha]
        have es : nxS l (at0, h) = (at0 + 1, nxH h) := by simp only [nxS, if_pos ha]
        rw [ex, es]
        repeat' (first | simp -implicitDefEqProofs (maxSteps := 1000000) (disch := (first | omega | (simp only [go_sem] <;> omega) | fail)) only [go_sem, ints, bools, mat, c_spec_l01Next, srcR] | ((first | refine goIf_b (fun h => ?_) (fun h => ?_) | refine goG_b (fun h => ?_) (fun h => ?_) | refine goTG_b (fun h => ?_) (fun h => ?_) | refine goOG_b (fun h => ?_) (fun h => ?_)) <;> ((try simp only [Bool.not_eq_true', Bool.not_eq_false'] at h); (try simp only [h]); (try simp only [decide_eq_true_eq, decide_eq_false_iff_not, bne_iff_ne, bne_eq_false_iff_eq, beq_iff_eq, beq_eq_false_iff_ne, ne_eq, Int.not_lt, Int.not_le, Bool.and_eq_true, Bool.and_eq_false_iff, Bool.or_eq_true, Bool.or_eq_false_iff] at h)) <;> (try (exfalso; omega))))
        exact ⟨rfl, rfl⟩
      · have ex : nxX l (at0, h) = nxH h / 8589934592 % 16777216 := by simp only [nxX, if_neg ha, Int.add_zero]
        have es : nxS l (at0, h) = (at0, nxH h) := by simp only [nxS, if_neg ha]
        rw [ex, es]
        repeat' (first | simp -implicitDefEqProofs (maxSteps := 1000000) (disch := (first | omega | (simp only [go_sem] <;> omega) | fail)) only [go_sem, ints, bools, mat, c_spec_l01Next, srcR] | ((first | refine goIf_b (fun h => ?_) (fun h => ?_) | refine goG_b (fun h => ?_) (fun h => ?_) | refine goTG_b (fun h => ?_) (fun h => ?_) | refine goOG_b (fun h => ?_) (fun h => ?_)) <;> ((try simp only [Bool.not_eq_true', Bool.not_eq_false'] at h); (try simp only [h]); (try simp only [decide_eq_true_eq, decide_eq_false_iff_not, bne_iff_ne, bne_eq_false_iff_eq, beq_iff_eq, beq_eq_false_iff_ne, ne_eq, Int.not_lt, Int.not_le, Bool.and_eq_true, Bool.and_eq_false_iff, Bool.or_eq_true, Bool.or_eq_false_iff] at h)) <;> (try (exfalso; omega))))
        exact ⟨rfl, rfl⟩
    · have ha : ¬ at0 < ([] : List Int).length := by simp
      have ex : nxX [] (at0, h) = nxH h / 8589934592 % 16777216 := by simp only [nxX, if_neg ha, Int.add_zero]
      have es : nxS [] (at0, h) = (at0, nxH h) := by simp only [nxS, if_neg ha]
      rw [ex, es]
      repeat' (first | simp -implicitDefEqProofs (maxSteps := 1000000) (disch := (first | omega | (simp only [go_sem] <;> omega) | fail)) only [go_sem, ints, bools, mat, c_spec_l01Next, srcR] | ((first | refine goIf_b (fun h => ?_) (fun h => ?_) | refine goG_b (fun h => ?_) (fun h => ?_) | refine goTG_b (fun h => ?_) (fun h => ?_) | refine goOG_b (fun h => ?_) (fun h => ?_)) <;> ((try simp only [Bool.not_eq_true', Bool.not_eq_false'] at h); (try simp only [h]); (try simp only [decide_eq_true_eq, decide_eq_false_iff_not, bne_iff_ne, bne_eq_false_iff_eq, beq_iff_eq, beq_eq_false_iff_ne, ne_eq, Int.not_lt, Int.not_le, Bool.and_eq_true, Bool.and_eq_false_iff, Bool.or_eq_true, Bool.or_eq_false_iff] at h)) <;> (try (exfalso; omega))))
      exact ⟨rfl, rfl⟩
/-- One of some numbers. -/
def pik (l : List Int) (s : Src) (xs : List Int) : Int × Src := (xs.getD (nxt l s xs.length).1.toNat 0, (nxt l s xs.length).2)
theorem pik_mem {l : List Int} {s : Src} {xs : List Int} (h : 0 < xs.length) : (pik l s xs).1 ∈ xs := by
  have h1 := nxt_bnd (l := l) (s := s) (q := (xs.length : Int)) (by omega)
  exact mem_getD (by omega)
theorem d_spec_l01Pick (cd : D) (l : List Int) (hb : IsBts cd l) (hl : l.length < 1048577) (s : Src) (hs : okS l s) (xs : List Int) (h0 : 0 < xs.length) (h1 : xs.length < 1000) : Den PA f_spec_l01Pick [srcR cd s, .d (ints xs)] [srcR cd (pik l s xs).2, .any] (.d (di (pik l s xs).1)) := by
  have hbn := nxt_bnd (l := l) (s := s) (q := (xs.length : Int)) (by omega)
  have hnx := d_spec_l01Next cd l hb hl s hs xs.length
  refine den_go [0] l_spec_l01Pick ?_
  repeat' (first | simp -implicitDefEqProofs (maxSteps := 1000000) (disch := (first | omega | (simp only [go_sem] <;> omega) | fail)) only [go_sem, ints, bools, mat, c_spec_l01Pick, srcR] | ((first | refine goIf_b (fun h => ?_) (fun h => ?_) | refine goG_b (fun h => ?_) (fun h => ?_) | refine goTG_b (fun h => ?_) (fun h => ?_) | refine goOG_b (fun h => ?_) (fun h => ?_)) <;> ((try simp only [Bool.not_eq_true', Bool.not_eq_false'] at h); (try simp only [h]); (try simp only [decide_eq_true_eq, decide_eq_false_iff_not, bne_iff_ne, bne_eq_false_iff_eq, beq_iff_eq, beq_eq_false_iff_ne, ne_eq, Int.not_lt, Int.not_le, Bool.and_eq_true, Bool.and_eq_false_iff, Bool.or_eq_true, Bool.or_eq_false_iff] at h)) <;> (try (exfalso; omega))))
  first | refine goC_call [.bm, .r] (hnx) ?_ | refine goOC_call [.bm, .r] (hnx) ?_
  repeat' (first | simp -implicitDefEqProofs (maxSteps := 1000000) (disch := (first | omega | (simp only [go_sem] <;> omega) | fail)) only [go_sem, ints, bools, mat] | ((first | refine goIf_b (fun h => ?_) (fun h => ?_) | refine goG_b (fun h => ?_) (fun h => ?_) | refine goTG_b (fun h => ?_) (fun h => ?_) | refine goOG_b (fun h => ?_) (fun h => ?_)) <;> ((try simp only [Bool.not_eq_true', Bool.not_eq_false'] at h); (try simp only [h]); (try simp only [decide_eq_true_eq, decide_eq_false_iff_not, bne_iff_ne, bne_eq_false_iff_eq, beq_iff_eq, beq_eq_false_iff_ne, ne_eq, Int.not_lt, Int.not_le, Bool.and_eq_true, Bool.and_eq_false_iff, Bool.or_eq_true, Bool.or_eq_false_iff] at h)) <;> (try (exfalso; omega))))
  exact ⟨rfl, rfl⟩
theorem pik_ok {l : List Int} {s : Src} (h : okS l s) (xs : List Int) : okS l (pik l s xs).2 := nxt_ok h _
/-- What a source is. -/
structure SrcH (cd : D) (l : List Int) : Prop where
  hb : IsBts cd l
  hl : l.length < 1048577
theorem d_nxt {cd : D} {l : List Int} (H : SrcH cd l) {s : Src} (hs : okS l s) (q : Int) : Den PA f_spec_l01Next [srcR cd s, .d (di q)] [srcR cd (nxt l s q).2, .any] (.d (di (nxt l s q).1)) := d_spec_l01Next cd l H.hb H.hl s hs q
theorem d_pik {cd : D} {l : List Int} (H : SrcH cd l) {s : Src} (hs : okS l s) (xs : List Int) (h0 : 0 < xs.length) (h1 : xs.length < 1000) : Den PA f_spec_l01Pick [srcR cd s, .d (ints xs)] [srcR cd (pik l s xs).2, .any] (.d (di (pik l s xs).1)) := d_spec_l01Pick cd l H.hb H.hl s hs xs h0 h1
theorem ex_nxt {cd : D} {l : List Int} (H : SrcH cd l) {s : Src} (hs : okS l s) {q : Int} (hq : 1 ≤ q) : ∃ (v : Int) (s' : Src), okS l s' ∧ 0 ≤ v ∧ v < q ∧ Den PA f_spec_l01Next [srcR cd s, .d (di q)] [srcR cd s', .any] (.d (di v)) :=
  ⟨_, _, nxt_ok hs q, (nxt_bnd hq).1, (nxt_bnd hq).2, d_nxt H hs q⟩
theorem ex_pik {cd : D} {l : List Int} (H : SrcH cd l) {s : Src} (hs : okS l s) (xs : List Int) (h0 : 0 < xs.length) (h1 : xs.length < 1000) : ∃ (v : Int) (s' : Src), okS l s' ∧ v ∈ xs ∧ Den PA f_spec_l01Pick [srcR cd s, .d (ints xs)] [srcR cd s', .any] (.d (di v)) :=
  ⟨_, _, pik_ok hs xs, pik_mem h0, d_pik H hs xs h0 h1⟩
theorem ex_near {cd : D} {l : List Int} (H : SrcH cd l) {s : Src} (hs : okS l s) {most : Int} (h0 : 0 ≤ most) (h1 : most < 1000000000000) : ∃ (v : Int) (s' : Src), okS l s' ∧ in64 v ∧ Den PA f_spec_l01Near [srcR cd s, .d (di most)] [srcR cd s', .any] (.d (di v)) := by
  obtain ⟨v0, s0, hs0, a1, a2, d0⟩ := ex_nxt H hs (q := 14) (by omega)
  by_cases hv : v0 = 0
  · subst hv
    obtain ⟨v1, s1, hs1, hm, d1⟩ := ex_pik H hs0 [-1, most + 1, 1099511627776, -4611686018427387904] (by simp) (by simp)
    refine ⟨v1, s1, hs1, ?_, den_go [0] l_spec_l01Near ?_⟩
    · simp only [List.mem_cons, List.mem_nil_iff, or_false] at hm
      unfold in64; omega
    · repeat' (first | simp -implicitDefEqProofs (maxSteps := 1000000) (disch := (first | omega | (simp only [go_sem] <;> omega) | fail)) only [go_sem, ints, bools, mat, c_spec_l01Near, srcR] | ((first | refine goIf_b (fun h => ?_) (fun h => ?_) | refine goG_b (fun h => ?_) (fun h => ?_) | refine goTG_b (fun h => ?_) (fun h => ?_) | refine goOG_b (fun h => ?_) (fun h => ?_)) <;> ((try simp only [Bool.not_eq_true', Bool.not_eq_false'] at h); (try simp only [h]); (try simp only [decide_eq_true_eq, decide_eq_false_iff_not, bne_iff_ne, bne_eq_false_iff_eq, beq_iff_eq, beq_eq_false_iff_ne, ne_eq, Int.not_lt, Int.not_le, Bool.and_eq_true, Bool.and_eq_false_iff, Bool.or_eq_true, Bool.or_eq_false_iff] at h)) <;> (try (exfalso; omega))))
      first | refine goC_call [.bm, .r] (d0) ?_ | refine goOC_call [.bm, .r] (d0) ?_
      repeat' (first | simp -implicitDefEqProofs (maxSteps := 1000000) (disch := (first | omega | (simp only [go_sem] <;> omega) | fail)) only [go_sem, ints, bools, mat] | ((first | refine goIf_b (fun h => ?_) (fun h => ?_) | refine goG_b (fun h => ?_) (fun h => ?_) | refine goTG_b (fun h => ?_) (fun h => ?_) | refine goOG_b (fun h => ?_) (fun h => ?_)) <;> ((try simp only [Bool.not_eq_true', Bool.not_eq_false'] at h); (try simp only [h]); (try simp only [decide_eq_true_eq, decide_eq_false_iff_not, bne_iff_ne, bne_eq_false_iff_eq, beq_iff_eq, beq_eq_false_iff_ne, ne_eq, Int.not_lt, Int.not_le, Bool.and_eq_true, Bool.and_eq_false_iff, Bool.or_eq_true, Bool.or_eq_false_iff] at h)) <;> (try (exfalso; omega))))
      first | refine goC_call [.bm, .f] (d1) ?_ | refine goOC_call [.bm, .f] (d1) ?_
      repeat' (first | simp -implicitDefEqProofs (maxSteps := 1000000) (disch := (first | omega | (simp only [go_sem] <;> omega) | fail)) only [go_sem, ints, bools, mat] | ((first | refine goIf_b (fun h => ?_) (fun h => ?_) | refine goG_b (fun h => ?_) (fun h => ?_) | refine goTG_b (fun h => ?_) (fun h => ?_) | refine goOG_b (fun h => ?_) (fun h => ?_)) <;> ((try simp only [Bool.not_eq_true', Bool.not_eq_false'] at h); (try simp only [h]); (try simp only [decide_eq_true_eq, decide_eq_false_iff_not, bne_iff_ne, bne_eq_false_iff_eq, beq_iff_eq, beq_eq_false_iff_ne, ne_eq, Int.not_lt, Int.not_le, Bool.and_eq_true, Bool.and_eq_false_iff, Bool.or_eq_true, Bool.or_eq_false_iff] at h)) <;> (try (exfalso; omega))))
  · obtain ⟨v1, s1, hs1, b1, b2, d1⟩ := ex_nxt H hs0 (q := most + 1) (by omega)
    refine ⟨v1, s1, hs1, ?_, den_go [0] l_spec_l01Near ?_⟩
    · unfold in64; omega
    · repeat' (first | simp -implicitDefEqProofs (maxSteps := 1000000) (disch := (first | omega | (simp only [go_sem] <;> omega) | fail)) only [go_sem, ints, bools, mat, c_spec_l01Near, srcR] | ((first | refine goIf_b (fun h => ?_) (fun h => ?_) | refine goG_b (fun h => ?_) (fun h => ?_) | refine goTG_b (fun h => ?_) (fun h => ?_) | refine goOG_b (fun h => ?_) (fun h => ?_)) <;> ((try simp only [Bool.not_eq_true', Bool.not_eq_false'] at h); (try simp only [h]); (try simp only [decide_eq_true_eq, decide_eq_false_iff_not, bne_iff_ne, bne_eq_false_iff_eq, beq_iff_eq, beq_eq_false_iff_ne, ne_eq, Int.not_lt, Int.not_le, Bool.and_eq_true, Bool.and_eq_false_iff, Bool.or_eq_true, Bool.or_eq_false_iff] at h)) <;> (try (exfalso; omega))))
      first | refine goC_call [.bm, .r] (d0) ?_ | refine goOC_call [.bm, .r] (d0) ?_
      repeat' (first | simp -implicitDefEqProofs (maxSteps := 1000000) (disch := (first | omega | (simp only [go_sem] <;> omega) | fail)) only [go_sem, ints, bools, mat] | ((first | refine goIf_b (fun h => ?_) (fun h => ?_) | refine goG_b (fun h => ?_) (fun h => ?_) | refine goTG_b (fun h => ?_) (fun h => ?_) | refine goOG_b (fun h => ?_) (fun h => ?_)) <;> ((try simp only [Bool.not_eq_true', Bool.not_eq_false'] at h); (try simp only [h]); (try simp only [decide_eq_true_eq, decide_eq_false_iff_not, bne_iff_ne, bne_eq_false_iff_eq, beq_iff_eq, beq_eq_false_iff_ne, ne_eq, Int.not_lt, Int.not_le, Bool.and_eq_true, Bool.and_eq_false_iff, Bool.or_eq_true, Bool.or_eq_false_iff] at h)) <;> (try (exfalso; omega))))
      first | refine goC_call [.bm, .r] (d1) ?_ | refine goOC_call [.bm, .r] (d1) ?_
      repeat' (first | simp -implicitDefEqProofs (maxSteps := 1000000) (disch := (first | omega | (simp only [go_sem] <;> omega) | fail)) only [go_sem, ints, bools, mat] | ((first | refine goIf_b (fun h => ?_) (fun h => ?_) | refine goG_b (fun h => ?_) (fun h => ?_) | refine goTG_b (fun h => ?_) (fun h => ?_) | refine goOG_b (fun h => ?_) (fun h => ?_)) <;> ((try simp only [Bool.not_eq_true', Bool.not_eq_false'] at h); (try simp only [h]); (try simp only [decide_eq_true_eq, decide_eq_false_iff_not, bne_iff_ne, bne_eq_false_iff_eq, beq_iff_eq, beq_eq_false_iff_ne, ne_eq, Int.not_lt, Int.not_le, Bool.and_eq_true, Bool.and_eq_false_iff, Bool.or_eq_true, Bool.or_eq_false_iff] at h)) <;> (try (exfalso; omega))))
def dwN (l : List Int) (most kind : Int) : Nat → List Int → Src → List Int × Src
  | 0, o, s => (o, s)
  | k + 1, o, s => if most < prodM o * (if kind = 0 then pik l s [2, 2, 3, 4] else (kind, s)).1 then (o, (if kind = 0 then pik l s [2, 2, 3, 4] else (kind, s)).2) else dwN l most kind k (o ++ [(if kind = 0 then pik l s [2, 2, 3, 4] else (kind, s)).1]) (if kind = 0 then pik l s [2, 2, 3, 4] else (kind, s)).2
theorem prodM_snoc (o : List Int) (q : Int) : prodM (o ++ [q]) = prodM o * q := by simp [prodM, List.foldl_append]
/-- A list of sizes, perhaps empty. -/
def szO (o : List Int) : Prop := (∀ i, i < o.length → 2 ≤ o.getD i 0 ∧ o.getD i 0 ≤ 4) ∧ 1 ≤ prodM o ∧ prodM o ≤ 256
theorem szO_snoc {o : List Int} {q : Int} (h : szO o) (hq : 2 ≤ q ∧ q ≤ 4) (hp : prodM o * q ≤ 256) : szO (o ++ [q]) := by
  refine ⟨fun i hi => ?_, ?_, ?_⟩
  · rcases Nat.lt_or_ge i o.length with h1 | h1
    · have := h.1 i h1
      have e : (o ++ [q]).getD i 0 = o.getD i 0 := by simp [List.getD_eq_getElem?_getD, List.getElem?_append_left h1]
      rw [e]; exact this
    · have e1 : i = o.length := by simp at hi; omega
      subst e1
      have e : (o ++ [q]).getD o.length 0 = q := by simp
      rw [e]; exact hq
  · rw [prodM_snoc]
    have h5 : (1 : Int) * 1 ≤ prodM o * q := Int.mul_le_mul h.2.1 (by omega) (by omega) (by have := h.2.1; omega)
    omega
  · rw [prodM_snoc]; exact hp
theorem szO_space {o : List Int} (h : szO o) (h0 : 0 < o.length) (h8 : o.length ≤ 8) : isSpaceM o = true := (isSpaceM_ok o).2 ⟨⟨by omega, h8⟩, h.1, by have := h.2.2; omega⟩
theorem ex_drawOf {cd : D} {l : List Int} (H : SrcH cd l) {s : Src} (hs : okS l s) {most : Int} (h0 : 8 ≤ most) (h1 : most ≤ 256) : ∃ (o : List Int) (s' : Src), okS l s' ∧ isSpaceM o = true ∧ Den PA f_spec_l01DrawOf [srcR cd s, .d (di most)] [srcR cd s', .any] (.agg [.own 1 (o.map di)]) := by
  obtain ⟨kind, s1, hs1, hk, d1⟩ := ex_pik H hs [0, 2, 2, 3, 3] (by simp) (by simp)
  obtain ⟨n, s2, hs2, n1, n2, d2⟩ := ex_nxt H hs1 (q := 8) (by omega)
  have hkind : 0 ≤ kind ∧ kind ≤ 3 ∧ kind ≠ 1 := by
    simp only [List.mem_cons, List.mem_nil_iff, or_false] at hk; omega
  have key : ∀ (k : Nat) (o : List Int) (s : Src), szO o → okS l s → o.length + k ≤ 8 → szO (dwN l most kind k o s).1 ∧ okS l (dwN l most kind k o s).2 ∧ (dwN l most kind k o s).1.length ≤ 8 := by
    intro k
    induction k with
    | zero => intro o s a b c; exact ⟨a, b, by simp only [dwN]; omega⟩
    | succ k ih =>
      intro o s a b c
      have hr : 2 ≤ (if kind = 0 then pik l s [2, 2, 3, 4] else (kind, s)).1 ∧ (if kind = 0 then pik l s [2, 2, 3, 4] else (kind, s)).1 ≤ 4 ∧ okS l (if kind = 0 then pik l s [2, 2, 3, 4] else (kind, s)).2 := by
        by_cases e : kind = 0
        · rw [if_pos e]
          have hm := pik_mem (l := l) (s := s) (xs := [2, 2, 3, 4]) (by simp)
          simp only [List.mem_cons, List.mem_nil_iff, or_false] at hm
          exact ⟨by omega, by omega, pik_ok b _⟩
        · rw [if_neg e]; exact ⟨by dsimp only; omega, by dsimp only; omega, b⟩
      rw [dwN]
      generalize (if kind = 0 then pik l s [2, 2, 3, 4] else (kind, s)) = r at *
      by_cases hm : most < prodM o * r.1
      · rw [if_pos hm]
        exact ⟨a, hr.2.2, by dsimp only; omega⟩
      · rw [if_neg hm]
        exact ih _ _ (szO_snoc a ⟨hr.1, hr.2.1⟩ (by omega)) hr.2.2 (by simp; omega)
  have hz0 : szO [] := ⟨fun i hi => by simp at hi, by decide, by decide⟩
  have hfin := key (1 + n).toNat [] s2 hz0 hs2 (by simp; omega)
  obtain ⟨X, hX⟩ : ∃ X, X = dwN l most kind (1 + n).toNat [] s2 := ⟨_, rfl⟩
  rw [← hX] at hfin
  refine ⟨if X.1.length = 0 then [2] else X.1, X.2, hfin.2.1, ?_, den_go [0] l_spec_l01DrawOf ?_⟩
  · split
    · decide
    · exact szO_space hfin.1 (by omega) hfin.2.2
  · repeat' (first | simp -implicitDefEqProofs (maxSteps := 1000000) (disch := (first | omega | (simp only [go_sem] <;> omega) | fail)) only [go_sem, ints, bools, mat, c_spec_l01DrawOf, srcR] | ((first | refine goIf_b (fun h => ?_) (fun h => ?_) | refine goG_b (fun h => ?_) (fun h => ?_) | refine goTG_b (fun h => ?_) (fun h => ?_) | refine goOG_b (fun h => ?_) (fun h => ?_)) <;> ((try simp only [Bool.not_eq_true', Bool.not_eq_false'] at h); (try simp only [h]); (try simp only [decide_eq_true_eq, decide_eq_false_iff_not, bne_iff_ne, bne_eq_false_iff_eq, beq_iff_eq, beq_eq_false_iff_ne, ne_eq, Int.not_lt, Int.not_le, Bool.and_eq_true, Bool.and_eq_false_iff, Bool.or_eq_true, Bool.or_eq_false_iff] at h)) <;> (try (exfalso; omega))))
    first | refine goC_call [.bm, .f] (d1) ?_ | refine goOC_call [.bm, .f] (d1) ?_
    repeat' (first | simp -implicitDefEqProofs (maxSteps := 1000000) (disch := (first | omega | (simp only [go_sem] <;> omega) | fail)) only [go_sem, ints, bools, mat] | ((first | refine goIf_b (fun h => ?_) (fun h => ?_) | refine goG_b (fun h => ?_) (fun h => ?_) | refine goTG_b (fun h => ?_) (fun h => ?_) | refine goOG_b (fun h => ?_) (fun h => ?_)) <;> ((try simp only [Bool.not_eq_true', Bool.not_eq_false'] at h); (try simp only [h]); (try simp only [decide_eq_true_eq, decide_eq_false_iff_not, bne_iff_ne, bne_eq_false_iff_eq, beq_iff_eq, beq_eq_false_iff_ne, ne_eq, Int.not_lt, Int.not_le, Bool.and_eq_true, Bool.and_eq_false_iff, Bool.or_eq_true, Bool.or_eq_false_iff] at h)) <;> (try (exfalso; omega))))
    first | refine goC_call [.bm, .r] (d2) ?_ | refine goOC_call [.bm, .r] (d2) ?_
    repeat' (first | simp -implicitDefEqProofs (maxSteps := 1000000) (disch := (first | omega | (simp only [go_sem] <;> omega) | fail)) only [go_sem, ints, bools, mat] | ((first | refine goIf_b (fun h => ?_) (fun h => ?_) | refine goG_b (fun h => ?_) (fun h => ?_) | refine goTG_b (fun h => ?_) (fun h => ?_) | refine goOG_b (fun h => ?_) (fun h => ?_)) <;> ((try simp only [Bool.not_eq_true', Bool.not_eq_false'] at h); (try simp only [h]); (try simp only [decide_eq_true_eq, decide_eq_false_iff_not, bne_iff_ne, bne_eq_false_iff_eq, beq_iff_eq, beq_eq_false_iff_ne, ne_eq, Int.not_lt, Int.not_le, Bool.and_eq_true, Bool.and_eq_false_iff, Bool.or_eq_true, Bool.or_eq_false_iff] at h)) <;> (try (exfalso; omega))))
    refine go_loop (fun (p : Nat × List Int × Src) => ⟨[(0, .ref 0 0), (1, .d (di most)), (4, .ref 1 0), (5, .ref 2 0), (6, .d (di kind)), (7, .d (di p.1)), (49, .ref 0 0)], [some (.var [cd, di p.2.2.1, du p.2.2.2]), some (.var [D.v (.slice none 0 0)]), some (.mix [.sl 3 0 p.2.1.length 1]), some (.dat 1 (p.2.1.map di))]⟩) (fun p => dwN l most kind p.1 p.2.1 p.2.2 = X ∧ szO p.2.1 ∧ okS l p.2.2 ∧ p.2.1.length + p.1 ≤ 8) (fun p => p.1) ((1 + n).toNat, [], s2) ?_ ?_ ?_
    · simp -implicitDefEqProofs (maxSteps := 1000000) (disch := (first | omega | (simp only [go_sem] <;> omega) | fail)) only [go_sem, ints, bools, mat]
      have e : ((1 + n).toNat : Int) = 1 + n := by omega
      rw [e]
    · exact ⟨hX.symm, hz0, hs2, by dsimp only; simp only [List.length_nil]; omega⟩
    · rintro ⟨k, o, s⟩ ⟨g1, g2, g3, g4⟩ J hJ
      dsimp only at g1 g2 g3 g4 ⊢
      have hn := d_spec_l01N o (by omega) g2.1
      have hp := g2.2
      rcases k with _ | k
      · have e : X = (o, s) := by rw [← g1]; rfl
        rw [e]
        by_cases ho : o.length = 0
        · have e2 : o = [] := List.eq_nil_of_length_eq_zero ho
          subst e2
          repeat' (first | simp -implicitDefEqProofs (maxSteps := 1000000) (disch := (first | omega | (simp only [go_sem] <;> omega) | fail)) only [go_sem, ints, bools, mat] | ((first | refine goIf_b (fun h => ?_) (fun h => ?_) | refine goG_b (fun h => ?_) (fun h => ?_) | refine goTG_b (fun h => ?_) (fun h => ?_) | refine goOG_b (fun h => ?_) (fun h => ?_)) <;> ((try simp only [Bool.not_eq_true', Bool.not_eq_false'] at h); (try simp only [h]); (try simp only [decide_eq_true_eq, decide_eq_false_iff_not, bne_iff_ne, bne_eq_false_iff_eq, beq_iff_eq, beq_eq_false_iff_ne, ne_eq, Int.not_lt, Int.not_le, Bool.and_eq_true, Bool.and_eq_false_iff, Bool.or_eq_true, Bool.or_eq_false_iff] at h)) <;> (try (exfalso; omega))))
        · rw [if_neg ho]
          repeat' (first | simp -implicitDefEqProofs (maxSteps := 1000000) (disch := (first | omega | (simp only [go_sem] <;> omega) | fail)) only [go_sem, ints, bools, mat] | ((first | refine goIf_b (fun h => ?_) (fun h => ?_) | refine goG_b (fun h => ?_) (fun h => ?_) | refine goTG_b (fun h => ?_) (fun h => ?_) | refine goOG_b (fun h => ?_) (fun h => ?_)) <;> ((try simp only [Bool.not_eq_true', Bool.not_eq_false'] at h); (try simp only [h]); (try simp only [decide_eq_true_eq, decide_eq_false_iff_not, bne_iff_ne, bne_eq_false_iff_eq, beq_iff_eq, beq_eq_false_iff_ne, ne_eq, Int.not_lt, Int.not_le, Bool.and_eq_true, Bool.and_eq_false_iff, Bool.or_eq_true, Bool.or_eq_false_iff] at h)) <;> (try (exfalso; omega))))
      · rw [dwN] at g1
        by_cases hk0 : kind = 0
        · obtain ⟨q, s3, hs3, hq, d3⟩ : ∃ (q : Int) (s3 : Src), okS l s3 ∧ (q = (pik l s [2, 2, 3, 4]).1 ∧ s3 = (pik l s [2, 2, 3, 4]).2) ∧ Den PA f_spec_l01Pick [srcR cd s, .d (ints [2, 2, 3, 4])] [srcR cd s3, .any] (.d (di q)) := ⟨_, _, pik_ok g3 _, ⟨rfl, rfl⟩, d_pik H g3 [2, 2, 3, 4] (by simp) (by simp)⟩
          have hm := pik_mem (l := l) (s := s) (xs := [2, 2, 3, 4]) (by simp)
          simp only [List.mem_cons, List.mem_nil_iff, or_false] at hm
          rw [← hq.1] at hm
          simp only [if_pos hk0] at g1
          rw [← hq.1, ← hq.2] at g1
          repeat' (first | simp -implicitDefEqProofs (maxSteps := 1000000) (disch := (first | omega | (simp only [go_sem] <;> omega) | fail)) only [go_sem, ints, bools, mat] | ((first | refine goIf_b (fun h => ?_) (fun h => ?_) | refine goG_b (fun h => ?_) (fun h => ?_) | refine goTG_b (fun h => ?_) (fun h => ?_) | refine goOG_b (fun h => ?_) (fun h => ?_)) <;> ((try simp only [Bool.not_eq_true', Bool.not_eq_false'] at h); (try simp only [h]); (try simp only [decide_eq_true_eq, decide_eq_false_iff_not, bne_iff_ne, bne_eq_false_iff_eq, beq_iff_eq, beq_eq_false_iff_ne, ne_eq, Int.not_lt, Int.not_le, Bool.and_eq_true, Bool.and_eq_false_iff, Bool.or_eq_true, Bool.or_eq_false_iff] at h)) <;> (try (exfalso; omega))))
          first | refine goC_call [.bm, .f] (d3) ?_ | refine goOC_call [.bm, .f] (d3) ?_
          repeat' (first | simp -implicitDefEqProofs (maxSteps := 1000000) (disch := (first | omega | (simp only [go_sem] <;> omega) | fail)) only [go_sem, ints, bools, mat] | ((first | refine goIf_b (fun h => ?_) (fun h => ?_) | refine goG_b (fun h => ?_) (fun h => ?_) | refine goTG_b (fun h => ?_) (fun h => ?_) | refine goOG_b (fun h => ?_) (fun h => ?_)) <;> ((try simp only [Bool.not_eq_true', Bool.not_eq_false'] at h); (try simp only [h]); (try simp only [decide_eq_true_eq, decide_eq_false_iff_not, bne_iff_ne, bne_eq_false_iff_eq, beq_iff_eq, beq_eq_false_iff_ne, ne_eq, Int.not_lt, Int.not_le, Bool.and_eq_true, Bool.and_eq_false_iff, Bool.or_eq_true, Bool.or_eq_false_iff] at h)) <;> (try (exfalso; omega))))
          first | refine goC_call [.r] (hn) ?_ | refine goOC_call [.r] (hn) ?_
          have hpq : 0 ≤ prodM o * q ∧ prodM o * q ≤ 256 * 4 := ⟨Int.mul_nonneg (by omega) (by omega), Int.mul_le_mul (by omega) (by omega) (by omega) (by omega)⟩
          repeat' (first | simp -implicitDefEqProofs (maxSteps := 1000000) (disch := (first | omega | (simp only [go_sem] <;> omega) | fail)) only [go_sem, ints, bools, mat] | ((first | refine goIf_b (fun h => ?_) (fun h => ?_) | refine goG_b (fun h => ?_) (fun h => ?_) | refine goTG_b (fun h => ?_) (fun h => ?_) | refine goOG_b (fun h => ?_) (fun h => ?_)) <;> ((try simp only [Bool.not_eq_true', Bool.not_eq_false'] at h); (try simp only [h]); (try simp only [decide_eq_true_eq, decide_eq_false_iff_not, bne_iff_ne, bne_eq_false_iff_eq, beq_iff_eq, beq_eq_false_iff_ne, ne_eq, Int.not_lt, Int.not_le, Bool.and_eq_true, Bool.and_eq_false_iff, Bool.or_eq_true, Bool.or_eq_false_iff] at h)) <;> (try (exfalso; omega))))
          · rw [if_pos (by assumption)] at g1
            rw [← g1]
            have e2 : o = [] := List.eq_nil_of_length_eq_zero (by omega)
            subst e2
            exact ⟨rfl, rfl⟩
          · rw [if_pos (by assumption)] at g1
            rw [← g1]
            dsimp only
            rw [if_neg (show ¬ o.length = 0 by omega)]
            exact ⟨rfl, rfl⟩
          · rw [if_neg (by omega)] at g1
            refine hJ (k, o ++ [q], s3) ⟨g1, szO_snoc g2 (by omega) (by omega), hs3, by dsimp only; simp; omega⟩ (by dsimp only; omega) _ ?_
            simp -implicitDefEqProofs (maxSteps := 1000000) (disch := (first | omega | (simp only [go_sem] <;> omega) | fail)) only [go_sem, ints, bools, mat]
        · simp only [if_neg hk0] at g1
          have hpq : 0 ≤ prodM o * kind ∧ prodM o * kind ≤ 256 * 4 := ⟨Int.mul_nonneg (by omega) (by omega), Int.mul_le_mul (by omega) (by omega) (by omega) (by omega)⟩
          repeat' (first | simp -implicitDefEqProofs (maxSteps := 1000000) (disch := (first | omega | (simp only [go_sem] <;> omega) | fail)) only [go_sem, ints, bools, mat] | ((first | refine goIf_b (fun h => ?_) (fun h => ?_) | refine goG_b (fun h => ?_) (fun h => ?_) | refine goTG_b (fun h => ?_) (fun h => ?_) | refine goOG_b (fun h => ?_) (fun h => ?_)) <;> ((try simp only [Bool.not_eq_true', Bool.not_eq_false'] at h); (try simp only [h]); (try simp only [decide_eq_true_eq, decide_eq_false_iff_not, bne_iff_ne, bne_eq_false_iff_eq, beq_iff_eq, beq_eq_false_iff_ne, ne_eq, Int.not_lt, Int.not_le, Bool.and_eq_true, Bool.and_eq_false_iff, Bool.or_eq_true, Bool.or_eq_false_iff] at h)) <;> (try (exfalso; omega))))
          first | refine goC_call [.r] (hn) ?_ | refine goOC_call [.r] (hn) ?_
          repeat' (first | simp -implicitDefEqProofs (maxSteps := 1000000) (disch := (first | omega | (simp only [go_sem] <;> omega) | fail)) only [go_sem, ints, bools, mat] | ((first | refine goIf_b (fun h => ?_) (fun h => ?_) | refine goG_b (fun h => ?_) (fun h => ?_) | refine goTG_b (fun h => ?_) (fun h => ?_) | refine goOG_b (fun h => ?_) (fun h => ?_)) <;> ((try simp only [Bool.not_eq_true', Bool.not_eq_false'] at h); (try simp only [h]); (try simp only [decide_eq_true_eq, decide_eq_false_iff_not, bne_iff_ne, bne_eq_false_iff_eq, beq_iff_eq, beq_eq_false_iff_ne, ne_eq, Int.not_lt, Int.not_le, Bool.and_eq_true, Bool.and_eq_false_iff, Bool.or_eq_true, Bool.or_eq_false_iff] at h)) <;> (try (exfalso; omega))))
          · rw [if_pos (by assumption)] at g1
            rw [← g1]
            have e2 : o = [] := List.eq_nil_of_length_eq_zero (by omega)
            subst e2
            exact ⟨rfl, rfl⟩
          · rw [if_pos (by assumption)] at g1
            rw [← g1]
            dsimp only
            rw [if_neg (show ¬ o.length = 0 by omega)]
            exact ⟨rfl, rfl⟩
          · rw [if_neg (by omega)] at g1
            refine hJ (k, o ++ [kind], s) ⟨g1, szO_snoc g2 (by omega) (by omega), g3, by dsimp only; simp; omega⟩ (by dsimp only; omega) _ ?_
            simp -implicitDefEqProofs (maxSteps := 1000000) (disch := (first | omega | (simp only [go_sem] <;> omega) | fail)) only [go_sem, ints, bools, mat]
def hsh (l : List Int) : Nat → Int
  | 0 => 14111 + (l.length : Int)
  | i + 1 => IntKind.wrap .u64 (IntKind.wrap .u64 (IntKind.wrap .u64 (hsh l i * 1099511628211) + l.getD i 0) + 251)
theorem hsh_bnd {l : List Int} (h : l.length < 1048577) : ∀ i, 0 ≤ hsh l i ∧ hsh l i < 18446744073709551616
  | 0 => by simp only [hsh]; omega
  | _ + 1 => wrapU_bnd _
theorem ex_from {cd : D} {l : List Int} (H : SrcH cd l) : ∃ s' : Src, okS l s' ∧ Den PA f_spec_l01From [.d cd] [.any] (srcR cd s') := by
  have hl := H.hl
  refine ⟨(0, hsh l (min l.length 4096)), ⟨Nat.zero_le _, hsh_bnd hl _⟩, den_go [] l_spec_l01From ?_⟩
  rcases H.hb with ⟨rfl, hby⟩ | ⟨rfl, rfl⟩
  · repeat' (first | simp -implicitDefEqProofs (maxSteps := 1000000) (disch := (first | omega | (simp only [go_sem] <;> omega) | fail)) only [go_sem, ints, bools, mat, c_spec_l01From, srcR] | ((first | refine goIf_b (fun h => ?_) (fun h => ?_) | refine goG_b (fun h => ?_) (fun h => ?_) | refine goTG_b (fun h => ?_) (fun h => ?_) | refine goOG_b (fun h => ?_) (fun h => ?_)) <;> ((try simp only [Bool.not_eq_true', Bool.not_eq_false'] at h); (try simp only [h]); (try simp only [decide_eq_true_eq, decide_eq_false_iff_not, bne_iff_ne, bne_eq_false_iff_eq, beq_iff_eq, beq_eq_false_iff_ne, ne_eq, Int.not_lt, Int.not_le, Bool.and_eq_true, Bool.and_eq_false_iff, Bool.or_eq_true, Bool.or_eq_false_iff] at h)) <;> (try (exfalso; omega))))
    refine go_loop (fun (i : Nat) => ⟨[(0, .d (.lst 1 (l.map dy))), (3, .ref 0 0), (4, .d (di i))], [some (.var [.lst 1 (l.map dy), di 0, du (hsh l i)])]⟩) (fun i => i ≤ min l.length 4096) (fun i => min l.length 4096 - i) 0 ?_ ?_ ?_
    · (simp -implicitDefEqProofs (maxSteps := 1000000) (disch := (first | omega | (simp only [go_sem] <;> omega) | fail)) only [go_sem, ints, bools, mat] <;> rfl)
    · exact Nat.zero_le _
    · rintro i hi J hJ
      have hb := hsh_bnd hl i
      by_cases hil : i < min l.length 4096
      · have hbi := hby _ (mem_getD (show i < l.length by omega))
        repeat' (first | simp -implicitDefEqProofs (maxSteps := 1000000) (disch := (first | omega | (simp only [go_sem] <;> omega) | fail)) only [go_sem, ints, bools, mat] | ((first | refine goIf_b (fun h => ?_) (fun h => ?_) | refine goG_b (fun h => ?_) (fun h => ?_) | refine goTG_b (fun h => ?_) (fun h => ?_) | refine goOG_b (fun h => ?_) (fun h => ?_)) <;> ((try simp only [Bool.not_eq_true', Bool.not_eq_false'] at h); (try simp only [h]); (try simp only [decide_eq_true_eq, decide_eq_false_iff_not, bne_iff_ne, bne_eq_false_iff_eq, beq_iff_eq, beq_eq_false_iff_ne, ne_eq, Int.not_lt, Int.not_le, Bool.and_eq_true, Bool.and_eq_false_iff, Bool.or_eq_true, Bool.or_eq_false_iff] at h)) <;> (try (exfalso; omega))))
        refine hJ (i + 1) (by omega) (by omega) _ (by (simp -implicitDefEqProofs (maxSteps := 1000000) (disch := (first | omega | (simp only [go_sem] <;> omega) | fail)) only [go_sem, ints, bools, mat] <;> rfl))
      · have e : i = min l.length 4096 := by omega
        by_cases h4 : l.length ≤ 4096
        · repeat' (first | simp -implicitDefEqProofs (maxSteps := 1000000) (disch := (first | omega | (simp only [go_sem] <;> omega) | fail)) only [go_sem, ints, bools, mat] | ((first | refine goIf_b (fun h => ?_) (fun h => ?_) | refine goG_b (fun h => ?_) (fun h => ?_) | refine goTG_b (fun h => ?_) (fun h => ?_) | refine goOG_b (fun h => ?_) (fun h => ?_)) <;> ((try simp only [Bool.not_eq_true', Bool.not_eq_false'] at h); (try simp only [h]); (try simp only [decide_eq_true_eq, decide_eq_false_iff_not, bne_iff_ne, bne_eq_false_iff_eq, beq_iff_eq, beq_eq_false_iff_ne, ne_eq, Int.not_lt, Int.not_le, Bool.and_eq_true, Bool.and_eq_false_iff, Bool.or_eq_true, Bool.or_eq_false_iff] at h)) <;> (try (exfalso; omega))))
          rw [← e]
        · repeat' (first | simp -implicitDefEqProofs (maxSteps := 1000000) (disch := (first | omega | (simp only [go_sem] <;> omega) | fail)) only [go_sem, ints, bools, mat] | ((first | refine goIf_b (fun h => ?_) (fun h => ?_) | refine goG_b (fun h => ?_) (fun h => ?_) | refine goTG_b (fun h => ?_) (fun h => ?_) | refine goOG_b (fun h => ?_) (fun h => ?_)) <;> ((try simp only [Bool.not_eq_true', Bool.not_eq_false'] at h); (try simp only [h]); (try simp only [decide_eq_true_eq, decide_eq_false_iff_not, bne_iff_ne, bne_eq_false_iff_eq, beq_iff_eq, beq_eq_false_iff_ne, ne_eq, Int.not_lt, Int.not_le, Bool.and_eq_true, Bool.and_eq_false_iff, Bool.or_eq_true, Bool.or_eq_false_iff] at h)) <;> (try (exfalso; omega))))
          rw [← e]
  · repeat' (first | simp -implicitDefEqProofs (maxSteps := 1000000) (disch := (first | omega | (simp only [go_sem] <;> omega) | fail)) only [go_sem, ints, bools, mat, c_spec_l01From, srcR] | ((first | refine goIf_b (fun h => ?_) (fun h => ?_) | refine goG_b (fun h => ?_) (fun h => ?_) | refine goTG_b (fun h => ?_) (fun h => ?_) | refine goOG_b (fun h => ?_) (fun h => ?_)) <;> ((try simp only [Bool.not_eq_true', Bool.not_eq_false'] at h); (try simp only [h]); (try simp only [decide_eq_true_eq, decide_eq_false_iff_not, bne_iff_ne, bne_eq_false_iff_eq, beq_iff_eq, beq_eq_false_iff_ne, ne_eq, Int.not_lt, Int.not_le, Bool.and_eq_true, Bool.and_eq_false_iff, Bool.or_eq_true, Bool.or_eq_false_iff] at h)) <;> (try (exfalso; omega))))
    refine go_loop (fun (_ : Unit) => ⟨[(0, .d (.v (.slice none 0 0))), (3, .ref 0 0), (4, .d (di 0))], [some (.var [.v (.slice none 0 0), di 0, du (hsh [] 0)])]⟩) (fun _ => True) (fun _ => 0) () ?_ trivial ?_
    · (simp -implicitDefEqProofs (maxSteps := 1000000) (disch := (first | omega | (simp only [go_sem] <;> omega) | fail)) only [go_sem, ints, bools, mat] <;> rfl)
    · intro _ _ J _
      repeat' (first | simp -implicitDefEqProofs (maxSteps := 1000000) (disch := (first | omega | (simp only [go_sem] <;> omega) | fail)) only [go_sem, ints, bools, mat] | ((first | refine goIf_b (fun h => ?_) (fun h => ?_) | refine goG_b (fun h => ?_) (fun h => ?_) | refine goTG_b (fun h => ?_) (fun h => ?_) | refine goOG_b (fun h => ?_) (fun h => ?_)) <;> ((try simp only [Bool.not_eq_true', Bool.not_eq_false'] at h); (try simp only [h]); (try simp only [decide_eq_true_eq, decide_eq_false_iff_not, bne_iff_ne, bne_eq_false_iff_eq, beq_iff_eq, beq_eq_false_iff_ne, ne_eq, Int.not_lt, Int.not_le, Bool.and_eq_true, Bool.and_eq_false_iff, Bool.or_eq_true, Bool.or_eq_false_iff] at h)) <;> (try (exfalso; omega))))
      rfl
/-- What a drawn list is. -/
def drL (X : D) (o : List Int) : Prop := IsInts X o ∧ o.length < 1048577 ∧ ∀ n, n ∈ o → in64 n
theorem ex_bad {cd : D} {l : List Int} (H : SrcH cd l) {s : Src} (hs : okS l s) {x : List Int} (hx : isSpaceM x = true) : ∃ (X : D) (o : List Int) (s' : Src), okS l s' ∧ drL X o ∧ Den PA f_spec_l01Bad [srcR cd s, .d (.agg [ints x])] [srcR cd s', .any] (.d (.agg [X])) := by
  have hn := isSpaceM_n hx
  have hq := isSpaceM_q hx
  have hin : ∀ n, n ∈ x → in64 n := fun n h => by
    obtain ⟨i, hi, rfl⟩ := List.mem_iff_getElem.1 h
    have := hq i hi
    simp [hi] at this
    unfold in64; omega
  obtain ⟨v, s1, hs1, v1, v2, d1⟩ := ex_nxt H hs (q := 50) (by omega)
  by_cases h0 : v = 0
  · subst h0
    refine ⟨nil, [], s1, hs1, ⟨.inr ⟨rfl, rfl⟩, by simp, by simp⟩, den_go [0] l_spec_l01Bad ?_⟩
    repeat' (first | simp -implicitDefEqProofs (maxSteps := 1000000) (disch := (first | omega | (simp only [go_sem] <;> omega) | fail)) only [go_sem, ints, bools, mat, c_spec_l01Bad, srcR] | ((first | refine goIf_b (fun h => ?_) (fun h => ?_) | refine goG_b (fun h => ?_) (fun h => ?_) | refine goTG_b (fun h => ?_) (fun h => ?_) | refine goOG_b (fun h => ?_) (fun h => ?_)) <;> ((try simp only [Bool.not_eq_true', Bool.not_eq_false'] at h); (try simp only [h]); (try simp only [decide_eq_true_eq, decide_eq_false_iff_not, bne_iff_ne, bne_eq_false_iff_eq, beq_iff_eq, beq_eq_false_iff_ne, ne_eq, Int.not_lt, Int.not_le, Bool.and_eq_true, Bool.and_eq_false_iff, Bool.or_eq_true, Bool.or_eq_false_iff] at h)) <;> (try (exfalso; omega))))
    first | refine goC_call [.r] (d_spec_l01Own x (by omega)) ?_ | refine goOC_call [.r] (d_spec_l01Own x (by omega)) ?_
    repeat' (first | simp -implicitDefEqProofs (maxSteps := 1000000) (disch := (first | omega | (simp only [go_sem] <;> omega) | fail)) only [go_sem, ints, bools, mat] | ((first | refine goIf_b (fun h => ?_) (fun h => ?_) | refine goG_b (fun h => ?_) (fun h => ?_) | refine goTG_b (fun h => ?_) (fun h => ?_) | refine goOG_b (fun h => ?_) (fun h => ?_)) <;> ((try simp only [Bool.not_eq_true', Bool.not_eq_false'] at h); (try simp only [h]); (try simp only [decide_eq_true_eq, decide_eq_false_iff_not, bne_iff_ne, bne_eq_false_iff_eq, beq_iff_eq, beq_eq_false_iff_ne, ne_eq, Int.not_lt, Int.not_le, Bool.and_eq_true, Bool.and_eq_false_iff, Bool.or_eq_true, Bool.or_eq_false_iff] at h)) <;> (try (exfalso; omega))))
    first | refine goC_call [.bm, .r] (d1) ?_ | refine goOC_call [.bm, .r] (d1) ?_
    repeat' (first | simp -implicitDefEqProofs (maxSteps := 1000000) (disch := (first | omega | (simp only [go_sem] <;> omega) | fail)) only [go_sem, ints, bools, mat] | ((first | refine goIf_b (fun h => ?_) (fun h => ?_) | refine goG_b (fun h => ?_) (fun h => ?_) | refine goTG_b (fun h => ?_) (fun h => ?_) | refine goOG_b (fun h => ?_) (fun h => ?_)) <;> ((try simp only [Bool.not_eq_true', Bool.not_eq_false'] at h); (try simp only [h]); (try simp only [decide_eq_true_eq, decide_eq_false_iff_not, bne_iff_ne, bne_eq_false_iff_eq, beq_iff_eq, beq_eq_false_iff_ne, ne_eq, Int.not_lt, Int.not_le, Bool.and_eq_true, Bool.and_eq_false_iff, Bool.or_eq_true, Bool.or_eq_false_iff] at h)) <;> (try (exfalso; omega))))
  · by_cases h1 : v = 1
    · subst h1
      obtain ⟨i, s2, hs2, i1, i2, d2⟩ := ex_nxt H hs1 (q := (x.length : Int)) (by omega)
      obtain ⟨w, s3, hs3, hw, d3⟩ := ex_pik H hs2 [1, 5, 0, -1, 1099511627776] (by simp) (by simp)
      refine ⟨ints (x.set i.toNat w), x.set i.toNat w, s3, hs3, ⟨.inl rfl, by simp; omega, fun n h => ?_⟩, den_go [0] l_spec_l01Bad ?_⟩
      · rcases List.mem_or_eq_of_mem_set h with h | rfl
        · exact hin n h
        · simp only [List.mem_cons, List.mem_nil_iff, or_false] at hw
          unfold in64; omega
      · repeat' (first | simp -implicitDefEqProofs (maxSteps := 1000000) (disch := (first | omega | (simp only [go_sem] <;> omega) | fail)) only [go_sem, ints, bools, mat, c_spec_l01Bad, srcR] | ((first | refine goIf_b (fun h => ?_) (fun h => ?_) | refine goG_b (fun h => ?_) (fun h => ?_) | refine goTG_b (fun h => ?_) (fun h => ?_) | refine goOG_b (fun h => ?_) (fun h => ?_)) <;> ((try simp only [Bool.not_eq_true', Bool.not_eq_false'] at h); (try simp only [h]); (try simp only [decide_eq_true_eq, decide_eq_false_iff_not, bne_iff_ne, bne_eq_false_iff_eq, beq_iff_eq, beq_eq_false_iff_ne, ne_eq, Int.not_lt, Int.not_le, Bool.and_eq_true, Bool.and_eq_false_iff, Bool.or_eq_true, Bool.or_eq_false_iff] at h)) <;> (try (exfalso; omega))))
        first | refine goC_call [.r] (d_spec_l01Own x (by omega)) ?_ | refine goOC_call [.r] (d_spec_l01Own x (by omega)) ?_
        repeat' (first | simp -implicitDefEqProofs (maxSteps := 1000000) (disch := (first | omega | (simp only [go_sem] <;> omega) | fail)) only [go_sem, ints, bools, mat] | ((first | refine goIf_b (fun h => ?_) (fun h => ?_) | refine goG_b (fun h => ?_) (fun h => ?_) | refine goTG_b (fun h => ?_) (fun h => ?_) | refine goOG_b (fun h => ?_) (fun h => ?_)) <;> ((try simp only [Bool.not_eq_true', Bool.not_eq_false'] at h); (try simp only [h]); (try simp only [decide_eq_true_eq, decide_eq_false_iff_not, bne_iff_ne, bne_eq_false_iff_eq, beq_iff_eq, beq_eq_false_iff_ne, ne_eq, Int.not_lt, Int.not_le, Bool.and_eq_true, Bool.and_eq_false_iff, Bool.or_eq_true, Bool.or_eq_false_iff] at h)) <;> (try (exfalso; omega))))
        first | refine goC_call [.bm, .r] (d1) ?_ | refine goOC_call [.bm, .r] (d1) ?_
        repeat' (first | simp -implicitDefEqProofs (maxSteps := 1000000) (disch := (first | omega | (simp only [go_sem] <;> omega) | fail)) only [go_sem, ints, bools, mat] | ((first | refine goIf_b (fun h => ?_) (fun h => ?_) | refine goG_b (fun h => ?_) (fun h => ?_) | refine goTG_b (fun h => ?_) (fun h => ?_) | refine goOG_b (fun h => ?_) (fun h => ?_)) <;> ((try simp only [Bool.not_eq_true', Bool.not_eq_false'] at h); (try simp only [h]); (try simp only [decide_eq_true_eq, decide_eq_false_iff_not, bne_iff_ne, bne_eq_false_iff_eq, beq_iff_eq, beq_eq_false_iff_ne, ne_eq, Int.not_lt, Int.not_le, Bool.and_eq_true, Bool.and_eq_false_iff, Bool.or_eq_true, Bool.or_eq_false_iff] at h)) <;> (try (exfalso; omega))))
        rw [goS_two]
        refine ⟨?_, ?_⟩
        · repeat' (first | simp -implicitDefEqProofs (maxSteps := 1000000) (disch := (first | omega | (simp only [go_sem] <;> omega) | fail)) only [go_sem, ints, bools, mat] | ((first | refine goIf_b (fun h => ?_) (fun h => ?_) | refine goG_b (fun h => ?_) (fun h => ?_) | refine goTG_b (fun h => ?_) (fun h => ?_) | refine goOG_b (fun h => ?_) (fun h => ?_)) <;> ((try simp only [Bool.not_eq_true', Bool.not_eq_false'] at h); (try simp only [h]); (try simp only [decide_eq_true_eq, decide_eq_false_iff_not, bne_iff_ne, bne_eq_false_iff_eq, beq_iff_eq, beq_eq_false_iff_ne, ne_eq, Int.not_lt, Int.not_le, Bool.and_eq_true, Bool.and_eq_false_iff, Bool.or_eq_true, Bool.or_eq_false_iff] at h)) <;> (try (exfalso; omega))))
          first | refine goC_call [.bm, .r] (d2) ?_ | refine goOC_call [.bm, .r] (d2) ?_
          repeat' (first | simp -implicitDefEqProofs (maxSteps := 1000000) (disch := (first | omega | (simp only [go_sem] <;> omega) | fail)) only [go_sem, ints, bools, mat] | ((first | refine goIf_b (fun h => ?_) (fun h => ?_) | refine goG_b (fun h => ?_) (fun h => ?_) | refine goTG_b (fun h => ?_) (fun h => ?_) | refine goOG_b (fun h => ?_) (fun h => ?_)) <;> ((try simp only [Bool.not_eq_true', Bool.not_eq_false'] at h); (try simp only [h]); (try simp only [decide_eq_true_eq, decide_eq_false_iff_not, bne_iff_ne, bne_eq_false_iff_eq, beq_iff_eq, beq_eq_false_iff_ne, ne_eq, Int.not_lt, Int.not_le, Bool.and_eq_true, Bool.and_eq_false_iff, Bool.or_eq_true, Bool.or_eq_false_iff] at h)) <;> (try (exfalso; omega))))
          first | refine goC_call [.bm, .f] (d3) ?_ | refine goOC_call [.bm, .f] (d3) ?_
          repeat' (first | simp -implicitDefEqProofs (maxSteps := 1000000) (disch := (first | omega | (simp only [go_sem] <;> omega) | fail)) only [go_sem, ints, bools, mat] | ((first | refine goIf_b (fun h => ?_) (fun h => ?_) | refine goG_b (fun h => ?_) (fun h => ?_) | refine goTG_b (fun h => ?_) (fun h => ?_) | refine goOG_b (fun h => ?_) (fun h => ?_)) <;> ((try simp only [Bool.not_eq_true', Bool.not_eq_false'] at h); (try simp only [h]); (try simp only [decide_eq_true_eq, decide_eq_false_iff_not, bne_iff_ne, bne_eq_false_iff_eq, beq_iff_eq, beq_eq_false_iff_ne, ne_eq, Int.not_lt, Int.not_le, Bool.and_eq_true, Bool.and_eq_false_iff, Bool.or_eq_true, Bool.or_eq_false_iff] at h)) <;> (try (exfalso; omega))))
        · repeat' (first | simp -implicitDefEqProofs (maxSteps := 1000000) (disch := (first | omega | (simp only [go_sem] <;> omega) | fail)) only [go_sem, ints, bools, mat] | ((first | refine goIf_b (fun h => ?_) (fun h => ?_) | refine goG_b (fun h => ?_) (fun h => ?_) | refine goTG_b (fun h => ?_) (fun h => ?_) | refine goOG_b (fun h => ?_) (fun h => ?_)) <;> ((try simp only [Bool.not_eq_true', Bool.not_eq_false'] at h); (try simp only [h]); (try simp only [decide_eq_true_eq, decide_eq_false_iff_not, bne_iff_ne, bne_eq_false_iff_eq, beq_iff_eq, beq_eq_false_iff_ne, ne_eq, Int.not_lt, Int.not_le, Bool.and_eq_true, Bool.and_eq_false_iff, Bool.or_eq_true, Bool.or_eq_false_iff] at h)) <;> (try (exfalso; omega))))
          first | refine goC_call [.bm, .r] (d2) ?_ | refine goOC_call [.bm, .r] (d2) ?_
          repeat' (first | simp -implicitDefEqProofs (maxSteps := 1000000) (disch := (first | omega | (simp only [go_sem] <;> omega) | fail)) only [go_sem, ints, bools, mat] | ((first | refine goIf_b (fun h => ?_) (fun h => ?_) | refine goG_b (fun h => ?_) (fun h => ?_) | refine goTG_b (fun h => ?_) (fun h => ?_) | refine goOG_b (fun h => ?_) (fun h => ?_)) <;> ((try simp only [Bool.not_eq_true', Bool.not_eq_false'] at h); (try simp only [h]); (try simp only [decide_eq_true_eq, decide_eq_false_iff_not, bne_iff_ne, bne_eq_false_iff_eq, beq_iff_eq, beq_eq_false_iff_ne, ne_eq, Int.not_lt, Int.not_le, Bool.and_eq_true, Bool.and_eq_false_iff, Bool.or_eq_true, Bool.or_eq_false_iff] at h)) <;> (try (exfalso; omega))))
          first | refine goC_call [.bm, .f] (d3) ?_ | refine goOC_call [.bm, .f] (d3) ?_
          repeat' (first | simp -implicitDefEqProofs (maxSteps := 1000000) (disch := (first | omega | (simp only [go_sem] <;> omega) | fail)) only [go_sem, ints, bools, mat] | ((first | refine goIf_b (fun h => ?_) (fun h => ?_) | refine goG_b (fun h => ?_) (fun h => ?_) | refine goTG_b (fun h => ?_) (fun h => ?_) | refine goOG_b (fun h => ?_) (fun h => ?_)) <;> ((try simp only [Bool.not_eq_true', Bool.not_eq_false'] at h); (try simp only [h]); (try simp only [decide_eq_true_eq, decide_eq_false_iff_not, bne_iff_ne, bne_eq_false_iff_eq, beq_iff_eq, beq_eq_false_iff_ne, ne_eq, Int.not_lt, Int.not_le, Bool.and_eq_true, Bool.and_eq_false_iff, Bool.or_eq_true, Bool.or_eq_false_iff] at h)) <;> (try (exfalso; omega))))
    · by_cases h2 : v = 2
      · subst h2
        refine ⟨ints (x ++ List.replicate (6 - x.length) 4), x ++ List.replicate (6 - x.length) 4, s1, hs1, ⟨.inl rfl, by simp; omega, fun n h => ?_⟩, den_go [0] l_spec_l01Bad ?_⟩
        · rcases List.mem_append.1 h with h | h
          · exact hin n h
          · rw [List.mem_replicate] at h; rw [h.2]; unfold in64; omega
        · repeat' (first | simp -implicitDefEqProofs (maxSteps := 1000000) (disch := (first | omega | (simp only [go_sem] <;> omega) | fail)) only [go_sem, ints, bools, mat, c_spec_l01Bad, srcR] | ((first | refine goIf_b (fun h => ?_) (fun h => ?_) | refine goG_b (fun h => ?_) (fun h => ?_) | refine goTG_b (fun h => ?_) (fun h => ?_) | refine goOG_b (fun h => ?_) (fun h => ?_)) <;> ((try simp only [Bool.not_eq_true', Bool.not_eq_false'] at h); (try simp only [h]); (try simp only [decide_eq_true_eq, decide_eq_false_iff_not, bne_iff_ne, bne_eq_false_iff_eq, beq_iff_eq, beq_eq_false_iff_ne, ne_eq, Int.not_lt, Int.not_le, Bool.and_eq_true, Bool.and_eq_false_iff, Bool.or_eq_true, Bool.or_eq_false_iff] at h)) <;> (try (exfalso; omega))))
          first | refine goC_call [.r] (d_spec_l01Own x (by omega)) ?_ | refine goOC_call [.r] (d_spec_l01Own x (by omega)) ?_
          repeat' (first | simp -implicitDefEqProofs (maxSteps := 1000000) (disch := (first | omega | (simp only [go_sem] <;> omega) | fail)) only [go_sem, ints, bools, mat] | ((first | refine goIf_b (fun h => ?_) (fun h => ?_) | refine goG_b (fun h => ?_) (fun h => ?_) | refine goTG_b (fun h => ?_) (fun h => ?_) | refine goOG_b (fun h => ?_) (fun h => ?_)) <;> ((try simp only [Bool.not_eq_true', Bool.not_eq_false'] at h); (try simp only [h]); (try simp only [decide_eq_true_eq, decide_eq_false_iff_not, bne_iff_ne, bne_eq_false_iff_eq, beq_iff_eq, beq_eq_false_iff_ne, ne_eq, Int.not_lt, Int.not_le, Bool.and_eq_true, Bool.and_eq_false_iff, Bool.or_eq_true, Bool.or_eq_false_iff] at h)) <;> (try (exfalso; omega))))
          first | refine goC_call [.bm, .r] (d1) ?_ | refine goOC_call [.bm, .r] (d1) ?_
          repeat' (first | simp -implicitDefEqProofs (maxSteps := 1000000) (disch := (first | omega | (simp only [go_sem] <;> omega) | fail)) only [go_sem, ints, bools, mat] | ((first | refine goIf_b (fun h => ?_) (fun h => ?_) | refine goG_b (fun h => ?_) (fun h => ?_) | refine goTG_b (fun h => ?_) (fun h => ?_) | refine goOG_b (fun h => ?_) (fun h => ?_)) <;> ((try simp only [Bool.not_eq_true', Bool.not_eq_false'] at h); (try simp only [h]); (try simp only [decide_eq_true_eq, decide_eq_false_iff_not, bne_iff_ne, bne_eq_false_iff_eq, beq_iff_eq, beq_eq_false_iff_ne, ne_eq, Int.not_lt, Int.not_le, Bool.and_eq_true, Bool.and_eq_false_iff, Bool.or_eq_true, Bool.or_eq_false_iff] at h)) <;> (try (exfalso; omega))))
          refine go_loop (fun (j : Nat) => ⟨[(4, .ref 0 0), (5, .ref 1 0), (42, .ref 2 0)], [some (.var [D.v (.slice none 0 0)]), some (.mix [.sl 3 0 (x.length + j) 1]), some (.var [cd, di s1.1, du s1.2]), some (.dat 1 ((x ++ List.replicate j 4).map di))]⟩) (fun j => j ≤ 6 - x.length) (fun j => 6 - x.length - j) 0 ?_ ?_ ?_
          · simp -implicitDefEqProofs (maxSteps := 1000000) (disch := (first | omega | (simp only [go_sem] <;> omega) | fail)) only [go_sem, ints, bools, mat]
            simp
          · exact Nat.zero_le _
          · rintro j hj J hJ
            by_cases hlt : j < 6 - x.length
            · repeat' (first | simp -implicitDefEqProofs (maxSteps := 1000000) (disch := (first | omega | (simp only [go_sem] <;> omega) | fail)) only [go_sem, ints, bools, mat] | ((first | refine goIf_b (fun h => ?_) (fun h => ?_) | refine goG_b (fun h => ?_) (fun h => ?_) | refine goTG_b (fun h => ?_) (fun h => ?_) | refine goOG_b (fun h => ?_) (fun h => ?_)) <;> ((try simp only [Bool.not_eq_true', Bool.not_eq_false'] at h); (try simp only [h]); (try simp only [decide_eq_true_eq, decide_eq_false_iff_not, bne_iff_ne, bne_eq_false_iff_eq, beq_iff_eq, beq_eq_false_iff_ne, ne_eq, Int.not_lt, Int.not_le, Bool.and_eq_true, Bool.and_eq_false_iff, Bool.or_eq_true, Bool.or_eq_false_iff] at h)) <;> (try (exfalso; omega))))
              refine hJ (j + 1) (by omega) (by omega) _ ?_
              simp -implicitDefEqProofs (maxSteps := 1000000) (disch := (first | omega | (simp only [go_sem] <;> omega) | fail)) only [go_sem, ints, bools, mat]
              rw [List.replicate_succ']
              simp [Nat.add_assoc]
            · have e : j = 6 - x.length := by omega
              repeat' (first | simp -implicitDefEqProofs (maxSteps := 1000000) (disch := (first | omega | (simp only [go_sem] <;> omega) | fail)) only [go_sem, ints, bools, mat] | ((first | refine goIf_b (fun h => ?_) (fun h => ?_) | refine goG_b (fun h => ?_) (fun h => ?_) | refine goTG_b (fun h => ?_) (fun h => ?_) | refine goOG_b (fun h => ?_) (fun h => ?_)) <;> ((try simp only [Bool.not_eq_true', Bool.not_eq_false'] at h); (try simp only [h]); (try simp only [decide_eq_true_eq, decide_eq_false_iff_not, bne_iff_ne, bne_eq_false_iff_eq, beq_iff_eq, beq_eq_false_iff_ne, ne_eq, Int.not_lt, Int.not_le, Bool.and_eq_true, Bool.and_eq_false_iff, Bool.or_eq_true, Bool.or_eq_false_iff] at h)) <;> (try (exfalso; omega))))
              rw [← e]
              repeat' (first | simp -implicitDefEqProofs (maxSteps := 1000000) (disch := (first | omega | (simp only [go_sem] <;> omega) | fail)) only [go_sem, ints, bools, mat] | ((first | refine goIf_b (fun h => ?_) (fun h => ?_) | refine goG_b (fun h => ?_) (fun h => ?_) | refine goTG_b (fun h => ?_) (fun h => ?_) | refine goOG_b (fun h => ?_) (fun h => ?_)) <;> ((try simp only [Bool.not_eq_true', Bool.not_eq_false'] at h); (try simp only [h]); (try simp only [decide_eq_true_eq, decide_eq_false_iff_not, bne_iff_ne, bne_eq_false_iff_eq, beq_iff_eq, beq_eq_false_iff_ne, ne_eq, Int.not_lt, Int.not_le, Bool.and_eq_true, Bool.and_eq_false_iff, Bool.or_eq_true, Bool.or_eq_false_iff] at h)) <;> (try (exfalso; omega))))
      · refine ⟨ints x, x, s1, hs1, ⟨.inl rfl, by omega, hin⟩, den_go [0] l_spec_l01Bad ?_⟩
        repeat' (first | simp -implicitDefEqProofs (maxSteps := 1000000) (disch := (first | omega | (simp only [go_sem] <;> omega) | fail)) only [go_sem, ints, bools, mat, c_spec_l01Bad, srcR] | ((first | refine goIf_b (fun h => ?_) (fun h => ?_) | refine goG_b (fun h => ?_) (fun h => ?_) | refine goTG_b (fun h => ?_) (fun h => ?_) | refine goOG_b (fun h => ?_) (fun h => ?_)) <;> ((try simp only [Bool.not_eq_true', Bool.not_eq_false'] at h); (try simp only [h]); (try simp only [decide_eq_true_eq, decide_eq_false_iff_not, bne_iff_ne, bne_eq_false_iff_eq, beq_iff_eq, beq_eq_false_iff_ne, ne_eq, Int.not_lt, Int.not_le, Bool.and_eq_true, Bool.and_eq_false_iff, Bool.or_eq_true, Bool.or_eq_false_iff] at h)) <;> (try (exfalso; omega))))
        first | refine goC_call [.r] (d_spec_l01Own x (by omega)) ?_ | refine goOC_call [.r] (d_spec_l01Own x (by omega)) ?_
        repeat' (first | simp -implicitDefEqProofs (maxSteps := 1000000) (disch := (first | omega | (simp only [go_sem] <;> omega) | fail)) only [go_sem, ints, bools, mat] | ((first | refine goIf_b (fun h => ?_) (fun h => ?_) | refine goG_b (fun h => ?_) (fun h => ?_) | refine goTG_b (fun h => ?_) (fun h => ?_) | refine goOG_b (fun h => ?_) (fun h => ?_)) <;> ((try simp only [Bool.not_eq_true', Bool.not_eq_false'] at h); (try simp only [h]); (try simp only [decide_eq_true_eq, decide_eq_false_iff_not, bne_iff_ne, bne_eq_false_iff_eq, beq_iff_eq, beq_eq_false_iff_ne, ne_eq, Int.not_lt, Int.not_le, Bool.and_eq_true, Bool.and_eq_false_iff, Bool.or_eq_true, Bool.or_eq_false_iff] at h)) <;> (try (exfalso; omega))))
        first | refine goC_call [.bm, .r] (d1) ?_ | refine goOC_call [.bm, .r] (d1) ?_
        repeat' (first | simp -implicitDefEqProofs (maxSteps := 1000000) (disch := (first | omega | (simp only [go_sem] <;> omega) | fail)) only [go_sem, ints, bools, mat] | ((first | refine goIf_b (fun h => ?_) (fun h => ?_) | refine goG_b (fun h => ?_) (fun h => ?_) | refine goTG_b (fun h => ?_) (fun h => ?_) | refine goOG_b (fun h => ?_) (fun h => ?_)) <;> ((try simp only [Bool.not_eq_true', Bool.not_eq_false'] at h); (try simp only [h]); (try simp only [decide_eq_true_eq, decide_eq_false_iff_not, bne_iff_ne, bne_eq_false_iff_eq, beq_iff_eq, beq_eq_false_iff_ne, ne_eq, Int.not_lt, Int.not_le, Bool.and_eq_true, Bool.and_eq_false_iff, Bool.or_eq_true, Bool.or_eq_false_iff] at h)) <;> (try (exfalso; omega))))
theorem ex_badCode {cd : D} {l : List Int} (H : SrcH cd l) {s : Src} (hs : okS l s) {x : List Int} (hx : isSpaceM x = true) {c : List Int} (hc : c.length < 1048576) (hci : ∀ n, n ∈ c → in64 n) : ∃ (o : List Int) (s' : Src), okS l s' ∧ o.length < 1048577 ∧ (∀ n, n ∈ o → in64 n) ∧ Den PA f_spec_l01BadCode [srcR cd s, .d (.agg [ints x]), .d (ints c)] [srcR cd s', .any, .any] (.own 1 (o.map di)) := by
  have hn := isSpaceM_n hx
  have hq := isSpaceM_q hx
  have hp := isSpaceM_prod hx
  have hp1 := prodM_pos (isSpaceM_szs hx)
  obtain ⟨v, s1, hs1, v1, v2, d1⟩ := ex_nxt H hs (q := 30) (by omega)
  by_cases h0 : v = 0
  · subst h0
    obtain ⟨w, s2, hs2, hw, d2⟩ := ex_pik H hs1 [-1, prodM x, 0, 1099511627776] (by simp) (by simp)
    refine ⟨c ++ [w], s2, hs2, by simp; omega, fun n h => ?_, den_go [0] l_spec_l01BadCode ?_⟩
    · rcases List.mem_append.1 h with h | h
      · exact hci n h
      · simp only [List.mem_singleton] at h
        simp only [List.mem_cons, List.mem_nil_iff, or_false] at hw
        unfold in64; omega
    · repeat' (first | simp -implicitDefEqProofs (maxSteps := 1000000) (disch := (first | omega | (simp only [go_sem] <;> omega) | fail)) only [go_sem, ints, bools, mat, c_spec_l01BadCode, srcR] | ((first | refine goIf_b (fun h => ?_) (fun h => ?_) | refine goG_b (fun h => ?_) (fun h => ?_) | refine goTG_b (fun h => ?_) (fun h => ?_) | refine goOG_b (fun h => ?_) (fun h => ?_)) <;> ((try simp only [Bool.not_eq_true', Bool.not_eq_false'] at h); (try simp only [h]); (try simp only [decide_eq_true_eq, decide_eq_false_iff_not, bne_iff_ne, bne_eq_false_iff_eq, beq_iff_eq, beq_eq_false_iff_ne, ne_eq, Int.not_lt, Int.not_le, Bool.and_eq_true, Bool.and_eq_false_iff, Bool.or_eq_true, Bool.or_eq_false_iff] at h)) <;> (try (exfalso; omega))))
      first | refine goC_call [.r] (d_spec_l01Own c (by omega)) ?_ | refine goOC_call [.r] (d_spec_l01Own c (by omega)) ?_
      repeat' (first | simp -implicitDefEqProofs (maxSteps := 1000000) (disch := (first | omega | (simp only [go_sem] <;> omega) | fail)) only [go_sem, ints, bools, mat] | ((first | refine goIf_b (fun h => ?_) (fun h => ?_) | refine goG_b (fun h => ?_) (fun h => ?_) | refine goTG_b (fun h => ?_) (fun h => ?_) | refine goOG_b (fun h => ?_) (fun h => ?_)) <;> ((try simp only [Bool.not_eq_true', Bool.not_eq_false'] at h); (try simp only [h]); (try simp only [decide_eq_true_eq, decide_eq_false_iff_not, bne_iff_ne, bne_eq_false_iff_eq, beq_iff_eq, beq_eq_false_iff_ne, ne_eq, Int.not_lt, Int.not_le, Bool.and_eq_true, Bool.and_eq_false_iff, Bool.or_eq_true, Bool.or_eq_false_iff] at h)) <;> (try (exfalso; omega))))
      first | refine goC_call [.bm, .r] (d1) ?_ | refine goOC_call [.bm, .r] (d1) ?_
      repeat' (first | simp -implicitDefEqProofs (maxSteps := 1000000) (disch := (first | omega | (simp only [go_sem] <;> omega) | fail)) only [go_sem, ints, bools, mat] | ((first | refine goIf_b (fun h => ?_) (fun h => ?_) | refine goG_b (fun h => ?_) (fun h => ?_) | refine goTG_b (fun h => ?_) (fun h => ?_) | refine goOG_b (fun h => ?_) (fun h => ?_)) <;> ((try simp only [Bool.not_eq_true', Bool.not_eq_false'] at h); (try simp only [h]); (try simp only [decide_eq_true_eq, decide_eq_false_iff_not, bne_iff_ne, bne_eq_false_iff_eq, beq_iff_eq, beq_eq_false_iff_ne, ne_eq, Int.not_lt, Int.not_le, Bool.and_eq_true, Bool.and_eq_false_iff, Bool.or_eq_true, Bool.or_eq_false_iff] at h)) <;> (try (exfalso; omega))))
      first | refine goC_call [.r] (d_spec_l01N x (by omega) hq) ?_ | refine goOC_call [.r] (d_spec_l01N x (by omega) hq) ?_
      repeat' (first | simp -implicitDefEqProofs (maxSteps := 1000000) (disch := (first | omega | (simp only [go_sem] <;> omega) | fail)) only [go_sem, ints, bools, mat] | ((first | refine goIf_b (fun h => ?_) (fun h => ?_) | refine goG_b (fun h => ?_) (fun h => ?_) | refine goTG_b (fun h => ?_) (fun h => ?_) | refine goOG_b (fun h => ?_) (fun h => ?_)) <;> ((try simp only [Bool.not_eq_true', Bool.not_eq_false'] at h); (try simp only [h]); (try simp only [decide_eq_true_eq, decide_eq_false_iff_not, bne_iff_ne, bne_eq_false_iff_eq, beq_iff_eq, beq_eq_false_iff_ne, ne_eq, Int.not_lt, Int.not_le, Bool.and_eq_true, Bool.and_eq_false_iff, Bool.or_eq_true, Bool.or_eq_false_iff] at h)) <;> (try (exfalso; omega))))
      first | refine goC_call [.bm, .f] (d2) ?_ | refine goOC_call [.bm, .f] (d2) ?_
      repeat' (first | simp -implicitDefEqProofs (maxSteps := 1000000) (disch := (first | omega | (simp only [go_sem] <;> omega) | fail)) only [go_sem, ints, bools, mat] | ((first | refine goIf_b (fun h => ?_) (fun h => ?_) | refine goG_b (fun h => ?_) (fun h => ?_) | refine goTG_b (fun h => ?_) (fun h => ?_) | refine goOG_b (fun h => ?_) (fun h => ?_)) <;> ((try simp only [Bool.not_eq_true', Bool.not_eq_false'] at h); (try simp only [h]); (try simp only [decide_eq_true_eq, decide_eq_false_iff_not, bne_iff_ne, bne_eq_false_iff_eq, beq_iff_eq, beq_eq_false_iff_ne, ne_eq, Int.not_lt, Int.not_le, Bool.and_eq_true, Bool.and_eq_false_iff, Bool.or_eq_true, Bool.or_eq_false_iff] at h)) <;> (try (exfalso; omega))))
  · by_cases h1 : v = 1
    · subst h1
      by_cases hl1 : 1 < c.length
      · refine ⟨c.set 0 (c.getD 1 0), s1, hs1, by simp; omega, fun n h => ?_, den_go [0] l_spec_l01BadCode ?_⟩
        · rcases List.mem_or_eq_of_mem_set h with h | rfl
          · exact hci n h
          · exact hci _ (mem_getD hl1)
        · repeat' (first | simp -implicitDefEqProofs (maxSteps := 1000000) (disch := (first | omega | (simp only [go_sem] <;> omega) | fail)) only [go_sem, ints, bools, mat, c_spec_l01BadCode, srcR] | ((first | refine goIf_b (fun h => ?_) (fun h => ?_) | refine goG_b (fun h => ?_) (fun h => ?_) | refine goTG_b (fun h => ?_) (fun h => ?_) | refine goOG_b (fun h => ?_) (fun h => ?_)) <;> ((try simp only [Bool.not_eq_true', Bool.not_eq_false'] at h); (try simp only [h]); (try simp only [decide_eq_true_eq, decide_eq_false_iff_not, bne_iff_ne, bne_eq_false_iff_eq, beq_iff_eq, beq_eq_false_iff_ne, ne_eq, Int.not_lt, Int.not_le, Bool.and_eq_true, Bool.and_eq_false_iff, Bool.or_eq_true, Bool.or_eq_false_iff] at h)) <;> (try (exfalso; omega))))
          first | refine goC_call [.r] (d_spec_l01Own c (by omega)) ?_ | refine goOC_call [.r] (d_spec_l01Own c (by omega)) ?_
          repeat' (first | simp -implicitDefEqProofs (maxSteps := 1000000) (disch := (first | omega | (simp only [go_sem] <;> omega) | fail)) only [go_sem, ints, bools, mat] | ((first | refine goIf_b (fun h => ?_) (fun h => ?_) | refine goG_b (fun h => ?_) (fun h => ?_) | refine goTG_b (fun h => ?_) (fun h => ?_) | refine goOG_b (fun h => ?_) (fun h => ?_)) <;> ((try simp only [Bool.not_eq_true', Bool.not_eq_false'] at h); (try simp only [h]); (try simp only [decide_eq_true_eq, decide_eq_false_iff_not, bne_iff_ne, bne_eq_false_iff_eq, beq_iff_eq, beq_eq_false_iff_ne, ne_eq, Int.not_lt, Int.not_le, Bool.and_eq_true, Bool.and_eq_false_iff, Bool.or_eq_true, Bool.or_eq_false_iff] at h)) <;> (try (exfalso; omega))))
          first | refine goC_call [.bm, .r] (d1) ?_ | refine goOC_call [.bm, .r] (d1) ?_
          repeat' (first | simp -implicitDefEqProofs (maxSteps := 1000000) (disch := (first | omega | (simp only [go_sem] <;> omega) | fail)) only [go_sem, ints, bools, mat] | ((first | refine goIf_b (fun h => ?_) (fun h => ?_) | refine goG_b (fun h => ?_) (fun h => ?_) | refine goTG_b (fun h => ?_) (fun h => ?_) | refine goOG_b (fun h => ?_) (fun h => ?_)) <;> ((try simp only [Bool.not_eq_true', Bool.not_eq_false'] at h); (try simp only [h]); (try simp only [decide_eq_true_eq, decide_eq_false_iff_not, bne_iff_ne, bne_eq_false_iff_eq, beq_iff_eq, beq_eq_false_iff_ne, ne_eq, Int.not_lt, Int.not_le, Bool.and_eq_true, Bool.and_eq_false_iff, Bool.or_eq_true, Bool.or_eq_false_iff] at h)) <;> (try (exfalso; omega))))
          rfl
      · refine ⟨c, s1, hs1, by omega, hci, den_go [0] l_spec_l01BadCode ?_⟩
        repeat' (first | simp -implicitDefEqProofs (maxSteps := 1000000) (disch := (first | omega | (simp only [go_sem] <;> omega) | fail)) only [go_sem, ints, bools, mat, c_spec_l01BadCode, srcR] | ((first | refine goIf_b (fun h => ?_) (fun h => ?_) | refine goG_b (fun h => ?_) (fun h => ?_) | refine goTG_b (fun h => ?_) (fun h => ?_) | refine goOG_b (fun h => ?_) (fun h => ?_)) <;> ((try simp only [Bool.not_eq_true', Bool.not_eq_false'] at h); (try simp only [h]); (try simp only [decide_eq_true_eq, decide_eq_false_iff_not, bne_iff_ne, bne_eq_false_iff_eq, beq_iff_eq, beq_eq_false_iff_ne, ne_eq, Int.not_lt, Int.not_le, Bool.and_eq_true, Bool.and_eq_false_iff, Bool.or_eq_true, Bool.or_eq_false_iff] at h)) <;> (try (exfalso; omega))))
        first | refine goC_call [.r] (d_spec_l01Own c (by omega)) ?_ | refine goOC_call [.r] (d_spec_l01Own c (by omega)) ?_
        repeat' (first | simp -implicitDefEqProofs (maxSteps := 1000000) (disch := (first | omega | (simp only [go_sem] <;> omega) | fail)) only [go_sem, ints, bools, mat] | ((first | refine goIf_b (fun h => ?_) (fun h => ?_) | refine goG_b (fun h => ?_) (fun h => ?_) | refine goTG_b (fun h => ?_) (fun h => ?_) | refine goOG_b (fun h => ?_) (fun h => ?_)) <;> ((try simp only [Bool.not_eq_true', Bool.not_eq_false'] at h); (try simp only [h]); (try simp only [decide_eq_true_eq, decide_eq_false_iff_not, bne_iff_ne, bne_eq_false_iff_eq, beq_iff_eq, beq_eq_false_iff_ne, ne_eq, Int.not_lt, Int.not_le, Bool.and_eq_true, Bool.and_eq_false_iff, Bool.or_eq_true, Bool.or_eq_false_iff] at h)) <;> (try (exfalso; omega))))
        first | refine goC_call [.bm, .r] (d1) ?_ | refine goOC_call [.bm, .r] (d1) ?_
        repeat' (first | simp -implicitDefEqProofs (maxSteps := 1000000) (disch := (first | omega | (simp only [go_sem] <;> omega) | fail)) only [go_sem, ints, bools, mat] | ((first | refine goIf_b (fun h => ?_) (fun h => ?_) | refine goG_b (fun h => ?_) (fun h => ?_) | refine goTG_b (fun h => ?_) (fun h => ?_) | refine goOG_b (fun h => ?_) (fun h => ?_)) <;> ((try simp only [Bool.not_eq_true', Bool.not_eq_false'] at h); (try simp only [h]); (try simp only [decide_eq_true_eq, decide_eq_false_iff_not, bne_iff_ne, bne_eq_false_iff_eq, beq_iff_eq, beq_eq_false_iff_ne, ne_eq, Int.not_lt, Int.not_le, Bool.and_eq_true, Bool.and_eq_false_iff, Bool.or_eq_true, Bool.or_eq_false_iff] at h)) <;> (try (exfalso; omega))))
    · refine ⟨c, s1, hs1, by omega, hci, den_go [0] l_spec_l01BadCode ?_⟩
      repeat' (first | simp -implicitDefEqProofs (maxSteps := 1000000) (disch := (first | omega | (simp only [go_sem] <;> omega) | fail)) only [go_sem, ints, bools, mat, c_spec_l01BadCode, srcR] | ((first | refine goIf_b (fun h => ?_) (fun h => ?_) | refine goG_b (fun h => ?_) (fun h => ?_) | refine goTG_b (fun h => ?_) (fun h => ?_) | refine goOG_b (fun h => ?_) (fun h => ?_)) <;> ((try simp only [Bool.not_eq_true', Bool.not_eq_false'] at h); (try simp only [h]); (try simp only [decide_eq_true_eq, decide_eq_false_iff_not, bne_iff_ne, bne_eq_false_iff_eq, beq_iff_eq, beq_eq_false_iff_ne, ne_eq, Int.not_lt, Int.not_le, Bool.and_eq_true, Bool.and_eq_false_iff, Bool.or_eq_true, Bool.or_eq_false_iff] at h)) <;> (try (exfalso; omega))))
      first | refine goC_call [.r] (d_spec_l01Own c (by omega)) ?_ | refine goOC_call [.r] (d_spec_l01Own c (by omega)) ?_
      repeat' (first | simp -implicitDefEqProofs (maxSteps := 1000000) (disch := (first | omega | (simp only [go_sem] <;> omega) | fail)) only [go_sem, ints, bools, mat] | ((first | refine goIf_b (fun h => ?_) (fun h => ?_) | refine goG_b (fun h => ?_) (fun h => ?_) | refine goTG_b (fun h => ?_) (fun h => ?_) | refine goOG_b (fun h => ?_) (fun h => ?_)) <;> ((try simp only [Bool.not_eq_true', Bool.not_eq_false'] at h); (try simp only [h]); (try simp only [decide_eq_true_eq, decide_eq_false_iff_not, bne_iff_ne, bne_eq_false_iff_eq, beq_iff_eq, beq_eq_false_iff_ne, ne_eq, Int.not_lt, Int.not_le, Bool.and_eq_true, Bool.and_eq_false_iff, Bool.or_eq_true, Bool.or_eq_false_iff] at h)) <;> (try (exfalso; omega))))
      first | refine goC_call [.bm, .r] (d1) ?_ | refine goOC_call [.bm, .r] (d1) ?_
      repeat' (first | simp -implicitDefEqProofs (maxSteps := 1000000) (disch := (first | omega | (simp only [go_sem] <;> omega) | fail)) only [go_sem, ints, bools, mat] | ((first | refine goIf_b (fun h => ?_) (fun h => ?_) | refine goG_b (fun h => ?_) (fun h => ?_) | refine goTG_b (fun h => ?_) (fun h => ?_) | refine goOG_b (fun h => ?_) (fun h => ?_)) <;> ((try simp only [Bool.not_eq_true', Bool.not_eq_false'] at h); (try simp only [h]); (try simp only [decide_eq_true_eq, decide_eq_false_iff_not, bne_iff_ne, bne_eq_false_iff_eq, beq_iff_eq, beq_eq_false_iff_ne, ne_eq, Int.not_lt, Int.not_le, Bool.and_eq_true, Bool.and_eq_false_iff, Bool.or_eq_true, Bool.or_eq_false_iff] at h)) <;> (try (exfalso; omega))))
/-- The sum of the first j of some numbers. -/
def smN (a : List Int) : Nat → Int
  | 0 => 0
  | j + 1 => smN a j + a.getD j 0
theorem smN_bnd {a : List Int} (h : ∀ i, 0 ≤ a.getD i 0 ∧ a.getD i 0 < 4) : ∀ j : Nat, 0 ≤ smN a j ∧ smN a j ≤ 3 * j
  | 0 => by simp [smN]
  | j + 1 => by have h1 := smN_bnd h j; have h2 := h j; rw [smN]; omega
def sdP (x : List Int) (b r w : Int) : Bool := smN (digM x w) x.length % b == r
/-- Each word that is at least d apart from those before. -/
def gdN (x : List Int) (d : Int) : Nat → List Int
  | 0 => []
  | w + 1 => if (List.range (gdN x d w).length).all (fun k => decide (d ≤ distM x ((gdN x d w).getD k 0) w)) = true then gdN x d w ++ [(w : Int)] else gdN x d w
theorem gdN_len (x : List Int) (d : Int) : ∀ w, (gdN x d w).length ≤ w
  | 0 => by simp [gdN]
  | w + 1 => by
    have := gdN_len x d w
    rw [gdN]; split
    · simp; omega
    · omega
theorem gdN_mem (x : List Int) (d : Int) : ∀ w, ∀ u, u ∈ gdN x d w → 0 ≤ u ∧ u < w
  | 0 => fun u h => by simp [gdN] at h
  | w + 1 => fun u h => by
    rw [gdN] at h
    split at h
    · rcases List.mem_append.1 h with h | h
      · have := gdN_mem x d w u h; omega
      · simp at h; omega
    · have := gdN_mem x d w u h; omega
theorem ex_drawCode {cd : D} {l : List Int} (H : SrcH cd l) {s : Src} (hs : okS l s) {x : List Int} (hx : isSpaceM x = true) : ∃ (o : List Int) (s' : Src), okS l s' ∧ o.length ≤ 1024 ∧ inC x o ∧ Den PA f_spec_l01DrawCode [srcR cd s, .d (.agg [ints x])] [srcR cd s', .any] (.own 1 (o.map di)) := by
  have hn := isSpaceM_n hx
  have hq := isSpaceM_q hx
  have hp := isSpaceM_prod hx
  have hz := isSpaceM_szs hx
  have hp1 := prodM_pos hz
  have hal := allW_len x
  have hN := d_spec_l01N x (by omega) hq
  obtain ⟨v, s1, hs1, v1, v2, d1⟩ := ex_nxt H hs (q := 4) (by omega)
  by_cases h0 : v = 0
  · subst h0
    obtain ⟨b, s2, hs2, hb, d2⟩ := ex_pik H hs1 [2, 2, 3, 4] (by simp) (by simp)
    simp only [List.mem_cons, List.mem_nil_iff, or_false] at hb
    obtain ⟨r, s3, hs3, r1, r2, d3⟩ := ex_nxt H hs2 (q := 2) (by omega)
    refine ⟨(allW x).filter (sdP x b r), s3, hs3, ?_, ?_, den_go [0] l_spec_l01DrawCode ?_⟩
    · have := List.length_filter_le (sdP x b r) (allW x); omega
    · intro u hu; exact (allW_mem' hx u).1 (List.mem_filter.1 hu).1
    · repeat' (first | simp -implicitDefEqProofs (maxSteps := 1000000) (disch := (first | omega | (simp only [go_sem] <;> omega) | fail)) only [go_sem, ints, bools, mat, c_spec_l01DrawCode, srcR] | ((first | refine goIf_b (fun h => ?_) (fun h => ?_) | refine goG_b (fun h => ?_) (fun h => ?_) | refine goTG_b (fun h => ?_) (fun h => ?_) | refine goOG_b (fun h => ?_) (fun h => ?_)) <;> ((try simp only [Bool.not_eq_true', Bool.not_eq_false'] at h); (try simp only [h]); (try simp only [decide_eq_true_eq, decide_eq_false_iff_not, bne_iff_ne, bne_eq_false_iff_eq, beq_iff_eq, beq_eq_false_iff_ne, ne_eq, Int.not_lt, Int.not_le, Bool.and_eq_true, Bool.and_eq_false_iff, Bool.or_eq_true, Bool.or_eq_false_iff] at h)) <;> (try (exfalso; omega))))
      first | refine goC_call [.bm, .r] (d1) ?_ | refine goOC_call [.bm, .r] (d1) ?_
      repeat' (first | simp -implicitDefEqProofs (maxSteps := 1000000) (disch := (first | omega | (simp only [go_sem] <;> omega) | fail)) only [go_sem, ints, bools, mat] | ((first | refine goIf_b (fun h => ?_) (fun h => ?_) | refine goG_b (fun h => ?_) (fun h => ?_) | refine goTG_b (fun h => ?_) (fun h => ?_) | refine goOG_b (fun h => ?_) (fun h => ?_)) <;> ((try simp only [Bool.not_eq_true', Bool.not_eq_false'] at h); (try simp only [h]); (try simp only [decide_eq_true_eq, decide_eq_false_iff_not, bne_iff_ne, bne_eq_false_iff_eq, beq_iff_eq, beq_eq_false_iff_ne, ne_eq, Int.not_lt, Int.not_le, Bool.and_eq_true, Bool.and_eq_false_iff, Bool.or_eq_true, Bool.or_eq_false_iff] at h)) <;> (try (exfalso; omega))))
      first | refine goC_call [.bm, .f] (d2) ?_ | refine goOC_call [.bm, .f] (d2) ?_
      repeat' (first | simp -implicitDefEqProofs (maxSteps := 1000000) (disch := (first | omega | (simp only [go_sem] <;> omega) | fail)) only [go_sem, ints, bools, mat] | ((first | refine goIf_b (fun h => ?_) (fun h => ?_) | refine goG_b (fun h => ?_) (fun h => ?_) | refine goTG_b (fun h => ?_) (fun h => ?_) | refine goOG_b (fun h => ?_) (fun h => ?_)) <;> ((try simp only [Bool.not_eq_true', Bool.not_eq_false'] at h); (try simp only [h]); (try simp only [decide_eq_true_eq, decide_eq_false_iff_not, bne_iff_ne, bne_eq_false_iff_eq, beq_iff_eq, beq_eq_false_iff_ne, ne_eq, Int.not_lt, Int.not_le, Bool.and_eq_true, Bool.and_eq_false_iff, Bool.or_eq_true, Bool.or_eq_false_iff] at h)) <;> (try (exfalso; omega))))
      first | refine goC_call [.bm, .r] (d3) ?_ | refine goOC_call [.bm, .r] (d3) ?_
      repeat' (first | simp -implicitDefEqProofs (maxSteps := 1000000) (disch := (first | omega | (simp only [go_sem] <;> omega) | fail)) only [go_sem, ints, bools, mat] | ((first | refine goIf_b (fun h => ?_) (fun h => ?_) | refine goG_b (fun h => ?_) (fun h => ?_) | refine goTG_b (fun h => ?_) (fun h => ?_) | refine goOG_b (fun h => ?_) (fun h => ?_)) <;> ((try simp only [Bool.not_eq_true', Bool.not_eq_false'] at h); (try simp only [h]); (try simp only [decide_eq_true_eq, decide_eq_false_iff_not, bne_iff_ne, bne_eq_false_iff_eq, beq_iff_eq, beq_eq_false_iff_ne, ne_eq, Int.not_lt, Int.not_le, Bool.and_eq_true, Bool.and_eq_false_iff, Bool.or_eq_true, Bool.or_eq_false_iff] at h)) <;> (try (exfalso; omega))))
      refine go_loop (fun (w : Nat) => ⟨[(3, .ref 0 0), (5, .sl 1 0 (((allW x).take w).filter (sdP x b r)).length 1), (6, .d (di b)), (7, .d (di r)), (8, .d (di w)), (109, .ref 2 0)], [some (.var [ints x]), some (.dat 1 ((((allW x).take w).filter (sdP x b r)).map di)), some (.var [cd, di s3.1, du s3.2])]⟩) (fun w => w ≤ (prodM x).toNat) (fun w => (prodM x).toNat - w) 0 ?_ ?_ ?_
      · (simp -implicitDefEqProofs (maxSteps := 1000000) (disch := (first | omega | (simp only [go_sem] <;> omega) | fail)) only [go_sem, ints, bools, mat] <;> rfl)
      · exact Nat.zero_le _
      · rintro w hw J hJ
        have hfl := filter_len_le (sdP x b r) ((allW x).take w) w (by simp; omega)
        by_cases hwl : w < (prodM x).toNat
        · have hdl := digM_len x w
          have hd4 := digM_bnd w hz
          repeat' (first | simp -implicitDefEqProofs (maxSteps := 1000000) (disch := (first | omega | (simp only [go_sem] <;> omega) | fail)) only [go_sem, ints, bools, mat] | ((first | refine goIf_b (fun h => ?_) (fun h => ?_) | refine goG_b (fun h => ?_) (fun h => ?_) | refine goTG_b (fun h => ?_) (fun h => ?_) | refine goOG_b (fun h => ?_) (fun h => ?_)) <;> ((try simp only [Bool.not_eq_true', Bool.not_eq_false'] at h); (try simp only [h]); (try simp only [decide_eq_true_eq, decide_eq_false_iff_not, bne_iff_ne, bne_eq_false_iff_eq, beq_iff_eq, beq_eq_false_iff_ne, ne_eq, Int.not_lt, Int.not_le, Bool.and_eq_true, Bool.and_eq_false_iff, Bool.or_eq_true, Bool.or_eq_false_iff] at h)) <;> (try (exfalso; omega))))
          first | refine goC_call [.r] (hN) ?_ | refine goOC_call [.r] (hN) ?_
          repeat' (first | simp -implicitDefEqProofs (maxSteps := 1000000) (disch := (first | omega | (simp only [go_sem] <;> omega) | fail)) only [go_sem, ints, bools, mat] | ((first | refine goIf_b (fun h => ?_) (fun h => ?_) | refine goG_b (fun h => ?_) (fun h => ?_) | refine goTG_b (fun h => ?_) (fun h => ?_) | refine goOG_b (fun h => ?_) (fun h => ?_)) <;> ((try simp only [Bool.not_eq_true', Bool.not_eq_false'] at h); (try simp only [h]); (try simp only [decide_eq_true_eq, decide_eq_false_iff_not, bne_iff_ne, bne_eq_false_iff_eq, beq_iff_eq, beq_eq_false_iff_ne, ne_eq, Int.not_lt, Int.not_le, Bool.and_eq_true, Bool.and_eq_false_iff, Bool.or_eq_true, Bool.or_eq_false_iff] at h)) <;> (try (exfalso; omega))))
          first | refine goC_call [.r, .r] (d_spec_l01Digits x hx w (by omega) (by omega)) ?_ | refine goOC_call [.r, .r] (d_spec_l01Digits x hx w (by omega) (by omega)) ?_
          repeat' (first | simp -implicitDefEqProofs (maxSteps := 1000000) (disch := (first | omega | (simp only [go_sem] <;> omega) | fail)) only [go_sem, ints, bools, mat] | ((first | refine goIf_b (fun h => ?_) (fun h => ?_) | refine goG_b (fun h => ?_) (fun h => ?_) | refine goTG_b (fun h => ?_) (fun h => ?_) | refine goOG_b (fun h => ?_) (fun h => ?_)) <;> ((try simp only [Bool.not_eq_true', Bool.not_eq_false'] at h); (try simp only [h]); (try simp only [decide_eq_true_eq, decide_eq_false_iff_not, bne_iff_ne, bne_eq_false_iff_eq, beq_iff_eq, beq_eq_false_iff_ne, ne_eq, Int.not_lt, Int.not_le, Bool.and_eq_true, Bool.and_eq_false_iff, Bool.or_eq_true, Bool.or_eq_false_iff] at h)) <;> (try (exfalso; omega))))
          refine go_loop (fun (j : Nat) => ⟨[(3, .ref 0 0), (5, .sl 1 0 (((allW x).take w).filter (sdP x b r)).length 1), (6, .d (di b)), (7, .d (di r)), (8, .d (di w)), (9, .sl 2 0 (digM x w).length 1), (10, .d (di (smN (digM x w) j))), (37, .d (di (digM x w).length)), (38, .d (di j)), (109, .ref 3 0)], [some (.var [ints x]), some (.dat 1 ((((allW x).take w).filter (sdP x b r)).map di)), some (.dat 1 ((digM x w).map di)), some (.var [cd, di s3.1, du s3.2])]⟩) (fun j => j ≤ x.length) (fun j => x.length - j) 0 ?_ ?_ ?_
          · (simp -implicitDefEqProofs (maxSteps := 1000000) (disch := (first | omega | (simp only [go_sem] <;> omega) | fail)) only [go_sem, ints, bools, mat] <;> rfl)
          · exact Nat.zero_le _
          · rintro j hj J2 hJ2
            have hsb := smN_bnd hd4 j
            have hdj := hd4 j
            by_cases hjl : j < x.length
            · repeat' (first | simp -implicitDefEqProofs (maxSteps := 1000000) (disch := (first | omega | (simp only [go_sem] <;> omega) | fail)) only [go_sem, ints, bools, mat] | ((first | refine goIf_b (fun h => ?_) (fun h => ?_) | refine goG_b (fun h => ?_) (fun h => ?_) | refine goTG_b (fun h => ?_) (fun h => ?_) | refine goOG_b (fun h => ?_) (fun h => ?_)) <;> ((try simp only [Bool.not_eq_true', Bool.not_eq_false'] at h); (try simp only [h]); (try simp only [decide_eq_true_eq, decide_eq_false_iff_not, bne_iff_ne, bne_eq_false_iff_eq, beq_iff_eq, beq_eq_false_iff_ne, ne_eq, Int.not_lt, Int.not_le, Bool.and_eq_true, Bool.and_eq_false_iff, Bool.or_eq_true, Bool.or_eq_false_iff] at h)) <;> (try (exfalso; omega))))
              refine hJ2 (j + 1) (by omega) (by omega) _ ?_
              simp -implicitDefEqProofs (maxSteps := 1000000) (disch := (first | omega | (simp only [go_sem] <;> omega) | fail)) only [go_sem, ints, bools, mat]
              rw [smN]; rfl
            · have e : j = x.length := by omega
              subst e
              have hmb := mod_bnd (x := smN (digM x w) x.length) (show 2 ≤ b ∧ b ≤ 4 by omega)
              repeat' (first | simp -implicitDefEqProofs (maxSteps := 1000000) (disch := (first | omega | (simp only [go_sem] <;> omega) | fail)) only [go_sem, ints, bools, mat] | ((first | refine goIf_b (fun h => ?_) (fun h => ?_) | refine goG_b (fun h => ?_) (fun h => ?_) | refine goTG_b (fun h => ?_) (fun h => ?_) | refine goOG_b (fun h => ?_) (fun h => ?_)) <;> ((try simp only [Bool.not_eq_true', Bool.not_eq_false'] at h); (try simp only [h]); (try simp only [decide_eq_true_eq, decide_eq_false_iff_not, bne_iff_ne, bne_eq_false_iff_eq, beq_iff_eq, beq_eq_false_iff_ne, ne_eq, Int.not_lt, Int.not_le, Bool.and_eq_true, Bool.and_eq_false_iff, Bool.or_eq_true, Bool.or_eq_false_iff] at h)) <;> (try (exfalso; omega))))
              · refine hJ (w + 1) (by omega) (by omega) _ ?_
                simp -implicitDefEqProofs (maxSteps := 1000000) (disch := (first | omega | (simp only [go_sem] <;> omega) | fail)) only [go_sem, ints, bools, mat]
                rw [take_allW _ hwl, List.filter_append]
                have h' : sdP x b r w = true := by unfold sdP; simpa using h
                simp [h']
              · refine hJ (w + 1) (by omega) (by omega) _ ?_
                simp -implicitDefEqProofs (maxSteps := 1000000) (disch := (first | omega | (simp only [go_sem] <;> omega) | fail)) only [go_sem, ints, bools, mat]
                rw [take_allW _ hwl, List.filter_append]
                have h' : sdP x b r w = false := by unfold sdP; simpa using h
                simp [h']
        · have e : w = (prodM x).toNat := by omega
          subst e
          rw [List.take_of_length_le (by rw [hal]; exact Nat.le_refl _)]
          repeat' (first | simp -implicitDefEqProofs (maxSteps := 1000000) (disch := (first | omega | (simp only [go_sem] <;> omega) | fail)) only [go_sem, ints, bools, mat] | ((first | refine goIf_b (fun h => ?_) (fun h => ?_) | refine goG_b (fun h => ?_) (fun h => ?_) | refine goTG_b (fun h => ?_) (fun h => ?_) | refine goOG_b (fun h => ?_) (fun h => ?_)) <;> ((try simp only [Bool.not_eq_true', Bool.not_eq_false'] at h); (try simp only [h]); (try simp only [decide_eq_true_eq, decide_eq_false_iff_not, bne_iff_ne, bne_eq_false_iff_eq, beq_iff_eq, beq_eq_false_iff_ne, ne_eq, Int.not_lt, Int.not_le, Bool.and_eq_true, Bool.and_eq_false_iff, Bool.or_eq_true, Bool.or_eq_false_iff] at h)) <;> (try (exfalso; omega))))
          first | refine goC_call [.r] (hN) ?_ | refine goOC_call [.r] (hN) ?_
          repeat' (first | simp -implicitDefEqProofs (maxSteps := 1000000) (disch := (first | omega | (simp only [go_sem] <;> omega) | fail)) only [go_sem, ints, bools, mat] | ((first | refine goIf_b (fun h => ?_) (fun h => ?_) | refine goG_b (fun h => ?_) (fun h => ?_) | refine goTG_b (fun h => ?_) (fun h => ?_) | refine goOG_b (fun h => ?_) (fun h => ?_)) <;> ((try simp only [Bool.not_eq_true', Bool.not_eq_false'] at h); (try simp only [h]); (try simp only [decide_eq_true_eq, decide_eq_false_iff_not, bne_iff_ne, bne_eq_false_iff_eq, beq_iff_eq, beq_eq_false_iff_ne, ne_eq, Int.not_lt, Int.not_le, Bool.and_eq_true, Bool.and_eq_false_iff, Bool.or_eq_true, Bool.or_eq_false_iff] at h)) <;> (try (exfalso; omega))))
  · by_cases h1 : v = 1
    · subst h1
      obtain ⟨d, s2, hs2, hd, d2⟩ := ex_pik H hs1 [2, 3, 3] (by simp) (by simp)
      refine ⟨gdN x d (prodM x).toNat, s2, hs2, ?_, ?_, den_go [0] l_spec_l01DrawCode ?_⟩
      · have := gdN_len x d (prodM x).toNat; omega
      · intro u hu; have := gdN_mem x d _ u hu; omega
      · repeat' (first | simp -implicitDefEqProofs (maxSteps := 1000000) (disch := (first | omega | (simp only [go_sem] <;> omega) | fail)) only [go_sem, ints, bools, mat, c_spec_l01DrawCode, srcR] | ((first | refine goIf_b (fun h => ?_) (fun h => ?_) | refine goG_b (fun h => ?_) (fun h => ?_) | refine goTG_b (fun h => ?_) (fun h => ?_) | refine goOG_b (fun h => ?_) (fun h => ?_)) <;> ((try simp only [Bool.not_eq_true', Bool.not_eq_false'] at h); (try simp only [h]); (try simp only [decide_eq_true_eq, decide_eq_false_iff_not, bne_iff_ne, bne_eq_false_iff_eq, beq_iff_eq, beq_eq_false_iff_ne, ne_eq, Int.not_lt, Int.not_le, Bool.and_eq_true, Bool.and_eq_false_iff, Bool.or_eq_true, Bool.or_eq_false_iff] at h)) <;> (try (exfalso; omega))))
        first | refine goC_call [.bm, .r] (d1) ?_ | refine goOC_call [.bm, .r] (d1) ?_
        repeat' (first | simp -implicitDefEqProofs (maxSteps := 1000000) (disch := (first | omega | (simp only [go_sem] <;> omega) | fail)) only [go_sem, ints, bools, mat] | ((first | refine goIf_b (fun h => ?_) (fun h => ?_) | refine goG_b (fun h => ?_) (fun h => ?_) | refine goTG_b (fun h => ?_) (fun h => ?_) | refine goOG_b (fun h => ?_) (fun h => ?_)) <;> ((try simp only [Bool.not_eq_true', Bool.not_eq_false'] at h); (try simp only [h]); (try simp only [decide_eq_true_eq, decide_eq_false_iff_not, bne_iff_ne, bne_eq_false_iff_eq, beq_iff_eq, beq_eq_false_iff_ne, ne_eq, Int.not_lt, Int.not_le, Bool.and_eq_true, Bool.and_eq_false_iff, Bool.or_eq_true, Bool.or_eq_false_iff] at h)) <;> (try (exfalso; omega))))
        first | refine goC_call [.bm, .f] (d2) ?_ | refine goOC_call [.bm, .f] (d2) ?_
        repeat' (first | simp -implicitDefEqProofs (maxSteps := 1000000) (disch := (first | omega | (simp only [go_sem] <;> omega) | fail)) only [go_sem, ints, bools, mat] | ((first | refine goIf_b (fun h => ?_) (fun h => ?_) | refine goG_b (fun h => ?_) (fun h => ?_) | refine goTG_b (fun h => ?_) (fun h => ?_) | refine goOG_b (fun h => ?_) (fun h => ?_)) <;> ((try simp only [Bool.not_eq_true', Bool.not_eq_false'] at h); (try simp only [h]); (try simp only [decide_eq_true_eq, decide_eq_false_iff_not, bne_iff_ne, bne_eq_false_iff_eq, beq_iff_eq, beq_eq_false_iff_ne, ne_eq, Int.not_lt, Int.not_le, Bool.and_eq_true, Bool.and_eq_false_iff, Bool.or_eq_true, Bool.or_eq_false_iff] at h)) <;> (try (exfalso; omega))))
        refine go_loop (fun (w : Nat) => ⟨[(3, .ref 0 0), (5, .sl 1 0 (gdN x d w).length 1), (12, .d (di d)), (13, .d (di w)), (109, .ref 2 0)], [some (.var [ints x]), some (.dat 1 ((gdN x d w).map di)), some (.var [cd, di s2.1, du s2.2])]⟩) (fun w => w ≤ (prodM x).toNat) (fun w => (prodM x).toNat - w) 0 ?_ ?_ ?_
        · (simp -implicitDefEqProofs (maxSteps := 1000000) (disch := (first | omega | (simp only [go_sem] <;> omega) | fail)) only [go_sem, ints, bools, mat] <;> rfl)
        · exact Nat.zero_le _
        · rintro w hw J hJ
          have hgl := gdN_len x d w
          by_cases hwl : w < (prodM x).toNat
          · repeat' (first | simp -implicitDefEqProofs (maxSteps := 1000000) (disch := (first | omega | (simp only [go_sem] <;> omega) | fail)) only [go_sem, ints, bools, mat] | ((first | refine goIf_b (fun h => ?_) (fun h => ?_) | refine goG_b (fun h => ?_) (fun h => ?_) | refine goTG_b (fun h => ?_) (fun h => ?_) | refine goOG_b (fun h => ?_) (fun h => ?_)) <;> ((try simp only [Bool.not_eq_true', Bool.not_eq_false'] at h); (try simp only [h]); (try simp only [decide_eq_true_eq, decide_eq_false_iff_not, bne_iff_ne, bne_eq_false_iff_eq, beq_iff_eq, beq_eq_false_iff_ne, ne_eq, Int.not_lt, Int.not_le, Bool.and_eq_true, Bool.and_eq_false_iff, Bool.or_eq_true, Bool.or_eq_false_iff] at h)) <;> (try (exfalso; omega))))
            first | refine goC_call [.r] (hN) ?_ | refine goOC_call [.r] (hN) ?_
            repeat' (first | simp -implicitDefEqProofs (maxSteps := 1000000) (disch := (first | omega | (simp only [go_sem] <;> omega) | fail)) only [go_sem, ints, bools, mat] | ((first | refine goIf_b (fun h => ?_) (fun h => ?_) | refine goG_b (fun h => ?_) (fun h => ?_) | refine goTG_b (fun h => ?_) (fun h => ?_) | refine goOG_b (fun h => ?_) (fun h => ?_)) <;> ((try simp only [Bool.not_eq_true', Bool.not_eq_false'] at h); (try simp only [h]); (try simp only [decide_eq_true_eq, decide_eq_false_iff_not, bne_iff_ne, bne_eq_false_iff_eq, beq_iff_eq, beq_eq_false_iff_ne, ne_eq, Int.not_lt, Int.not_le, Bool.and_eq_true, Bool.and_eq_false_iff, Bool.or_eq_true, Bool.or_eq_false_iff] at h)) <;> (try (exfalso; omega))))
            refine go_loop (fun (k : Nat) => ⟨[(3, .ref 0 0), (5, .sl 1 0 (gdN x d w).length 1), (12, .d (di d)), (13, .d (di w)), (14, .d (db ((List.range k).all fun k => decide (d ≤ distM x ((gdN x d w).getD k 0) w)))), (70, .d (di (gdN x d w).length)), (71, .d (di k)), (109, .ref 2 0)], [some (.var [ints x]), some (.dat 1 ((gdN x d w).map di)), some (.var [cd, di s2.1, du s2.2])]⟩) (fun k => k ≤ (gdN x d w).length) (fun k => (gdN x d w).length - k) 0 ?_ ?_ ?_
            · (simp -implicitDefEqProofs (maxSteps := 1000000) (disch := (first | omega | (simp only [go_sem] <;> omega) | fail)) only [go_sem, ints, bools, mat] <;> rfl)
            · exact Nat.zero_le _
            · rintro k hk J2 hJ2
              by_cases hkl : k < (gdN x d w).length
              · have hgm := gdN_mem x d w _ (mem_getD hkl)
                have hdi := d_spec_l01Distance x hx ((gdN x d w).getD k 0) w hgm.1 (by omega) (by omega) (by omega)
                have hst : ((List.range (k + 1)).all fun k => decide (d ≤ distM x ((gdN x d w).getD k 0) w)) = (((List.range k).all fun k => decide (d ≤ distM x ((gdN x d w).getD k 0) w)) && decide (d ≤ distM x ((gdN x d w).getD k 0) w)) := by
                  rw [List.range_succ, List.all_append, List.all_cons, List.all_nil, Bool.and_true]
                rw [List.range_succ] at hst
                cases hg : (List.range k).all fun k => decide (d ≤ distM x ((gdN x d w).getD k 0) w) with
                | false =>
                  repeat' (first | simp -implicitDefEqProofs (maxSteps := 1000000) (disch := (first | omega | (simp only [go_sem] <;> omega) | fail)) only [go_sem, ints, bools, mat] | ((first | refine goIf_b (fun h => ?_) (fun h => ?_) | refine goG_b (fun h => ?_) (fun h => ?_) | refine goTG_b (fun h => ?_) (fun h => ?_) | refine goOG_b (fun h => ?_) (fun h => ?_)) <;> ((try simp only [Bool.not_eq_true', Bool.not_eq_false'] at h); (try simp only [h]); (try simp only [decide_eq_true_eq, decide_eq_false_iff_not, bne_iff_ne, bne_eq_false_iff_eq, beq_iff_eq, beq_eq_false_iff_ne, ne_eq, Int.not_lt, Int.not_le, Bool.and_eq_true, Bool.and_eq_false_iff, Bool.or_eq_true, Bool.or_eq_false_iff] at h)) <;> (try (exfalso; omega))))
                  refine hJ2 (k + 1) (by omega) (by omega) _ ?_
                  simp -implicitDefEqProofs (maxSteps := 1000000) (disch := (first | omega | (simp only [go_sem] <;> omega) | fail)) only [go_sem, ints, bools, mat]
                  rw [hst, hg]; rfl
                | true =>
                  repeat' (first | simp -implicitDefEqProofs (maxSteps := 1000000) (disch := (first | omega | (simp only [go_sem] <;> omega) | fail)) only [go_sem, ints, bools, mat] | ((first | refine goIf_b (fun h => ?_) (fun h => ?_) | refine goG_b (fun h => ?_) (fun h => ?_) | refine goTG_b (fun h => ?_) (fun h => ?_) | refine goOG_b (fun h => ?_) (fun h => ?_)) <;> ((try simp only [Bool.not_eq_true', Bool.not_eq_false'] at h); (try simp only [h]); (try simp only [decide_eq_true_eq, decide_eq_false_iff_not, bne_iff_ne, bne_eq_false_iff_eq, beq_iff_eq, beq_eq_false_iff_ne, ne_eq, Int.not_lt, Int.not_le, Bool.and_eq_true, Bool.and_eq_false_iff, Bool.or_eq_true, Bool.or_eq_false_iff] at h)) <;> (try (exfalso; omega))))
                  first | refine goC_call [.r, .r, .r] (hdi) ?_ | refine goOC_call [.r, .r, .r] (hdi) ?_
                  repeat' (first | simp -implicitDefEqProofs (maxSteps := 1000000) (disch := (first | omega | (simp only [go_sem] <;> omega) | fail)) only [go_sem, ints, bools, mat] | ((first | refine goIf_b (fun h => ?_) (fun h => ?_) | refine goG_b (fun h => ?_) (fun h => ?_) | refine goTG_b (fun h => ?_) (fun h => ?_) | refine goOG_b (fun h => ?_) (fun h => ?_)) <;> ((try simp only [Bool.not_eq_true', Bool.not_eq_false'] at h); (try simp only [h]); (try simp only [decide_eq_true_eq, decide_eq_false_iff_not, bne_iff_ne, bne_eq_false_iff_eq, beq_iff_eq, beq_eq_false_iff_ne, ne_eq, Int.not_lt, Int.not_le, Bool.and_eq_true, Bool.and_eq_false_iff, Bool.or_eq_true, Bool.or_eq_false_iff] at h)) <;> (try (exfalso; omega))))
                  refine hJ2 (k + 1) (by omega) (by omega) _ ?_
                  simp -implicitDefEqProofs (maxSteps := 1000000) (disch := (first | omega | (simp only [go_sem] <;> omega) | fail)) only [go_sem, ints, bools, mat]
                  rw [hst, hg, Bool.true_and]; rfl
              · have e : k = (gdN x d w).length := by omega
                subst e
                cases hg : (List.range (gdN x d w).length).all fun k => decide (d ≤ distM x ((gdN x d w).getD k 0) w) with
                | false =>
                  repeat' (first | simp -implicitDefEqProofs (maxSteps := 1000000) (disch := (first | omega | (simp only [go_sem] <;> omega) | fail)) only [go_sem, ints, bools, mat] | ((first | refine goIf_b (fun h => ?_) (fun h => ?_) | refine goG_b (fun h => ?_) (fun h => ?_) | refine goTG_b (fun h => ?_) (fun h => ?_) | refine goOG_b (fun h => ?_) (fun h => ?_)) <;> ((try simp only [Bool.not_eq_true', Bool.not_eq_false'] at h); (try simp only [h]); (try simp only [decide_eq_true_eq, decide_eq_false_iff_not, bne_iff_ne, bne_eq_false_iff_eq, beq_iff_eq, beq_eq_false_iff_ne, ne_eq, Int.not_lt, Int.not_le, Bool.and_eq_true, Bool.and_eq_false_iff, Bool.or_eq_true, Bool.or_eq_false_iff] at h)) <;> (try (exfalso; omega))))
                  refine hJ (w + 1) (by omega) (by omega) _ ?_
                  simp -implicitDefEqProofs (maxSteps := 1000000) (disch := (first | omega | (simp only [go_sem] <;> omega) | fail)) only [go_sem, ints, bools, mat]
                  rw [gdN, if_neg (by rw [hg]; decide)]; rfl
                | true =>
                  repeat' (first | simp -implicitDefEqProofs (maxSteps := 1000000) (disch := (first | omega | (simp only [go_sem] <;> omega) | fail)) only [go_sem, ints, bools, mat] | ((first | refine goIf_b (fun h => ?_) (fun h => ?_) | refine goG_b (fun h => ?_) (fun h => ?_) | refine goTG_b (fun h => ?_) (fun h => ?_) | refine goOG_b (fun h => ?_) (fun h => ?_)) <;> ((try simp only [Bool.not_eq_true', Bool.not_eq_false'] at h); (try simp only [h]); (try simp only [decide_eq_true_eq, decide_eq_false_iff_not, bne_iff_ne, bne_eq_false_iff_eq, beq_iff_eq, beq_eq_false_iff_ne, ne_eq, Int.not_lt, Int.not_le, Bool.and_eq_true, Bool.and_eq_false_iff, Bool.or_eq_true, Bool.or_eq_false_iff] at h)) <;> (try (exfalso; omega))))
                  refine hJ (w + 1) (by omega) (by omega) _ ?_
                  simp -implicitDefEqProofs (maxSteps := 1000000) (disch := (first | omega | (simp only [go_sem] <;> omega) | fail)) only [go_sem, ints, bools, mat]
                  rw [gdN, if_pos hg]; simp
          · have e : w = (prodM x).toNat := by omega
            subst e
            repeat' (first | simp -implicitDefEqProofs (maxSteps := 1000000) (disch := (first | omega | (simp only [go_sem] <;> omega) | fail)) only [go_sem, ints, bools, mat] | ((first | refine goIf_b (fun h => ?_) (fun h => ?_) | refine goG_b (fun h => ?_) (fun h => ?_) | refine goTG_b (fun h => ?_) (fun h => ?_) | refine goOG_b (fun h => ?_) (fun h => ?_)) <;> ((try simp only [Bool.not_eq_true', Bool.not_eq_false'] at h); (try simp only [h]); (try simp only [decide_eq_true_eq, decide_eq_false_iff_not, bne_iff_ne, bne_eq_false_iff_eq, beq_iff_eq, beq_eq_false_iff_ne, ne_eq, Int.not_lt, Int.not_le, Bool.and_eq_true, Bool.and_eq_false_iff, Bool.or_eq_true, Bool.or_eq_false_iff] at h)) <;> (try (exfalso; omega))))
            first | refine goC_call [.r] (hN) ?_ | refine goOC_call [.r] (hN) ?_
            repeat' (first | simp -implicitDefEqProofs (maxSteps := 1000000) (disch := (first | omega | (simp only [go_sem] <;> omega) | fail)) only [go_sem, ints, bools, mat] | ((first | refine goIf_b (fun h => ?_) (fun h => ?_) | refine goG_b (fun h => ?_) (fun h => ?_) | refine goTG_b (fun h => ?_) (fun h => ?_) | refine goOG_b (fun h => ?_) (fun h => ?_)) <;> ((try simp only [Bool.not_eq_true', Bool.not_eq_false'] at h); (try simp only [h]); (try simp only [decide_eq_true_eq, decide_eq_false_iff_not, bne_iff_ne, bne_eq_false_iff_eq, beq_iff_eq, beq_eq_false_iff_ne, ne_eq, Int.not_lt, Int.not_le, Bool.and_eq_true, Bool.and_eq_false_iff, Bool.or_eq_true, Bool.or_eq_false_iff] at h)) <;> (try (exfalso; omega))))
    · obtain ⟨m, s2, hs2, hm, d2⟩ := ex_pik H hs1 [3, 8, 20] (by simp) (by simp)
      simp only [List.mem_cons, List.mem_nil_iff, or_false] at hm
      obtain ⟨n, s3, hs3, n1, n2, d3⟩ := ex_nxt H hs2 (q := m) (by omega)
      obtain ⟨X, hX⟩ : ∃ X : Nat → List Int × Src, X = fun k => Nat.rec (motive := fun _ => List Int × Src) ([], s3) (fun _ p => (putI p.1 (nxt l p.2 (prodM x)).1, (nxt l p.2 (prodM x)).2)) k := ⟨_, rfl⟩
      have X0 : X 0 = ([], s3) := by rw [hX]; rfl
      have XS : ∀ k, X (k + 1) = (putI (X k).1 (nxt l (X k).2 (prodM x)).1, (nxt l (X k).2 (prodM x)).2) := fun k => by rw [hX]
      have key : ∀ k, (X k).1.length ≤ k ∧ inC x (X k).1 ∧ okS l (X k).2 := by
        intro k
        induction k with
        | zero => rw [X0]; exact ⟨Nat.le_refl _, fun u hu => by simp at hu, hs3⟩
        | succ k ih =>
          rw [XS]
          refine ⟨?_, fun u hu => ?_, nxt_ok ih.2.2 _⟩
          · have := putI_len (X k).1 (nxt l (X k).2 (prodM x)).1
            dsimp only; omega
          · rcases (putI_mem u).1 hu with h | h
            · exact ih.2.1 u h
            · subst h; exact nxt_bnd (by omega)
      have hk := key n.toNat
      refine ⟨(X n.toNat).1, (X n.toNat).2, hk.2.2, by omega, hk.2.1, den_go [0] l_spec_l01DrawCode ?_⟩
      repeat' (first | simp -implicitDefEqProofs (maxSteps := 1000000) (disch := (first | omega | (simp only [go_sem] <;> omega) | fail)) only [go_sem, ints, bools, mat, c_spec_l01DrawCode, srcR] | ((first | refine goIf_b (fun h => ?_) (fun h => ?_) | refine goG_b (fun h => ?_) (fun h => ?_) | refine goTG_b (fun h => ?_) (fun h => ?_) | refine goOG_b (fun h => ?_) (fun h => ?_)) <;> ((try simp only [Bool.not_eq_true', Bool.not_eq_false'] at h); (try simp only [h]); (try simp only [decide_eq_true_eq, decide_eq_false_iff_not, bne_iff_ne, bne_eq_false_iff_eq, beq_iff_eq, beq_eq_false_iff_ne, ne_eq, Int.not_lt, Int.not_le, Bool.and_eq_true, Bool.and_eq_false_iff, Bool.or_eq_true, Bool.or_eq_false_iff] at h)) <;> (try (exfalso; omega))))
      first | refine goC_call [.bm, .r] (d1) ?_ | refine goOC_call [.bm, .r] (d1) ?_
      repeat' (first | simp -implicitDefEqProofs (maxSteps := 1000000) (disch := (first | omega | (simp only [go_sem] <;> omega) | fail)) only [go_sem, ints, bools, mat] | ((first | refine goIf_b (fun h => ?_) (fun h => ?_) | refine goG_b (fun h => ?_) (fun h => ?_) | refine goTG_b (fun h => ?_) (fun h => ?_) | refine goOG_b (fun h => ?_) (fun h => ?_)) <;> ((try simp only [Bool.not_eq_true', Bool.not_eq_false'] at h); (try simp only [h]); (try simp only [decide_eq_true_eq, decide_eq_false_iff_not, bne_iff_ne, bne_eq_false_iff_eq, beq_iff_eq, beq_eq_false_iff_ne, ne_eq, Int.not_lt, Int.not_le, Bool.and_eq_true, Bool.and_eq_false_iff, Bool.or_eq_true, Bool.or_eq_false_iff] at h)) <;> (try (exfalso; omega))))
      first | refine goC_call [.bm, .f] (d2) ?_ | refine goOC_call [.bm, .f] (d2) ?_
      repeat' (first | simp -implicitDefEqProofs (maxSteps := 1000000) (disch := (first | omega | (simp only [go_sem] <;> omega) | fail)) only [go_sem, ints, bools, mat] | ((first | refine goIf_b (fun h => ?_) (fun h => ?_) | refine goG_b (fun h => ?_) (fun h => ?_) | refine goTG_b (fun h => ?_) (fun h => ?_) | refine goOG_b (fun h => ?_) (fun h => ?_)) <;> ((try simp only [Bool.not_eq_true', Bool.not_eq_false'] at h); (try simp only [h]); (try simp only [decide_eq_true_eq, decide_eq_false_iff_not, bne_iff_ne, bne_eq_false_iff_eq, beq_iff_eq, beq_eq_false_iff_ne, ne_eq, Int.not_lt, Int.not_le, Bool.and_eq_true, Bool.and_eq_false_iff, Bool.or_eq_true, Bool.or_eq_false_iff] at h)) <;> (try (exfalso; omega))))
      first | refine goC_call [.bm, .r] (d3) ?_ | refine goOC_call [.bm, .r] (d3) ?_
      repeat' (first | simp -implicitDefEqProofs (maxSteps := 1000000) (disch := (first | omega | (simp only [go_sem] <;> omega) | fail)) only [go_sem, ints, bools, mat] | ((first | refine goIf_b (fun h => ?_) (fun h => ?_) | refine goG_b (fun h => ?_) (fun h => ?_) | refine goTG_b (fun h => ?_) (fun h => ?_) | refine goOG_b (fun h => ?_) (fun h => ?_)) <;> ((try simp only [Bool.not_eq_true', Bool.not_eq_false'] at h); (try simp only [h]); (try simp only [decide_eq_true_eq, decide_eq_false_iff_not, bne_iff_ne, bne_eq_false_iff_eq, beq_iff_eq, beq_eq_false_iff_ne, ne_eq, Int.not_lt, Int.not_le, Bool.and_eq_true, Bool.and_eq_false_iff, Bool.or_eq_true, Bool.or_eq_false_iff] at h)) <;> (try (exfalso; omega))))
      refine go_loop (fun (k : Nat) => ⟨[(0, .ref 0 0), (3, .ref 1 0), (5, .sl 2 0 (X k).1.length 1), (16, .d (di (n - k))), (109, .ref 0 0)], [some (.var [cd, di (X k).2.1, du (X k).2.2]), some (.var [ints x]), some (.dat 1 ((X k).1.map di))]⟩) (fun k => k ≤ n.toNat) (fun k => n.toNat - k) 0 ?_ ?_ ?_
      · simp -implicitDefEqProofs (maxSteps := 1000000) (disch := (first | omega | (simp only [go_sem] <;> omega) | fail)) only [go_sem, ints, bools, mat]
        rw [X0]
        simp
      · exact Nat.zero_le _
      · rintro k hkn J hJ
        have hkk := key k
        by_cases hlt : k < n.toNat
        · have dn := d_nxt H hkk.2.2 (prodM x)
          have dp := d_spec_l01Put (X k).1 (nxt l (X k).2 (prodM x)).1 (by omega)
          repeat' (first | simp -implicitDefEqProofs (maxSteps := 1000000) (disch := (first | omega | (simp only [go_sem] <;> omega) | fail)) only [go_sem, ints, bools, mat] | ((first | refine goIf_b (fun h => ?_) (fun h => ?_) | refine goG_b (fun h => ?_) (fun h => ?_) | refine goTG_b (fun h => ?_) (fun h => ?_) | refine goOG_b (fun h => ?_) (fun h => ?_)) <;> ((try simp only [Bool.not_eq_true', Bool.not_eq_false'] at h); (try simp only [h]); (try simp only [decide_eq_true_eq, decide_eq_false_iff_not, bne_iff_ne, bne_eq_false_iff_eq, beq_iff_eq, beq_eq_false_iff_ne, ne_eq, Int.not_lt, Int.not_le, Bool.and_eq_true, Bool.and_eq_false_iff, Bool.or_eq_true, Bool.or_eq_false_iff] at h)) <;> (try (exfalso; omega))))
          first | refine goC_call [.r] (hN) ?_ | refine goOC_call [.r] (hN) ?_
          repeat' (first | simp -implicitDefEqProofs (maxSteps := 1000000) (disch := (first | omega | (simp only [go_sem] <;> omega) | fail)) only [go_sem, ints, bools, mat] | ((first | refine goIf_b (fun h => ?_) (fun h => ?_) | refine goG_b (fun h => ?_) (fun h => ?_) | refine goTG_b (fun h => ?_) (fun h => ?_) | refine goOG_b (fun h => ?_) (fun h => ?_)) <;> ((try simp only [Bool.not_eq_true', Bool.not_eq_false'] at h); (try simp only [h]); (try simp only [decide_eq_true_eq, decide_eq_false_iff_not, bne_iff_ne, bne_eq_false_iff_eq, beq_iff_eq, beq_eq_false_iff_ne, ne_eq, Int.not_lt, Int.not_le, Bool.and_eq_true, Bool.and_eq_false_iff, Bool.or_eq_true, Bool.or_eq_false_iff] at h)) <;> (try (exfalso; omega))))
          first | refine goC_call [.bm, .r] (dn) ?_ | refine goOC_call [.bm, .r] (dn) ?_
          repeat' (first | simp -implicitDefEqProofs (maxSteps := 1000000) (disch := (first | omega | (simp only [go_sem] <;> omega) | fail)) only [go_sem, ints, bools, mat] | ((first | refine goIf_b (fun h => ?_) (fun h => ?_) | refine goG_b (fun h => ?_) (fun h => ?_) | refine goTG_b (fun h => ?_) (fun h => ?_) | refine goOG_b (fun h => ?_) (fun h => ?_)) <;> ((try simp only [Bool.not_eq_true', Bool.not_eq_false'] at h); (try simp only [h]); (try simp only [decide_eq_true_eq, decide_eq_false_iff_not, bne_iff_ne, bne_eq_false_iff_eq, beq_iff_eq, beq_eq_false_iff_ne, ne_eq, Int.not_lt, Int.not_le, Bool.and_eq_true, Bool.and_eq_false_iff, Bool.or_eq_true, Bool.or_eq_false_iff] at h)) <;> (try (exfalso; omega))))
          first | refine goC_call [.o, .r] (dp) ?_ | refine goOC_call [.o, .r] (dp) ?_
          repeat' (first | simp -implicitDefEqProofs (maxSteps := 1000000) (disch := (first | omega | (simp only [go_sem] <;> omega) | fail)) only [go_sem, ints, bools, mat] | ((first | refine goIf_b (fun h => ?_) (fun h => ?_) | refine goG_b (fun h => ?_) (fun h => ?_) | refine goTG_b (fun h => ?_) (fun h => ?_) | refine goOG_b (fun h => ?_) (fun h => ?_)) <;> ((try simp only [Bool.not_eq_true', Bool.not_eq_false'] at h); (try simp only [h]); (try simp only [decide_eq_true_eq, decide_eq_false_iff_not, bne_iff_ne, bne_eq_false_iff_eq, beq_iff_eq, beq_eq_false_iff_ne, ne_eq, Int.not_lt, Int.not_le, Bool.and_eq_true, Bool.and_eq_false_iff, Bool.or_eq_true, Bool.or_eq_false_iff] at h)) <;> (try (exfalso; omega))))
          refine hJ (k + 1) (by omega) (by omega) _ ?_
          rw [XS]
          simp -implicitDefEqProofs (maxSteps := 1000000) (disch := (first | omega | (simp only [go_sem] <;> omega) | fail)) only [go_sem, ints, bools, mat]
          have e : n - (k : Int) - 1 = n - ((k + 1 : Nat) : Int) := by omega
          rw [e]
        · have e : k = n.toNat := by omega
          subst e
          repeat' (first | simp -implicitDefEqProofs (maxSteps := 1000000) (disch := (first | omega | (simp only [go_sem] <;> omega) | fail)) only [go_sem, ints, bools, mat] | ((first | refine goIf_b (fun h => ?_) (fun h => ?_) | refine goG_b (fun h => ?_) (fun h => ?_) | refine goTG_b (fun h => ?_) (fun h => ?_) | refine goOG_b (fun h => ?_) (fun h => ?_)) <;> ((try simp only [Bool.not_eq_true', Bool.not_eq_false'] at h); (try simp only [h]); (try simp only [decide_eq_true_eq, decide_eq_false_iff_not, bne_iff_ne, bne_eq_false_iff_eq, beq_iff_eq, beq_eq_false_iff_ne, ne_eq, Int.not_lt, Int.not_le, Bool.and_eq_true, Bool.and_eq_false_iff, Bool.or_eq_true, Bool.or_eq_false_iff] at h)) <;> (try (exfalso; omega))))
theorem inC_in64 {x c : List Int} (hx : isSpaceM x = true) (h : inC x c) : ∀ n, n ∈ c → in64 n := fun n hn => by
  have h1 := h n hn
  have h2 := isSpaceM_prod hx
  unfold in64; omega
theorem d_nil_impl_IsSpace : Den PA f_impl_IsSpace [.d (.agg [nil])] [.any] (.d (db false)) := by
  refine den_go [] l_impl_IsSpace ?_
  repeat' (first | simp -implicitDefEqProofs (maxSteps := 1000000) (disch := (first | omega | (simp only [go_sem] <;> omega) | fail)) only [go_sem, ints, bools, mat, c_impl_IsSpace] | ((first | refine goIf_b (fun h => ?_) (fun h => ?_) | refine goG_b (fun h => ?_) (fun h => ?_) | refine goTG_b (fun h => ?_) (fun h => ?_) | refine goOG_b (fun h => ?_) (fun h => ?_)) <;> ((try simp only [Bool.not_eq_true', Bool.not_eq_false'] at h); (try simp only [h]); (try simp only [decide_eq_true_eq, decide_eq_false_iff_not, bne_iff_ne, bne_eq_false_iff_eq, beq_iff_eq, beq_eq_false_iff_ne, ne_eq, Int.not_lt, Int.not_le, Bool.and_eq_true, Bool.and_eq_false_iff, Bool.or_eq_true, Bool.or_eq_false_iff] at h)) <;> (try (exfalso; omega))))
theorem d_nil_spec_l01Is : Den PA f_spec_l01Is [.d (.agg [nil])] [.any] (.d (db false)) := by
  refine den_go [] l_spec_l01Is ?_
  repeat' (first | simp -implicitDefEqProofs (maxSteps := 1000000) (disch := (first | omega | (simp only [go_sem] <;> omega) | fail)) only [go_sem, ints, bools, mat, c_spec_l01Is] | ((first | refine goIf_b (fun h => ?_) (fun h => ?_) | refine goG_b (fun h => ?_) (fun h => ?_) | refine goTG_b (fun h => ?_) (fun h => ?_) | refine goOG_b (fun h => ?_) (fun h => ?_)) <;> ((try simp only [Bool.not_eq_true', Bool.not_eq_false'] at h); (try simp only [h]); (try simp only [decide_eq_true_eq, decide_eq_false_iff_not, bne_iff_ne, bne_eq_false_iff_eq, beq_iff_eq, beq_eq_false_iff_ne, ne_eq, Int.not_lt, Int.not_le, Bool.and_eq_true, Bool.and_eq_false_iff, Bool.or_eq_true, Bool.or_eq_false_iff] at h)) <;> (try (exfalso; omega))))
  first | refine goC_call [.r, .r, .r] (d_spec_l01In 0 1 8) ?_ | refine goOC_call [.r, .r, .r] (d_spec_l01In 0 1 8) ?_
  repeat' (first | simp -implicitDefEqProofs (maxSteps := 1000000) (disch := (first | omega | (simp only [go_sem] <;> omega) | fail)) only [go_sem, ints, bools, mat] | ((first | refine goIf_b (fun h => ?_) (fun h => ?_) | refine goG_b (fun h => ?_) (fun h => ?_) | refine goTG_b (fun h => ?_) (fun h => ?_) | refine goOG_b (fun h => ?_) (fun h => ?_)) <;> ((try simp only [Bool.not_eq_true', Bool.not_eq_false'] at h); (try simp only [h]); (try simp only [decide_eq_true_eq, decide_eq_false_iff_not, bne_iff_ne, bne_eq_false_iff_eq, beq_iff_eq, beq_eq_false_iff_ne, ne_eq, Int.not_lt, Int.not_le, Bool.and_eq_true, Bool.and_eq_false_iff, Bool.or_eq_true, Bool.or_eq_false_iff] at h)) <;> (try (exfalso; omega))))
theorem d_nil_impl_wordCode (x : D) : Den PA f_impl_wordCode [.d (.agg [nil]), .d x] [.any, .any] (.d (di 1)) := by
  refine den_go [] l_impl_wordCode ?_
  repeat' (first | simp -implicitDefEqProofs (maxSteps := 1000000) (disch := (first | omega | (simp only [go_sem] <;> omega) | fail)) only [go_sem, ints, bools, mat, c_impl_wordCode] | ((first | refine goIf_b (fun h => ?_) (fun h => ?_) | refine goG_b (fun h => ?_) (fun h => ?_) | refine goTG_b (fun h => ?_) (fun h => ?_) | refine goOG_b (fun h => ?_) (fun h => ?_)) <;> ((try simp only [Bool.not_eq_true', Bool.not_eq_false'] at h); (try simp only [h]); (try simp only [decide_eq_true_eq, decide_eq_false_iff_not, bne_iff_ne, bne_eq_false_iff_eq, beq_iff_eq, beq_eq_false_iff_ne, ne_eq, Int.not_lt, Int.not_le, Bool.and_eq_true, Bool.and_eq_false_iff, Bool.or_eq_true, Bool.or_eq_false_iff] at h)) <;> (try (exfalso; omega))))
  first | refine goC_call [.r] (d_nil_impl_IsSpace) ?_ | refine goOC_call [.r] (d_nil_impl_IsSpace) ?_
  repeat' (first | simp -implicitDefEqProofs (maxSteps := 1000000) (disch := (first | omega | (simp only [go_sem] <;> omega) | fail)) only [go_sem, ints, bools, mat] | ((first | refine goIf_b (fun h => ?_) (fun h => ?_) | refine goG_b (fun h => ?_) (fun h => ?_) | refine goTG_b (fun h => ?_) (fun h => ?_) | refine goOG_b (fun h => ?_) (fun h => ?_)) <;> ((try simp only [Bool.not_eq_true', Bool.not_eq_false'] at h); (try simp only [h]); (try simp only [decide_eq_true_eq, decide_eq_false_iff_not, bne_iff_ne, bne_eq_false_iff_eq, beq_iff_eq, beq_eq_false_iff_ne, ne_eq, Int.not_lt, Int.not_le, Bool.and_eq_true, Bool.and_eq_false_iff, Bool.or_eq_true, Bool.or_eq_false_iff] at h)) <;> (try (exfalso; omega))))
theorem d_nil_impl_codeCode (c x : D) : Den PA f_impl_codeCode [.d (.agg [nil]), .d c, .d x] [.any, .any, .any] (.d (di 1)) := by
  refine den_go [] l_impl_codeCode ?_
  repeat' (first | simp -implicitDefEqProofs (maxSteps := 1000000) (disch := (first | omega | (simp only [go_sem] <;> omega) | fail)) only [go_sem, ints, bools, mat, c_impl_codeCode] | ((first | refine goIf_b (fun h => ?_) (fun h => ?_) | refine goG_b (fun h => ?_) (fun h => ?_) | refine goTG_b (fun h => ?_) (fun h => ?_) | refine goOG_b (fun h => ?_) (fun h => ?_)) <;> ((try simp only [Bool.not_eq_true', Bool.not_eq_false'] at h); (try simp only [h]); (try simp only [decide_eq_true_eq, decide_eq_false_iff_not, bne_iff_ne, bne_eq_false_iff_eq, beq_iff_eq, beq_eq_false_iff_ne, ne_eq, Int.not_lt, Int.not_le, Bool.and_eq_true, Bool.and_eq_false_iff, Bool.or_eq_true, Bool.or_eq_false_iff] at h)) <;> (try (exfalso; omega))))
  first | refine goC_call [.r, .r] (d_nil_impl_wordCode x) ?_ | refine goOC_call [.r, .r] (d_nil_impl_wordCode x) ?_
  repeat' (first | simp -implicitDefEqProofs (maxSteps := 1000000) (disch := (first | omega | (simp only [go_sem] <;> omega) | fail)) only [go_sem, ints, bools, mat] | ((first | refine goIf_b (fun h => ?_) (fun h => ?_) | refine goG_b (fun h => ?_) (fun h => ?_) | refine goTG_b (fun h => ?_) (fun h => ?_) | refine goOG_b (fun h => ?_) (fun h => ?_)) <;> ((try simp only [Bool.not_eq_true', Bool.not_eq_false'] at h); (try simp only [h]); (try simp only [decide_eq_true_eq, decide_eq_false_iff_not, bne_iff_ne, bne_eq_false_iff_eq, beq_iff_eq, beq_eq_false_iff_ne, ne_eq, Int.not_lt, Int.not_le, Bool.and_eq_true, Bool.and_eq_false_iff, Bool.or_eq_true, Bool.or_eq_false_iff] at h)) <;> (try (exfalso; omega))))
theorem d_nil_spec_l01Given (c : D) : Den PA f_spec_l01Given [.d (.agg [nil]), .d c] [.any, .any] (.d (di 1)) := by
  refine den_go [] l_spec_l01Given ?_
  repeat' (first | simp -implicitDefEqProofs (maxSteps := 1000000) (disch := (first | omega | (simp only [go_sem] <;> omega) | fail)) only [go_sem, ints, bools, mat, c_spec_l01Given] | ((first | refine goIf_b (fun h => ?_) (fun h => ?_) | refine goG_b (fun h => ?_) (fun h => ?_) | refine goTG_b (fun h => ?_) (fun h => ?_) | refine goOG_b (fun h => ?_) (fun h => ?_)) <;> ((try simp only [Bool.not_eq_true', Bool.not_eq_false'] at h); (try simp only [h]); (try simp only [decide_eq_true_eq, decide_eq_false_iff_not, bne_iff_ne, bne_eq_false_iff_eq, beq_iff_eq, beq_eq_false_iff_ne, ne_eq, Int.not_lt, Int.not_le, Bool.and_eq_true, Bool.and_eq_false_iff, Bool.or_eq_true, Bool.or_eq_false_iff] at h)) <;> (try (exfalso; omega))))
  first | refine goC_call [.r] (d_nil_spec_l01Is) ?_ | refine goOC_call [.r] (d_nil_spec_l01Is) ?_
  repeat' (first | simp -implicitDefEqProofs (maxSteps := 1000000) (disch := (first | omega | (simp only [go_sem] <;> omega) | fail)) only [go_sem, ints, bools, mat] | ((first | refine goIf_b (fun h => ?_) (fun h => ?_) | refine goG_b (fun h => ?_) (fun h => ?_) | refine goTG_b (fun h => ?_) (fun h => ?_) | refine goOG_b (fun h => ?_) (fun h => ?_)) <;> ((try simp only [Bool.not_eq_true', Bool.not_eq_false'] at h); (try simp only [h]); (try simp only [decide_eq_true_eq, decide_eq_false_iff_not, bne_iff_ne, bne_eq_false_iff_eq, beq_iff_eq, beq_eq_false_iff_ne, ne_eq, Int.not_lt, Int.not_le, Bool.and_eq_true, Bool.and_eq_false_iff, Bool.or_eq_true, Bool.or_eq_false_iff] at h)) <;> (try (exfalso; omega))))
theorem d_laws_likeInts (l m : List Int) (hl : l.length < 1048577) : Den PA f_laws_likeInts [.d (ints l), .d (ints m)] [.any, .any] (.d (db (decide (l = m)))) := by
  refine den_go [] l_laws_likeInts ?_
  repeat' (first | simp -implicitDefEqProofs (maxSteps := 1000000) (disch := (first | omega | (simp only [go_sem] <;> omega) | fail)) only [go_sem, ints, bools, mat, c_laws_likeInts] | ((first | refine goIf_b (fun h => ?_) (fun h => ?_) | refine goG_b (fun h => ?_) (fun h => ?_) | refine goTG_b (fun h => ?_) (fun h => ?_) | refine goOG_b (fun h => ?_) (fun h => ?_)) <;> ((try simp only [Bool.not_eq_true', Bool.not_eq_false'] at h); (try simp only [h]); (try simp only [decide_eq_true_eq, decide_eq_false_iff_not, bne_iff_ne, bne_eq_false_iff_eq, beq_iff_eq, beq_eq_false_iff_ne, ne_eq, Int.not_lt, Int.not_le, Bool.and_eq_true, Bool.and_eq_false_iff, Bool.or_eq_true, Bool.or_eq_false_iff] at h)) <;> (try (exfalso; omega))))
  · exact dbF fun e => by have := of_decide_eq_true e; subst this; exact h rfl
  · refine go_loop (fun (j : Nat) => ⟨[(0, .d (ints l)), (1, .d (ints m)), (5, .d (di j))], []⟩) (fun j => j ≤ l.length ∧ ∀ i, i < j → l.getD i 0 = m.getD i 0) (fun j => l.length - j) 0 ?_ ?_ ?_
    · (simp -implicitDefEqProofs (maxSteps := 1000000) (disch := (first | omega | (simp only [go_sem] <;> omega) | fail)) only [go_sem, ints, bools, mat] <;> rfl)
    · simp
    · rintro j ⟨hj, hi⟩ J hJ
      repeat' (first | simp -implicitDefEqProofs (maxSteps := 1000000) (disch := (first | omega | (simp only [go_sem] <;> omega) | fail)) only [go_sem, ints, bools, mat] | ((first | refine goIf_b (fun h => ?_) (fun h => ?_) | refine goG_b (fun h => ?_) (fun h => ?_) | refine goTG_b (fun h => ?_) (fun h => ?_) | refine goOG_b (fun h => ?_) (fun h => ?_)) <;> ((try simp only [Bool.not_eq_true', Bool.not_eq_false'] at h); (try simp only [h]); (try simp only [decide_eq_true_eq, decide_eq_false_iff_not, bne_iff_ne, bne_eq_false_iff_eq, beq_iff_eq, beq_eq_false_iff_ne, ne_eq, Int.not_lt, Int.not_le, Bool.and_eq_true, Bool.and_eq_false_iff, Bool.or_eq_true, Bool.or_eq_false_iff] at h)) <;> (try (exfalso; omega))))
      · exact dbF fun e => by have := of_decide_eq_true e; subst this; exact h rfl
      · refine hJ (j + 1) ⟨by omega, all_ext hi (by assumption)⟩ (by omega) _ (by (simp -implicitDefEqProofs (maxSteps := 1000000) (disch := (first | omega | (simp only [go_sem] <;> omega) | fail)) only [go_sem, ints, bools, mat] <;> rfl))
      · exact dbT (decide_eq_true (eq_getD (by omega) fun i hi' => hi i (by omega)))
theorem d_laws_likeInts_nil : Den PA f_laws_likeInts [.d nil, .d nil] [.any, .any] (.d (db true)) := by
  refine den_go [] l_laws_likeInts ?_
  repeat' (first | simp -implicitDefEqProofs (maxSteps := 1000000) (disch := (first | omega | (simp only [go_sem] <;> omega) | fail)) only [go_sem, ints, bools, mat, c_laws_likeInts] | ((first | refine goIf_b (fun h => ?_) (fun h => ?_) | refine goG_b (fun h => ?_) (fun h => ?_) | refine goTG_b (fun h => ?_) (fun h => ?_) | refine goOG_b (fun h => ?_) (fun h => ?_)) <;> ((try simp only [Bool.not_eq_true', Bool.not_eq_false'] at h); (try simp only [h]); (try simp only [decide_eq_true_eq, decide_eq_false_iff_not, bne_iff_ne, bne_eq_false_iff_eq, beq_iff_eq, beq_eq_false_iff_ne, ne_eq, Int.not_lt, Int.not_le, Bool.and_eq_true, Bool.and_eq_false_iff, Bool.or_eq_true, Bool.or_eq_false_iff] at h)) <;> (try (exfalso; omega))))
  refine go_loop (fun (_ : Unit) => ⟨[(0, .d nil), (1, .d nil), (5, .d (di 0))], []⟩) (fun _ => True) (fun _ => 0) () ?_ trivial ?_
  · (simp -implicitDefEqProofs (maxSteps := 1000000) (disch := (first | omega | (simp only [go_sem] <;> omega) | fail)) only [go_sem, ints, bools, mat] <;> rfl)
  · intro _ _ J _
    repeat' (first | simp -implicitDefEqProofs (maxSteps := 1000000) (disch := (first | omega | (simp only [go_sem] <;> omega) | fail)) only [go_sem, ints, bools, mat] | ((first | refine goIf_b (fun h => ?_) (fun h => ?_) | refine goG_b (fun h => ?_) (fun h => ?_) | refine goTG_b (fun h => ?_) (fun h => ?_) | refine goOG_b (fun h => ?_) (fun h => ?_)) <;> ((try simp only [Bool.not_eq_true', Bool.not_eq_false'] at h); (try simp only [h]); (try simp only [decide_eq_true_eq, decide_eq_false_iff_not, bne_iff_ne, bne_eq_false_iff_eq, beq_iff_eq, beq_eq_false_iff_ne, ne_eq, Int.not_lt, Int.not_le, Bool.and_eq_true, Bool.and_eq_false_iff, Bool.or_eq_true, Bool.or_eq_false_iff] at h)) <;> (try (exfalso; omega))))
theorem d_laws_hasInt (l : List Int) (x : Int) (hl : l.length < 1048577) : Den PA f_laws_hasInt [.d (ints l), .d (di x)] [.any, .any] (.d (db (decide (x ∈ l)))) := by
  refine den_go [] l_laws_hasInt ?_
  repeat' (first | simp -implicitDefEqProofs (maxSteps := 1000000) (disch := (first | omega | (simp only [go_sem] <;> omega) | fail)) only [go_sem, ints, bools, mat, c_laws_hasInt] | ((first | refine goIf_b (fun h => ?_) (fun h => ?_) | refine goG_b (fun h => ?_) (fun h => ?_) | refine goTG_b (fun h => ?_) (fun h => ?_) | refine goOG_b (fun h => ?_) (fun h => ?_)) <;> ((try simp only [Bool.not_eq_true', Bool.not_eq_false'] at h); (try simp only [h]); (try simp only [decide_eq_true_eq, decide_eq_false_iff_not, bne_iff_ne, bne_eq_false_iff_eq, beq_iff_eq, beq_eq_false_iff_ne, ne_eq, Int.not_lt, Int.not_le, Bool.and_eq_true, Bool.and_eq_false_iff, Bool.or_eq_true, Bool.or_eq_false_iff] at h)) <;> (try (exfalso; omega))))
  refine go_loop (fun (j : Nat) => ⟨[(0, .d (ints l)), (1, .d (di x)), (5, .d (di j))], []⟩) (fun j => j ≤ l.length ∧ ∀ i, i < j → l.getD i 0 ≠ x) (fun j => l.length - j) 0 ?_ ?_ ?_
  · (simp -implicitDefEqProofs (maxSteps := 1000000) (disch := (first | omega | (simp only [go_sem] <;> omega) | fail)) only [go_sem, ints, bools, mat] <;> rfl)
  · simp
  · rintro j ⟨hj, hi⟩ J hJ
    repeat' (first | simp -implicitDefEqProofs (maxSteps := 1000000) (disch := (first | omega | (simp only [go_sem] <;> omega) | fail)) only [go_sem, ints, bools, mat] | ((first | refine goIf_b (fun h => ?_) (fun h => ?_) | refine goG_b (fun h => ?_) (fun h => ?_) | refine goTG_b (fun h => ?_) (fun h => ?_) | refine goOG_b (fun h => ?_) (fun h => ?_)) <;> ((try simp only [Bool.not_eq_true', Bool.not_eq_false'] at h); (try simp only [h]); (try simp only [decide_eq_true_eq, decide_eq_false_iff_not, bne_iff_ne, bne_eq_false_iff_eq, beq_iff_eq, beq_eq_false_iff_ne, ne_eq, Int.not_lt, Int.not_le, Bool.and_eq_true, Bool.and_eq_false_iff, Bool.or_eq_true, Bool.or_eq_false_iff] at h)) <;> (try (exfalso; omega))))
    · exact dbT (decide_eq_true (by rw [← h]; exact mem_getD (by omega)))
    · refine hJ (j + 1) ⟨by omega, all_ext hi (by assumption)⟩ (by omega) _ (by (simp -implicitDefEqProofs (maxSteps := 1000000) (disch := (first | omega | (simp only [go_sem] <;> omega) | fail)) only [go_sem, ints, bools, mat] <;> rfl))
    · refine dbF fun e => ?_
      obtain ⟨i, hi', e2⟩ := List.mem_iff_getElem.1 (of_decide_eq_true e)
      exact hi i (by omega) (by simpa [hi'] using e2)
theorem d_impl_DistanceOf (l : List Int) (hs : isSpaceM l = true) (u w : Int) (hu : 0 ≤ u ∧ u < prodM l) (hw : 0 ≤ w ∧ w < prodM l) : Den PA f_impl_DistanceOf [.d (.agg [ints l]), .d (di u), .d (di w)] [.any, .any, .any] (.tup [.d (di (distM l u w)), .d (di 0)]) := by
  have hn := isSpaceM_n hs
  have hp := isSpaceM_prod hs
  have hb := distM_bnd l u w
  have hwc := d_impl_wordCode l (by omega) (ints [u, w]) [u, w] (.inl rfl) (by simp)
  have e : wcM l [u, w] = 0 := by
    unfold wcM
    rw [if_pos hs, if_pos]
    simp only [areW, inW, List.all_cons, List.all_nil, Bool.and_true, Bool.and_eq_true, decide_eq_true_eq]
    exact ⟨hu, hw⟩
  rw [e] at hwc
  refine den_go [] l_impl_DistanceOf ?_
  repeat' (first | simp -implicitDefEqProofs (maxSteps := 1000000) (disch := (first | omega | (simp only [go_sem] <;> omega) | fail)) only [go_sem, ints, bools, mat, c_impl_DistanceOf] | ((first | refine goIf_b (fun h => ?_) (fun h => ?_) | refine goG_b (fun h => ?_) (fun h => ?_) | refine goTG_b (fun h => ?_) (fun h => ?_) | refine goOG_b (fun h => ?_) (fun h => ?_)) <;> ((try simp only [Bool.not_eq_true', Bool.not_eq_false'] at h); (try simp only [h]); (try simp only [decide_eq_true_eq, decide_eq_false_iff_not, bne_iff_ne, bne_eq_false_iff_eq, beq_iff_eq, beq_eq_false_iff_ne, ne_eq, Int.not_lt, Int.not_le, Bool.and_eq_true, Bool.and_eq_false_iff, Bool.or_eq_true, Bool.or_eq_false_iff] at h)) <;> (try (exfalso; omega))))
  first | refine goC_call [.r, .r] (hwc) ?_ | refine goOC_call [.r, .r] (hwc) ?_
  repeat' (first | simp -implicitDefEqProofs (maxSteps := 1000000) (disch := (first | omega | (simp only [go_sem] <;> omega) | fail)) only [go_sem, ints, bools, mat] | ((first | refine goIf_b (fun h => ?_) (fun h => ?_) | refine goG_b (fun h => ?_) (fun h => ?_) | refine goTG_b (fun h => ?_) (fun h => ?_) | refine goOG_b (fun h => ?_) (fun h => ?_)) <;> ((try simp only [Bool.not_eq_true', Bool.not_eq_false'] at h); (try simp only [h]); (try simp only [decide_eq_true_eq, decide_eq_false_iff_not, bne_iff_ne, bne_eq_false_iff_eq, beq_iff_eq, beq_eq_false_iff_ne, ne_eq, Int.not_lt, Int.not_le, Bool.and_eq_true, Bool.and_eq_false_iff, Bool.or_eq_true, Bool.or_eq_false_iff] at h)) <;> (try (exfalso; omega))))
  first | refine goC_call [.r, .r, .r] (d_impl_distance l hs u w (by omega) (by omega) (by omega) (by omega)) ?_ | refine goOC_call [.r, .r, .r] (d_impl_distance l hs u w (by omega) (by omega) (by omega) (by omega)) ?_
  repeat' (first | simp -implicitDefEqProofs (maxSteps := 1000000) (disch := (first | omega | (simp only [go_sem] <;> omega) | fail)) only [go_sem, ints, bools, mat] | ((first | refine goIf_b (fun h => ?_) (fun h => ?_) | refine goG_b (fun h => ?_) (fun h => ?_) | refine goTG_b (fun h => ?_) (fun h => ?_) | refine goOG_b (fun h => ?_) (fun h => ?_)) <;> ((try simp only [Bool.not_eq_true', Bool.not_eq_false'] at h); (try simp only [h]); (try simp only [decide_eq_true_eq, decide_eq_false_iff_not, bne_iff_ne, bne_eq_false_iff_eq, beq_iff_eq, beq_eq_false_iff_ne, ne_eq, Int.not_lt, Int.not_le, Bool.and_eq_true, Bool.and_eq_false_iff, Bool.or_eq_true, Bool.or_eq_false_iff] at h)) <;> (try (exfalso; omega))))
theorem lenA_bts {x : D} {l : List Int} (h : IsBts x l) : lenA (.d x) = some (.d (di l.length)) := by
  rcases h with ⟨rfl, _⟩ | ⟨rfl, rfl⟩
  · simp [lenA]
  · rfl
theorem d_laws_big {x : D} {l : List Int} (h : IsBts x l) : Den PA f_laws_big [.d x] [.any] (.d (db (decide (4096 < (l.length : Int))))) := by
  have hl := lenA_bts h
  refine den_go [] l_laws_big ?_
  repeat' (first | simp -implicitDefEqProofs (maxSteps := 1000000) (disch := (first | omega | (simp only [go_sem] <;> omega) | fail)) only [go_sem, ints, bools, mat, c_laws_big, hl] | ((first | refine goIf_b (fun h => ?_) (fun h => ?_) | refine goG_b (fun h => ?_) (fun h => ?_) | refine goTG_b (fun h => ?_) (fun h => ?_) | refine goOG_b (fun h => ?_) (fun h => ?_)) <;> ((try simp only [Bool.not_eq_true', Bool.not_eq_false'] at h); (try simp only [h]); (try simp only [decide_eq_true_eq, decide_eq_false_iff_not, bne_iff_ne, bne_eq_false_iff_eq, beq_iff_eq, beq_eq_false_iff_ne, ne_eq, Int.not_lt, Int.not_le, Bool.and_eq_true, Bool.and_eq_false_iff, Bool.or_eq_true, Bool.or_eq_false_iff] at h)) <;> (try (exfalso; omega))))
theorem ex_small {cd : D} {l : List Int} (H : SrcH cd l) {s : Src} (hs : okS l s) : ∃ (o : List Int) (s' : Src), okS l s' ∧ isSpaceM o = true ∧ Den PA f_spec_l01Small [srcR cd s] [srcR cd s'] (.agg [.own 1 (o.map di)]) := by
  obtain ⟨m, s1, hs1, hm, d1⟩ := ex_pik H hs [8, 27, 81] (by simp) (by simp)
  simp only [List.mem_cons, List.mem_nil_iff, or_false] at hm
  obtain ⟨o, s2, hs2, ho, d2⟩ := ex_drawOf H hs1 (most := m) (by omega) (by omega)
  refine ⟨o, s2, hs2, ho, den_go [0] l_spec_l01Small ?_⟩
  repeat' (first | simp -implicitDefEqProofs (maxSteps := 1000000) (disch := (first | omega | (simp only [go_sem] <;> omega) | fail)) only [go_sem, ints, bools, mat, c_spec_l01Small, srcR] | ((first | refine goIf_b (fun h => ?_) (fun h => ?_) | refine goG_b (fun h => ?_) (fun h => ?_) | refine goTG_b (fun h => ?_) (fun h => ?_) | refine goOG_b (fun h => ?_) (fun h => ?_)) <;> ((try simp only [Bool.not_eq_true', Bool.not_eq_false'] at h); (try simp only [h]); (try simp only [decide_eq_true_eq, decide_eq_false_iff_not, bne_iff_ne, bne_eq_false_iff_eq, beq_iff_eq, beq_eq_false_iff_ne, ne_eq, Int.not_lt, Int.not_le, Bool.and_eq_true, Bool.and_eq_false_iff, Bool.or_eq_true, Bool.or_eq_false_iff] at h)) <;> (try (exfalso; omega))))
  first | refine goC_call [.bm, .f] (d1) ?_ | refine goOC_call [.bm, .f] (d1) ?_
  repeat' (first | simp -implicitDefEqProofs (maxSteps := 1000000) (disch := (first | omega | (simp only [go_sem] <;> omega) | fail)) only [go_sem, ints, bools, mat] | ((first | refine goIf_b (fun h => ?_) (fun h => ?_) | refine goG_b (fun h => ?_) (fun h => ?_) | refine goTG_b (fun h => ?_) (fun h => ?_) | refine goOG_b (fun h => ?_) (fun h => ?_)) <;> ((try simp only [Bool.not_eq_true', Bool.not_eq_false'] at h); (try simp only [h]); (try simp only [decide_eq_true_eq, decide_eq_false_iff_not, bne_iff_ne, bne_eq_false_iff_eq, beq_iff_eq, beq_eq_false_iff_ne, ne_eq, Int.not_lt, Int.not_le, Bool.and_eq_true, Bool.and_eq_false_iff, Bool.or_eq_true, Bool.or_eq_false_iff] at h)) <;> (try (exfalso; omega))))
  first | refine goC_call [.bm, .r] (d2) ?_ | refine goOC_call [.bm, .r] (d2) ?_
  repeat' (first | simp -implicitDefEqProofs (maxSteps := 1000000) (disch := (first | omega | (simp only [go_sem] <;> omega) | fail)) only [go_sem, ints, bools, mat] | ((first | refine goIf_b (fun h => ?_) (fun h => ?_) | refine goG_b (fun h => ?_) (fun h => ?_) | refine goTG_b (fun h => ?_) (fun h => ?_) | refine goOG_b (fun h => ?_) (fun h => ?_)) <;> ((try simp only [Bool.not_eq_true', Bool.not_eq_false'] at h); (try simp only [h]); (try simp only [decide_eq_true_eq, decide_eq_false_iff_not, bne_iff_ne, bne_eq_false_iff_eq, beq_iff_eq, beq_eq_false_iff_ne, ne_eq, Int.not_lt, Int.not_le, Bool.and_eq_true, Bool.and_eq_false_iff, Bool.or_eq_true, Bool.or_eq_false_iff] at h)) <;> (try (exfalso; omega))))
theorem those_in {x : List Int} (hx : isSpaceM x = true) (p : List Int → Bool) : inC x (thoseM x p) ∧ (thoseM x p).length ≤ 1024 := by
  have hp := isSpaceM_prod hx
  have hp1 := prodM_pos (isSpaceM_szs hx)
  have hal := allW_len x
  refine ⟨fun u hu => (allW_mem' hx u).1 (List.mem_filter.1 hu).1, ?_⟩
  have := List.length_filter_le (fun w => p (digM x w)) (allW x)
  unfold thoseM; omega
theorem ex_perfect {cd : D} {l : List Int} (H : SrcH cd l) {s : Src} (hs : okS l s) : ∃ (x c : List Int) (r : Int) (s' : Src), okS l s' ∧ isSpaceM x = true ∧ inC x c ∧ c.length ≤ 1024 ∧ 0 ≤ r ∧ r ≤ 8 ∧ Den PA f_spec_l06DrawPerfect [srcR cd s] [srcR cd s'] (.tup [.d (.agg [ints x]), .own 1 (c.map di), .d (di r)]) := by
  obtain ⟨v, s1, hs1, v1, v2, d1⟩ := ex_nxt H hs (q := 6) (by omega)
  by_cases h0 : v = 0
  · subst h0
    have ht := those_in ham23.hsp (hamP 2 3)
    refine ⟨hamL 2 3, thoseM (hamL 2 3) (hamP 2 3), 1, s1, hs1, ham23.hsp, ht.1, ht.2, by omega, by omega, den_go [0] l_spec_l06DrawPerfect ?_⟩
    have dh := d_spec_l06Hamming 2 3 (by omega) ham23
    generalize hamL 2 3 = L at *
    generalize thoseM L (hamP 2 3) = T at *
    repeat' (first | simp -implicitDefEqProofs (maxSteps := 1000000) (disch := (first | omega | (simp only [go_sem] <;> omega) | fail)) only [go_sem, ints, bools, mat, c_spec_l06DrawPerfect, srcR] | ((first | refine goIf_b (fun h => ?_) (fun h => ?_) | refine goG_b (fun h => ?_) (fun h => ?_) | refine goTG_b (fun h => ?_) (fun h => ?_) | refine goOG_b (fun h => ?_) (fun h => ?_)) <;> ((try simp only [Bool.not_eq_true', Bool.not_eq_false'] at h); (try simp only [h]); (try simp only [decide_eq_true_eq, decide_eq_false_iff_not, bne_iff_ne, bne_eq_false_iff_eq, beq_iff_eq, beq_eq_false_iff_ne, ne_eq, Int.not_lt, Int.not_le, Bool.and_eq_true, Bool.and_eq_false_iff, Bool.or_eq_true, Bool.or_eq_false_iff] at h)) <;> (try (exfalso; omega))))
    first | refine goC_call [.bm, .r] (d1) ?_ | refine goOC_call [.bm, .r] (d1) ?_
    repeat' (first | simp -implicitDefEqProofs (maxSteps := 1000000) (disch := (first | omega | (simp only [go_sem] <;> omega) | fail)) only [go_sem, ints, bools, mat] | ((first | refine goIf_b (fun h => ?_) (fun h => ?_) | refine goG_b (fun h => ?_) (fun h => ?_) | refine goTG_b (fun h => ?_) (fun h => ?_) | refine goOG_b (fun h => ?_) (fun h => ?_)) <;> ((try simp only [Bool.not_eq_true', Bool.not_eq_false'] at h); (try simp only [h]); (try simp only [decide_eq_true_eq, decide_eq_false_iff_not, bne_iff_ne, bne_eq_false_iff_eq, beq_iff_eq, beq_eq_false_iff_ne, ne_eq, Int.not_lt, Int.not_le, Bool.and_eq_true, Bool.and_eq_false_iff, Bool.or_eq_true, Bool.or_eq_false_iff] at h)) <;> (try (exfalso; omega))))
    first | refine goC_call [.r, .r] (dh) ?_ | refine goOC_call [.r, .r] (dh) ?_
    repeat' (first | simp -implicitDefEqProofs (maxSteps := 1000000) (disch := (first | omega | (simp only [go_sem] <;> omega) | fail)) only [go_sem, ints, bools, mat] | ((first | refine goIf_b (fun h => ?_) (fun h => ?_) | refine goG_b (fun h => ?_) (fun h => ?_) | refine goTG_b (fun h => ?_) (fun h => ?_) | refine goOG_b (fun h => ?_) (fun h => ?_)) <;> ((try simp only [Bool.not_eq_true', Bool.not_eq_false'] at h); (try simp only [h]); (try simp only [decide_eq_true_eq, decide_eq_false_iff_not, bne_iff_ne, bne_eq_false_iff_eq, beq_iff_eq, beq_eq_false_iff_ne, ne_eq, Int.not_lt, Int.not_le, Bool.and_eq_true, Bool.and_eq_false_iff, Bool.or_eq_true, Bool.or_eq_false_iff] at h)) <;> (try (exfalso; omega))))
    exact ⟨rfl, rfl, trivial⟩
  · by_cases h1 : v = 1
    · subst h1
      have ht := those_in ham32.hsp (hamP 3 2)
      refine ⟨hamL 3 2, thoseM (hamL 3 2) (hamP 3 2), 1, s1, hs1, ham32.hsp, ht.1, ht.2, by omega, by omega, den_go [0] l_spec_l06DrawPerfect ?_⟩
      have dh := d_spec_l06Hamming 3 2 (by omega) ham32
      generalize hamL 3 2 = L at *
      generalize thoseM L (hamP 3 2) = T at *
      repeat' (first | simp -implicitDefEqProofs (maxSteps := 1000000) (disch := (first | omega | (simp only [go_sem] <;> omega) | fail)) only [go_sem, ints, bools, mat, c_spec_l06DrawPerfect, srcR] | ((first | refine goIf_b (fun h => ?_) (fun h => ?_) | refine goG_b (fun h => ?_) (fun h => ?_) | refine goTG_b (fun h => ?_) (fun h => ?_) | refine goOG_b (fun h => ?_) (fun h => ?_)) <;> ((try simp only [Bool.not_eq_true', Bool.not_eq_false'] at h); (try simp only [h]); (try simp only [decide_eq_true_eq, decide_eq_false_iff_not, bne_iff_ne, bne_eq_false_iff_eq, beq_iff_eq, beq_eq_false_iff_ne, ne_eq, Int.not_lt, Int.not_le, Bool.and_eq_true, Bool.and_eq_false_iff, Bool.or_eq_true, Bool.or_eq_false_iff] at h)) <;> (try (exfalso; omega))))
      first | refine goC_call [.bm, .r] (d1) ?_ | refine goOC_call [.bm, .r] (d1) ?_
      repeat' (first | simp -implicitDefEqProofs (maxSteps := 1000000) (disch := (first | omega | (simp only [go_sem] <;> omega) | fail)) only [go_sem, ints, bools, mat] | ((first | refine goIf_b (fun h => ?_) (fun h => ?_) | refine goG_b (fun h => ?_) (fun h => ?_) | refine goTG_b (fun h => ?_) (fun h => ?_) | refine goOG_b (fun h => ?_) (fun h => ?_)) <;> ((try simp only [Bool.not_eq_true', Bool.not_eq_false'] at h); (try simp only [h]); (try simp only [decide_eq_true_eq, decide_eq_false_iff_not, bne_iff_ne, bne_eq_false_iff_eq, beq_iff_eq, beq_eq_false_iff_ne, ne_eq, Int.not_lt, Int.not_le, Bool.and_eq_true, Bool.and_eq_false_iff, Bool.or_eq_true, Bool.or_eq_false_iff] at h)) <;> (try (exfalso; omega))))
      first | refine goC_call [.r, .r] (dh) ?_ | refine goOC_call [.r, .r] (dh) ?_
      repeat' (first | simp -implicitDefEqProofs (maxSteps := 1000000) (disch := (first | omega | (simp only [go_sem] <;> omega) | fail)) only [go_sem, ints, bools, mat] | ((first | refine goIf_b (fun h => ?_) (fun h => ?_) | refine goG_b (fun h => ?_) (fun h => ?_) | refine goTG_b (fun h => ?_) (fun h => ?_) | refine goOG_b (fun h => ?_) (fun h => ?_)) <;> ((try simp only [Bool.not_eq_true', Bool.not_eq_false'] at h); (try simp only [h]); (try simp only [decide_eq_true_eq, decide_eq_false_iff_not, bne_iff_ne, bne_eq_false_iff_eq, beq_iff_eq, beq_eq_false_iff_ne, ne_eq, Int.not_lt, Int.not_le, Bool.and_eq_true, Bool.and_eq_false_iff, Bool.or_eq_true, Bool.or_eq_false_iff] at h)) <;> (try (exfalso; omega))))
      exact ⟨rfl, rfl, trivial⟩
    · by_cases h2 : v = 2
      · subst h2
        refine ⟨[2, 2, 2, 2, 2], [0, 31], 2, s1, hs1, by decide, fun u hu => ?_, by simp, by omega, by omega, den_go [0] l_spec_l06DrawPerfect ?_⟩
        · simp only [List.mem_cons, List.mem_nil_iff, or_false] at hu
          have e : prodM [2, 2, 2, 2, 2] = 32 := by decide
          rw [e]; omega
        · repeat' (first | simp -implicitDefEqProofs (maxSteps := 1000000) (disch := (first | omega | (simp only [go_sem] <;> omega) | fail)) only [go_sem, ints, bools, mat, c_spec_l06DrawPerfect, srcR] | ((first | refine goIf_b (fun h => ?_) (fun h => ?_) | refine goG_b (fun h => ?_) (fun h => ?_) | refine goTG_b (fun h => ?_) (fun h => ?_) | refine goOG_b (fun h => ?_) (fun h => ?_)) <;> ((try simp only [Bool.not_eq_true', Bool.not_eq_false'] at h); (try simp only [h]); (try simp only [decide_eq_true_eq, decide_eq_false_iff_not, bne_iff_ne, bne_eq_false_iff_eq, beq_iff_eq, beq_eq_false_iff_ne, ne_eq, Int.not_lt, Int.not_le, Bool.and_eq_true, Bool.and_eq_false_iff, Bool.or_eq_true, Bool.or_eq_false_iff] at h)) <;> (try (exfalso; omega))))
          first | refine goC_call [.bm, .r] (d1) ?_ | refine goOC_call [.bm, .r] (d1) ?_
          repeat' (first | simp -implicitDefEqProofs (maxSteps := 1000000) (disch := (first | omega | (simp only [go_sem] <;> omega) | fail)) only [go_sem, ints, bools, mat] | ((first | refine goIf_b (fun h => ?_) (fun h => ?_) | refine goG_b (fun h => ?_) (fun h => ?_) | refine goTG_b (fun h => ?_) (fun h => ?_) | refine goOG_b (fun h => ?_) (fun h => ?_)) <;> ((try simp only [Bool.not_eq_true', Bool.not_eq_false'] at h); (try simp only [h]); (try simp only [decide_eq_true_eq, decide_eq_false_iff_not, bne_iff_ne, bne_eq_false_iff_eq, beq_iff_eq, beq_eq_false_iff_ne, ne_eq, Int.not_lt, Int.not_le, Bool.and_eq_true, Bool.and_eq_false_iff, Bool.or_eq_true, Bool.or_eq_false_iff] at h)) <;> (try (exfalso; omega))))
      · by_cases h3 : v = 3
        · subst h3
          obtain ⟨x, s2, hs2, hx, d2⟩ := ex_small H hs1
          have hd2 := d2.le .frzA
          have hn := isSpaceM_n hx
          have hp1 := prodM_pos (isSpaceM_szs hx)
          obtain ⟨u, s3, hs3, u1, u2, d3⟩ := ex_nxt H hs2 (q := prodM x) (by omega)
          refine ⟨x, [u], x.length, s3, hs3, hx, fun y hy => by simp at hy; subst hy; exact ⟨u1, u2⟩, by simp, by omega, by omega, den_go [0] l_spec_l06DrawPerfect ?_⟩
          repeat' (first | simp -implicitDefEqProofs (maxSteps := 1000000) (disch := (first | omega | (simp only [go_sem] <;> omega) | fail)) only [go_sem, ints, bools, mat, c_spec_l06DrawPerfect, srcR] | ((first | refine goIf_b (fun h => ?_) (fun h => ?_) | refine goG_b (fun h => ?_) (fun h => ?_) | refine goTG_b (fun h => ?_) (fun h => ?_) | refine goOG_b (fun h => ?_) (fun h => ?_)) <;> ((try simp only [Bool.not_eq_true', Bool.not_eq_false'] at h); (try simp only [h]); (try simp only [decide_eq_true_eq, decide_eq_false_iff_not, bne_iff_ne, bne_eq_false_iff_eq, beq_iff_eq, beq_eq_false_iff_ne, ne_eq, Int.not_lt, Int.not_le, Bool.and_eq_true, Bool.and_eq_false_iff, Bool.or_eq_true, Bool.or_eq_false_iff] at h)) <;> (try (exfalso; omega))))
          first | refine goC_call [.bm, .r] (d1) ?_ | refine goOC_call [.bm, .r] (d1) ?_
          repeat' (first | simp -implicitDefEqProofs (maxSteps := 1000000) (disch := (first | omega | (simp only [go_sem] <;> omega) | fail)) only [go_sem, ints, bools, mat] | ((first | refine goIf_b (fun h => ?_) (fun h => ?_) | refine goG_b (fun h => ?_) (fun h => ?_) | refine goTG_b (fun h => ?_) (fun h => ?_) | refine goOG_b (fun h => ?_) (fun h => ?_)) <;> ((try simp only [Bool.not_eq_true', Bool.not_eq_false'] at h); (try simp only [h]); (try simp only [decide_eq_true_eq, decide_eq_false_iff_not, bne_iff_ne, bne_eq_false_iff_eq, beq_iff_eq, beq_eq_false_iff_ne, ne_eq, Int.not_lt, Int.not_le, Bool.and_eq_true, Bool.and_eq_false_iff, Bool.or_eq_true, Bool.or_eq_false_iff] at h)) <;> (try (exfalso; omega))))
          first | refine goC_call [.bm] (hd2) ?_ | refine goOC_call [.bm] (hd2) ?_
          repeat' (first | simp -implicitDefEqProofs (maxSteps := 1000000) (disch := (first | omega | (simp only [go_sem] <;> omega) | fail)) only [go_sem, ints, bools, mat] | ((first | refine goIf_b (fun h => ?_) (fun h => ?_) | refine goG_b (fun h => ?_) (fun h => ?_) | refine goTG_b (fun h => ?_) (fun h => ?_) | refine goOG_b (fun h => ?_) (fun h => ?_)) <;> ((try simp only [Bool.not_eq_true', Bool.not_eq_false'] at h); (try simp only [h]); (try simp only [decide_eq_true_eq, decide_eq_false_iff_not, bne_iff_ne, bne_eq_false_iff_eq, beq_iff_eq, beq_eq_false_iff_ne, ne_eq, Int.not_lt, Int.not_le, Bool.and_eq_true, Bool.and_eq_false_iff, Bool.or_eq_true, Bool.or_eq_false_iff] at h)) <;> (try (exfalso; omega))))
          first | refine goC_call [.r] (d_spec_l01N x (by omega) (isSpaceM_q hx)) ?_ | refine goOC_call [.r] (d_spec_l01N x (by omega) (isSpaceM_q hx)) ?_
          repeat' (first | simp -implicitDefEqProofs (maxSteps := 1000000) (disch := (first | omega | (simp only [go_sem] <;> omega) | fail)) only [go_sem, ints, bools, mat] | ((first | refine goIf_b (fun h => ?_) (fun h => ?_) | refine goG_b (fun h => ?_) (fun h => ?_) | refine goTG_b (fun h => ?_) (fun h => ?_) | refine goOG_b (fun h => ?_) (fun h => ?_)) <;> ((try simp only [Bool.not_eq_true', Bool.not_eq_false'] at h); (try simp only [h]); (try simp only [decide_eq_true_eq, decide_eq_false_iff_not, bne_iff_ne, bne_eq_false_iff_eq, beq_iff_eq, beq_eq_false_iff_ne, ne_eq, Int.not_lt, Int.not_le, Bool.and_eq_true, Bool.and_eq_false_iff, Bool.or_eq_true, Bool.or_eq_false_iff] at h)) <;> (try (exfalso; omega))))
          first | refine goC_call [.bm, .r] (d3) ?_ | refine goOC_call [.bm, .r] (d3) ?_
          repeat' (first | simp -implicitDefEqProofs (maxSteps := 1000000) (disch := (first | omega | (simp only [go_sem] <;> omega) | fail)) only [go_sem, ints, bools, mat] | ((first | refine goIf_b (fun h => ?_) (fun h => ?_) | refine goG_b (fun h => ?_) (fun h => ?_) | refine goTG_b (fun h => ?_) (fun h => ?_) | refine goOG_b (fun h => ?_) (fun h => ?_)) <;> ((try simp only [Bool.not_eq_true', Bool.not_eq_false'] at h); (try simp only [h]); (try simp only [decide_eq_true_eq, decide_eq_false_iff_not, bne_iff_ne, bne_eq_false_iff_eq, beq_iff_eq, beq_eq_false_iff_ne, ne_eq, Int.not_lt, Int.not_le, Bool.and_eq_true, Bool.and_eq_false_iff, Bool.or_eq_true, Bool.or_eq_false_iff] at h)) <;> (try (exfalso; omega))))
          rw [goS_two]
          refine ⟨?_, ?_⟩
          · repeat' (first | simp -implicitDefEqProofs (maxSteps := 1000000) (disch := (first | omega | (simp only [go_sem] <;> omega) | fail)) only [go_sem, ints, bools, mat] | ((first | refine goIf_b (fun h => ?_) (fun h => ?_) | refine goG_b (fun h => ?_) (fun h => ?_) | refine goTG_b (fun h => ?_) (fun h => ?_) | refine goOG_b (fun h => ?_) (fun h => ?_)) <;> ((try simp only [Bool.not_eq_true', Bool.not_eq_false'] at h); (try simp only [h]); (try simp only [decide_eq_true_eq, decide_eq_false_iff_not, bne_iff_ne, bne_eq_false_iff_eq, beq_iff_eq, beq_eq_false_iff_ne, ne_eq, Int.not_lt, Int.not_le, Bool.and_eq_true, Bool.and_eq_false_iff, Bool.or_eq_true, Bool.or_eq_false_iff] at h)) <;> (try (exfalso; omega))))
          · repeat' (first | simp -implicitDefEqProofs (maxSteps := 1000000) (disch := (first | omega | (simp only [go_sem] <;> omega) | fail)) only [go_sem, ints, bools, mat] | ((first | refine goIf_b (fun h => ?_) (fun h => ?_) | refine goG_b (fun h => ?_) (fun h => ?_) | refine goTG_b (fun h => ?_) (fun h => ?_) | refine goOG_b (fun h => ?_) (fun h => ?_)) <;> ((try simp only [Bool.not_eq_true', Bool.not_eq_false'] at h); (try simp only [h]); (try simp only [decide_eq_true_eq, decide_eq_false_iff_not, bne_iff_ne, bne_eq_false_iff_eq, beq_iff_eq, beq_eq_false_iff_ne, ne_eq, Int.not_lt, Int.not_le, Bool.and_eq_true, Bool.and_eq_false_iff, Bool.or_eq_true, Bool.or_eq_false_iff] at h)) <;> (try (exfalso; omega))))
        · have ht := those_in ham22.hsp (hamP 2 2)
          refine ⟨hamL 2 2, thoseM (hamL 2 2) (hamP 2 2), 1, s1, hs1, ham22.hsp, ht.1, ht.2, by omega, by omega, den_go [0] l_spec_l06DrawPerfect ?_⟩
          have dh := d_spec_l06Hamming 2 2 (by omega) ham22
          generalize hamL 2 2 = L at *
          generalize thoseM L (hamP 2 2) = T at *
          repeat' (first | simp -implicitDefEqProofs (maxSteps := 1000000) (disch := (first | omega | (simp only [go_sem] <;> omega) | fail)) only [go_sem, ints, bools, mat, c_spec_l06DrawPerfect, srcR] | ((first | refine goIf_b (fun h => ?_) (fun h => ?_) | refine goG_b (fun h => ?_) (fun h => ?_) | refine goTG_b (fun h => ?_) (fun h => ?_) | refine goOG_b (fun h => ?_) (fun h => ?_)) <;> ((try simp only [Bool.not_eq_true', Bool.not_eq_false'] at h); (try simp only [h]); (try simp only [decide_eq_true_eq, decide_eq_false_iff_not, bne_iff_ne, bne_eq_false_iff_eq, beq_iff_eq, beq_eq_false_iff_ne, ne_eq, Int.not_lt, Int.not_le, Bool.and_eq_true, Bool.and_eq_false_iff, Bool.or_eq_true, Bool.or_eq_false_iff] at h)) <;> (try (exfalso; omega))))
          first | refine goC_call [.bm, .r] (d1) ?_ | refine goOC_call [.bm, .r] (d1) ?_
          repeat' (first | simp -implicitDefEqProofs (maxSteps := 1000000) (disch := (first | omega | (simp only [go_sem] <;> omega) | fail)) only [go_sem, ints, bools, mat] | ((first | refine goIf_b (fun h => ?_) (fun h => ?_) | refine goG_b (fun h => ?_) (fun h => ?_) | refine goTG_b (fun h => ?_) (fun h => ?_) | refine goOG_b (fun h => ?_) (fun h => ?_)) <;> ((try simp only [Bool.not_eq_true', Bool.not_eq_false'] at h); (try simp only [h]); (try simp only [decide_eq_true_eq, decide_eq_false_iff_not, bne_iff_ne, bne_eq_false_iff_eq, beq_iff_eq, beq_eq_false_iff_ne, ne_eq, Int.not_lt, Int.not_le, Bool.and_eq_true, Bool.and_eq_false_iff, Bool.or_eq_true, Bool.or_eq_false_iff] at h)) <;> (try (exfalso; omega))))
          first | refine goC_call [.r, .r] (dh) ?_ | refine goOC_call [.r, .r] (dh) ?_
          repeat' (first | simp -implicitDefEqProofs (maxSteps := 1000000) (disch := (first | omega | (simp only [go_sem] <;> omega) | fail)) only [go_sem, ints, bools, mat] | ((first | refine goIf_b (fun h => ?_) (fun h => ?_) | refine goG_b (fun h => ?_) (fun h => ?_) | refine goTG_b (fun h => ?_) (fun h => ?_) | refine goOG_b (fun h => ?_) (fun h => ?_)) <;> ((try simp only [Bool.not_eq_true', Bool.not_eq_false'] at h); (try simp only [h]); (try simp only [decide_eq_true_eq, decide_eq_false_iff_not, bne_iff_ne, bne_eq_false_iff_eq, beq_iff_eq, beq_eq_false_iff_ne, ne_eq, Int.not_lt, Int.not_le, Bool.and_eq_true, Bool.and_eq_false_iff, Bool.or_eq_true, Bool.or_eq_false_iff] at h)) <;> (try (exfalso; omega))))
          exact ⟨rfl, trivial⟩
end Go.Proofs.Ytfgjfjgkoabfjaa.Va
