/- Contracts of the functions that FnApart reaches (part 1). Condition: none. -/
import Derived.Test.YtgmocipfgfnolaaGreatDoorDFnApart0
set_option linter.all false
set_option linter.unusedSimpArgs false
set_option linter.unusedVariables false
namespace Go.Proofs.YtgmocipfgfnolaaGreatDoor.Va
open Go
set_option maxHeartbeats 4000000
set_option maxRecDepth 100000
theorem d_spec_CanGrow (l c : List Int) (d : Int) (hl : l.length < 1048577) (hc : c.length < 1048577) : Den PA f_spec_CanGrow [.d (.agg [ints l]), .d (ints c), .d (di d)] [.any, .any, .any] (growR l c d) := by
  refine den_go [] l_spec_CanGrow ?_
  repeat' (first | simp -implicitDefEqProofs (maxSteps := 1000000) (disch := (first | omega | (simp only [go_sem] <;> omega) | fail)) only [go_sem, ints, bools, mat, c_spec_CanGrow] | ((first | apply goIf_b | apply goG_b | apply goTG_b | apply goOG_b) <;> intro h <;> ((try simp only [Bool.not_eq_true', Bool.not_eq_false'] at h); (try simp only [h]); (try simp only [decide_eq_true_eq, decide_eq_false_iff_not, bne_iff_ne, bne_eq_false_iff_eq, beq_iff_eq, beq_eq_false_iff_ne, ne_eq, Int.not_lt, Int.not_le, Bool.and_eq_true, Bool.and_eq_false_iff, Bool.or_eq_true, Bool.or_eq_false_iff] at h))))
  first | refine goC_call [.r, .r, .r] (d_spec_l04Given l c hl hc d) ?_ | refine goOC_call [.r, .r, .r] (d_spec_l04Given l c hl hc d) ?_
  by_cases h : acM l c d = 0
  · obtain ⟨hs, hcc, hd⟩ := acM_ok h
    have hn := isSpaceM_n hs
    have hp := isSpaceM_prod hs
    have hp1 := prodM_pos (isSpaceM_szs hs)
    have hcs := code_small hs hcc
    rw [growR, h, decide_eq_true (rfl : (0 : Int) = 0), Bool.true_and]
    repeat' (first | simp -implicitDefEqProofs (maxSteps := 1000000) (disch := (first | omega | (simp only [go_sem] <;> omega) | fail)) only [go_sem, ints, bools, mat] | ((first | apply goIf_b | apply goG_b | apply goTG_b | apply goOG_b) <;> intro h <;> ((try simp only [Bool.not_eq_true', Bool.not_eq_false'] at h); (try simp only [h]); (try simp only [decide_eq_true_eq, decide_eq_false_iff_not, bne_iff_ne, bne_eq_false_iff_eq, beq_iff_eq, beq_eq_false_iff_ne, ne_eq, Int.not_lt, Int.not_le, Bool.and_eq_true, Bool.and_eq_false_iff, Bool.or_eq_true, Bool.or_eq_false_iff] at h))))
    refine go_loop (fun (w : Nat) => ⟨[(1, .d (ints c)), (2, .d (di d)), (3, .ref 0 0), (9, .d (di w))], [some (.var [ints l])]⟩) (fun w => w ≤ (prodM l).toNat ∧ ∀ i, i < w → growP l c d i = false) (fun w => (prodM l).toNat - w) 0 ?_ ?_ ?_
    · (simp -implicitDefEqProofs (maxSteps := 1000000) (disch := (first | omega | (simp only [go_sem] <;> omega) | fail)) only [go_sem, ints, bools, mat] <;> rfl)
    · simp
    · rintro w ⟨hw, hi⟩ J hJ
      repeat' (first | simp -implicitDefEqProofs (maxSteps := 1000000) (disch := (first | omega | (simp only [go_sem] <;> omega) | fail)) only [go_sem, ints, bools, mat] | ((first | apply goIf_b | apply goG_b | apply goTG_b | apply goOG_b) <;> intro h <;> ((try simp only [Bool.not_eq_true', Bool.not_eq_false'] at h); (try simp only [h]); (try simp only [decide_eq_true_eq, decide_eq_false_iff_not, bne_iff_ne, bne_eq_false_iff_eq, beq_iff_eq, beq_eq_false_iff_ne, ne_eq, Int.not_lt, Int.not_le, Bool.and_eq_true, Bool.and_eq_false_iff, Bool.or_eq_true, Bool.or_eq_false_iff] at h)) <;> (try (exfalso; omega))))
      first | refine goC_call [.r] (d_spec_l01N l (by omega) (isSpaceM_q hs)) ?_ | refine goOC_call [.r] (d_spec_l01N l (by omega) (isSpaceM_q hs)) ?_
      have hg := growP_ok (l := l) (c := c) (d := d) (w := w)
      repeat' (first | simp -implicitDefEqProofs (maxSteps := 1000000) (disch := (first | omega | (simp only [go_sem] <;> omega) | fail)) only [go_sem, ints, bools, mat] | ((first | apply goIf_b | apply goG_b | apply goTG_b | apply goOG_b) <;> intro h <;> ((try simp only [Bool.not_eq_true', Bool.not_eq_false'] at h); (try simp only [h]); (try simp only [decide_eq_true_eq, decide_eq_false_iff_not, bne_iff_ne, bne_eq_false_iff_eq, beq_iff_eq, beq_eq_false_iff_ne, ne_eq, Int.not_lt, Int.not_le, Bool.and_eq_true, Bool.and_eq_false_iff, Bool.or_eq_true, Bool.or_eq_false_iff] at h)) <;> (try (exfalso; omega))))
      · first | refine goC_call [.r, .r] (d_spec_l01Has c w hc) ?_ | refine goOC_call [.r, .r] (d_spec_l01Has c w hc) ?_
        cases hb : c.any fun y => y == (w : Int) with
        | true =>
          repeat' (first | simp -implicitDefEqProofs (maxSteps := 1000000) (disch := (first | omega | (simp only [go_sem] <;> omega) | fail)) only [go_sem, ints, bools, mat, hb] | ((first | apply goIf_b | apply goG_b | apply goTG_b | apply goOG_b) <;> intro h <;> ((try simp only [Bool.not_eq_true', Bool.not_eq_false'] at h); (try simp only [h]); (try simp only [decide_eq_true_eq, decide_eq_false_iff_not, bne_iff_ne, bne_eq_false_iff_eq, beq_iff_eq, beq_eq_false_iff_ne, ne_eq, Int.not_lt, Int.not_le, Bool.and_eq_true, Bool.and_eq_false_iff, Bool.or_eq_true, Bool.or_eq_false_iff] at h)) <;> (try (exfalso; omega))))
          refine hJ (w + 1) ⟨by omega, all_ext hi ?_⟩ (by omega) _ (by (simp -implicitDefEqProofs (maxSteps := 1000000) (disch := (first | omega | (simp only [go_sem] <;> omega) | fail)) only [go_sem, ints, bools, mat] <;> rfl))
          cases hq : growP l c d w with
          | false => rfl
          | true => have := (hg.1 hq).1; rw [hb] at this; cases this
        | false =>
          repeat' (first | simp -implicitDefEqProofs (maxSteps := 1000000) (disch := (first | omega | (simp only [go_sem] <;> omega) | fail)) only [go_sem, ints, bools, mat, hb] | ((first | apply goIf_b | apply goG_b | apply goTG_b | apply goOG_b) <;> intro h <;> ((try simp only [Bool.not_eq_true', Bool.not_eq_false'] at h); (try simp only [h]); (try simp only [decide_eq_true_eq, decide_eq_false_iff_not, bne_iff_ne, bne_eq_false_iff_eq, beq_iff_eq, beq_eq_false_iff_ne, ne_eq, Int.not_lt, Int.not_le, Bool.and_eq_true, Bool.and_eq_false_iff, Bool.or_eq_true, Bool.or_eq_false_iff] at h)) <;> (try (exfalso; omega))))
          first | refine goC_call [.r, .r, .r, .r] (d_spec_l04Far l c hs w d hc hcs (by omega) (by omega)) ?_ | refine goOC_call [.r, .r, .r, .r] (d_spec_l04Far l c hs w d hc hcs (by omega) (by omega)) ?_
          by_cases hf : ∀ k, k < c.length → d ≤ distM l w (c.getD k 0)
          · rw [decide_eq_true hf]
            repeat' (first | simp -implicitDefEqProofs (maxSteps := 1000000) (disch := (first | omega | (simp only [go_sem] <;> omega) | fail)) only [go_sem, ints, bools, mat] | ((first | apply goIf_b | apply goG_b | apply goTG_b | apply goOG_b) <;> intro h <;> ((try simp only [Bool.not_eq_true', Bool.not_eq_false'] at h); (try simp only [h]); (try simp only [decide_eq_true_eq, decide_eq_false_iff_not, bne_iff_ne, bne_eq_false_iff_eq, beq_iff_eq, beq_eq_false_iff_ne, ne_eq, Int.not_lt, Int.not_le, Bool.and_eq_true, Bool.and_eq_false_iff, Bool.or_eq_true, Bool.or_eq_false_iff] at h)) <;> (try (exfalso; omega))))
            exact dbT (growB_yes (by omega) (hg.2 ⟨hb, hf⟩))
          · rw [decide_eq_false hf]
            repeat' (first | simp -implicitDefEqProofs (maxSteps := 1000000) (disch := (first | omega | (simp only [go_sem] <;> omega) | fail)) only [go_sem, ints, bools, mat] | ((first | apply goIf_b | apply goG_b | apply goTG_b | apply goOG_b) <;> intro h <;> ((try simp only [Bool.not_eq_true', Bool.not_eq_false'] at h); (try simp only [h]); (try simp only [decide_eq_true_eq, decide_eq_false_iff_not, bne_iff_ne, bne_eq_false_iff_eq, beq_iff_eq, beq_eq_false_iff_ne, ne_eq, Int.not_lt, Int.not_le, Bool.and_eq_true, Bool.and_eq_false_iff, Bool.or_eq_true, Bool.or_eq_false_iff] at h)) <;> (try (exfalso; omega))))
            refine hJ (w + 1) ⟨by omega, all_ext hi ?_⟩ (by omega) _ (by (simp -implicitDefEqProofs (maxSteps := 1000000) (disch := (first | omega | (simp only [go_sem] <;> omega) | fail)) only [go_sem, ints, bools, mat] <;> rfl))
            cases hq : growP l c d w with
            | false => rfl
            | true => exact (hf (hg.1 hq).2).elim
      · exact dbF (growB_no fun i hi' => hi i (by omega))
  · rw [growR, decide_eq_false h, Bool.false_and]
    generalize acM l c d = b at h
    repeat' (first | simp -implicitDefEqProofs (maxSteps := 1000000) (disch := (first | omega | (simp only [go_sem] <;> omega) | fail)) only [go_sem, ints, bools, mat] | ((first | apply goIf_b | apply goG_b | apply goTG_b | apply goOG_b) <;> intro h <;> ((try simp only [Bool.not_eq_true', Bool.not_eq_false'] at h); (try simp only [h]); (try simp only [decide_eq_true_eq, decide_eq_false_iff_not, bne_iff_ne, bne_eq_false_iff_eq, beq_iff_eq, beq_eq_false_iff_ne, ne_eq, Int.not_lt, Int.not_le, Bool.and_eq_true, Bool.and_eq_false_iff, Bool.or_eq_true, Bool.or_eq_false_iff] at h))))
    all_goals (exfalso; omega)
def vecs : List Int → List (List Int)
  | [] => [[]]
  | q :: r => (List.range q.toNat).flatMap fun (d : Nat) => (vecs r).map fun v => (d : Int) :: v
theorem range_mul (b : Nat) : ∀ a : Nat, List.range (a * b) = (List.range a).flatMap fun i => (List.range b).map fun j => i * b + j
  | 0 => by simp
  | a + 1 => by
    rw [Nat.add_mul, Nat.one_mul, List.range_add, range_mul b a, List.range_succ, List.flatMap_append]
    simp
theorem digM_per : ∀ {r : List Int}, szs r → ∀ (w d : Int), digM r (w + d * prodM r) = digM r w
  | [], _, _, _ => rfl
  | q :: r, h, w, d => by
    have hp := prodM_pos (szs_tail h)
    rw [digM, digM, prodM_cons, ← Int.mul_assoc, digM_per (szs_tail h), Int.add_mul_ediv_right _ _ (by omega), Int.add_mul_emod_self_right]
theorem vecs_ok : ∀ {l : List Int}, szs l → (allW l).map (digM l) = vecs l
  | [], _ => by simp [allW, prodM_nil, vecs, digM, List.range_succ]
  | q :: r, h => by
    have hp := prodM_pos (szs_tail h)
    have hq := h 0 (by simp)
    simp at hq
    have ih := vecs_ok (szs_tail h)
    rw [vecs, ← ih]
    have e : (prodM (q :: r)).toNat = q.toNat * (prodM r).toNat := by rw [prodM_cons, Int.toNat_mul (by omega) (by omega)]
    have fc : ∀ (L : List Nat) (f g : Nat → List (List Int)), (∀ a, a ∈ L → f a = g a) → L.flatMap f = L.flatMap g := fun L f g hh => by
      induction L with
      | nil => rfl
      | cons x L ih => rw [List.flatMap_cons, List.flatMap_cons, hh x List.mem_cons_self, ih fun a ha => hh a (List.mem_cons_of_mem _ ha)]
    rw [allW, e, range_mul, List.map_flatMap, List.map_flatMap]
    refine fc _ _ _ fun d hd => ?_
    have hd := List.mem_range.1 hd
    rw [allW, List.map_map, List.map_map, List.map_map, List.map_map]
    refine List.map_congr_left fun j hj => ?_
    have hj := List.mem_range.1 hj
    simp only [Function.comp]
    have e2 : ((d * (prodM r).toNat + j : Nat) : Int) = (j : Int) + (d : Int) * prodM r := by
      rw [Int.natCast_add, Int.natCast_mul, Int.toNat_of_nonneg (by omega)]; omega
    rw [e2, digM, digM_per (szs_tail h), Int.add_mul_ediv_right _ _ (by omega), Int.ediv_eq_zero_of_lt (by omega) (by omega), Int.zero_add, Int.emod_eq_of_lt (by omega) (by omega)]
def dn (f : Nat → Int) (k : Nat) : Int := if k = 0 then 0 else f (k - 1)
def mulB (b : Int) (f : Nat → Int) (k : Nat) : Int := f k + b * dn f k
def FL (n : Nat) (f : Nat → Int) : List Int := (List.range (n + 1)).map f
@[go_sem] theorem FL_len (n : Nat) (f : Nat → Int) : (FL n f).length = n + 1 := by simp [FL]
theorem mulB_comm (a b : Int) (f : Nat → Int) : mulB a (mulB b f) = mulB b (mulB a f) := by
  funext k
  simp only [mulB, dn]
  split
  · omega
  · split
    · simp only [Int.mul_zero, Int.add_zero]; omega
    · simp only [Int.mul_add]
      rw [Int.mul_left_comm]; omega
@[go_sem] theorem tn1 (f r : Nat) : ((f : Int) + (2 * (r : Int) + 1)).toNat = f + (2 * r + 1) := by omega
@[go_sem] theorem tn2 (f r : Nat) : ((f : Int) + (2 * (r : Int) + 1) + 1).toNat = f + (2 * r + 2) := by omega
@[go_sem] theorem tn3 (f r : Nat) : ((f : Int) + (2 * (r : Int) + 1 + 1)).toNat = f + (2 * r + 2) := by omega
@[go_sem] theorem tn4 (f r : Nat) : ((f : Int) + (r : Int)).toNat = f + r := by omega
def cpN (l : List Int) : Nat → List Int
  | 0 => []
  | m + 1 => if m = 0 ∨ l.getD m 0 ≠ l.getD (m - 1) 0 then cpN l m ++ [l.getD m 0] else cpN l m
abbrev cpM (l : List Int) : List Int := cpN l l.length
abbrev Asc (l : List Int) : Prop := l.Pairwise (· < ·)
abbrev setI (l : List Int) : List Int := cpM (sortI l)
def ptN (l : List Int) (x : Int) : Nat → Nat
  | 0 => 0
  | n + 1 => if x < l.getD n 0 then ptN l x n else n + 1
def putI (l : List Int) (x : Int) : List Int :=
  let a := ptN l x l.length
  if 0 < a ∧ l.getD (a - 1) 0 = x then l else l.take a ++ [x] ++ l.drop a
theorem ptN_le (l : List Int) (x : Int) : ∀ n, ptN l x n ≤ n
  | 0 => Nat.le_refl _
  | n + 1 => by
    have := ptN_le l x n
    rw [ptN]; split <;> omega
theorem putI_len (l : List Int) (x : Int) : (putI l x).length ≤ l.length + 1 := by
  have := ptN_le l x l.length
  simp only [putI]
  split
  · omega
  · simp; omega
theorem putI_mem {l : List Int} {x : Int} (y : Int) : y ∈ putI l x ↔ y ∈ l ∨ y = x := by
  have hl := ptN_le l x l.length
  simp only [putI]
  split
  · rename_i h
    constructor
    · exact .inl
    · rintro (h1 | rfl)
      · exact h1
      · rw [← h.2]; exact mem_getD (by omega)
  · simp only [List.mem_append, List.mem_singleton]
    conv => rhs; rw [← List.take_append_drop (ptN l x l.length) l, List.mem_append]
    constructor
    · rintro ((h | h) | h)
      · exact .inl (.inl h)
      · exact .inr h
      · exact .inl (.inr h)
    · rintro ((h | h) | h)
      · exact .inl (.inl h)
      · exact .inr h
      · exact .inl (.inr h)
@[go_sem] theorem setI_len_le (l : List Int) : (sortI l).length = l.length := List.length_mergeSort l
theorem d_spec_l01Put (l : List Int) (x : Int) (hl : l.length < 1048576) : Den PA f_spec_l01Put [.own 1 (l.map di), .d (di x)] [.any, .any] (.own 1 ((putI l x).map di)) := by
  have hle := ptN_le l x l.length
  refine den_go [] l_spec_l01Put ?_
  repeat' (first | simp -implicitDefEqProofs (maxSteps := 1000000) (disch := (first | omega | (simp only [go_sem] <;> omega) | fail)) only [go_sem, ints, bools, mat, c_spec_l01Put] | ((first | apply goIf_b | apply goG_b | apply goTG_b | apply goOG_b) <;> intro h <;> ((try simp only [Bool.not_eq_true', Bool.not_eq_false'] at h); (try simp only [h]); (try simp only [decide_eq_true_eq, decide_eq_false_iff_not, bne_iff_ne, bne_eq_false_iff_eq, beq_iff_eq, beq_eq_false_iff_ne, ne_eq, Int.not_lt, Int.not_le, Bool.and_eq_true, Bool.and_eq_false_iff, Bool.or_eq_true, Bool.or_eq_false_iff] at h))))
  refine go_loop (fun (a : Nat) => ⟨[(0, .sl 0 0 l.length 1), (1, .d (di x)), (5, .d (di a))], [some (.dat 1 (l.map di))]⟩) (fun a => a ≤ l.length ∧ ptN l x l.length = ptN l x a) (fun a => a) l.length ?_ ?_ ?_
  · (simp -implicitDefEqProofs (maxSteps := 1000000) (disch := (first | omega | (simp only [go_sem] <;> omega) | fail)) only [go_sem, ints, bools, mat] <;> rfl)
  · exact ⟨Nat.le_refl _, rfl⟩
  · rintro a ⟨h1, h2⟩ J hJ
    cases a with
    | zero =>
      have e : putI l x = [x] ++ l := by simp [putI, h2, ptN]
      repeat' (first | simp -implicitDefEqProofs (maxSteps := 1000000) (disch := (first | omega | (simp only [go_sem] <;> omega) | fail)) only [go_sem, ints, bools, mat] | ((first | apply goIf_b | apply goG_b | apply goTG_b | apply goOG_b) <;> intro h <;> ((try simp only [Bool.not_eq_true', Bool.not_eq_false'] at h); (try simp only [h]); (try simp only [decide_eq_true_eq, decide_eq_false_iff_not, bne_iff_ne, bne_eq_false_iff_eq, beq_iff_eq, beq_eq_false_iff_ne, ne_eq, Int.not_lt, Int.not_le, Bool.and_eq_true, Bool.and_eq_false_iff, Bool.or_eq_true, Bool.or_eq_false_iff] at h)) <;> (try (exfalso; omega))))
      first | refine goC_call [.r] (d_spec_l01Own [] (by simp)) ?_ | refine goOC_call [.r] (d_spec_l01Own [] (by simp)) ?_
      repeat' (first | simp -implicitDefEqProofs (maxSteps := 1000000) (disch := (first | omega | (simp only [go_sem] <;> omega) | fail)) only [go_sem, ints, bools, mat] | ((first | apply goIf_b | apply goG_b | apply goTG_b | apply goOG_b) <;> intro h <;> ((try simp only [Bool.not_eq_true', Bool.not_eq_false'] at h); (try simp only [h]); (try simp only [decide_eq_true_eq, decide_eq_false_iff_not, bne_iff_ne, bne_eq_false_iff_eq, beq_iff_eq, beq_eq_false_iff_ne, ne_eq, Int.not_lt, Int.not_le, Bool.and_eq_true, Bool.and_eq_false_iff, Bool.or_eq_true, Bool.or_eq_false_iff] at h)) <;> (try (exfalso; omega))))
      rw [e]; rfl
    | succ a =>
      repeat' (first | simp -implicitDefEqProofs (maxSteps := 1000000) (disch := (first | omega | (simp only [go_sem] <;> omega) | fail)) only [go_sem, ints, bools, mat] | ((first | apply goIf_b | apply goG_b | apply goTG_b | apply goOG_b) <;> intro h <;> ((try simp only [Bool.not_eq_true', Bool.not_eq_false'] at h); (try simp only [h]); (try simp only [decide_eq_true_eq, decide_eq_false_iff_not, bne_iff_ne, bne_eq_false_iff_eq, beq_iff_eq, beq_eq_false_iff_ne, ne_eq, Int.not_lt, Int.not_le, Bool.and_eq_true, Bool.and_eq_false_iff, Bool.or_eq_true, Bool.or_eq_false_iff] at h)) <;> (try (exfalso; omega))))
      · refine hJ a ⟨by omega, ?_⟩ (by omega) _ ?_
        · rw [h2, ptN, if_pos (by simpa using h)]
        · (simp -implicitDefEqProofs (maxSteps := 1000000) (disch := (first | omega | (simp only [go_sem] <;> omega) | fail)) only [go_sem, ints, bools, mat] <;> rfl)
      · have hx : ptN l x (a + 1) = a + 1 := by rw [ptN, if_neg (by omega)]
        rw [putI, h2, hx, if_pos ⟨by omega, by simpa using h⟩]
      · have hx : ptN l x (a + 1) = a + 1 := by rw [ptN, if_neg (by omega)]
        first | refine goC_call [.r] (d_spec_l01Own (l.take (a + 1)) (by simp; omega)) ?_ | refine goOC_call [.r] (d_spec_l01Own (l.take (a + 1)) (by simp; omega)) ?_
        repeat' (first | simp -implicitDefEqProofs (maxSteps := 1000000) (disch := (first | omega | (simp only [go_sem] <;> omega) | fail)) only [go_sem, ints, bools, mat] | ((first | apply goIf_b | apply goG_b | apply goTG_b | apply goOG_b) <;> intro h <;> ((try simp only [Bool.not_eq_true', Bool.not_eq_false'] at h); (try simp only [h]); (try simp only [decide_eq_true_eq, decide_eq_false_iff_not, bne_iff_ne, bne_eq_false_iff_eq, beq_iff_eq, beq_eq_false_iff_ne, ne_eq, Int.not_lt, Int.not_le, Bool.and_eq_true, Bool.and_eq_false_iff, Bool.or_eq_true, Bool.or_eq_false_iff] at h)) <;> (try (exfalso; omega))))
        rw [putI, h2, hx, if_neg (fun hc => h (by simpa using hc.2))]
abbrev inC (l c : List Int) : Prop := ∀ u, u ∈ c → 0 ≤ u ∧ u < prodM l
theorem inC_get {l c : List Int} (h : inC l c) : ∀ j, j < c.length → 0 ≤ c.getD j 0 ∧ c.getD j 0 < prodM l := fun j hj => h _ (mem_getD hj)
abbrev shM (l c : List Int) (w : Int) : List Int := setI (c.map fun u => sumW l u w)
def oppD (l a : List Int) : List Int := (List.range l.length).map fun (i : Nat) => (l.getD i 0 - a.getD i 0) % l.getD i 0
@[go_sem] theorem oppD_len (l a : List Int) : (oppD l a).length = l.length := by simp [oppD]
theorem allW_asc (l : List Int) : Asc (allW l) := by
  unfold allW
  exact List.Pairwise.map _ (fun a b h => by omega) List.pairwise_lt_range
theorem allW_mem' {l : List Int} (hs : isSpaceM l = true) (u : Int) : u ∈ allW l ↔ 0 ≤ u ∧ u < prodM l := by
  have := prodM_pos (isSpaceM_szs hs)
  rw [allW_mem]; omega
@[go_sem] theorem binA_shru1 {a : Int} (h : 0 ≤ a) (h' : a < 18446744073709551616) : binA .shr (.d (.v (.int .u64 a))) (.d (.v (.int .u64 1))) = some (.d (.v (.int .u64 (a / 2)))) := by
  have e : min (1 : Int).toNat 64 = 1 := rfl
  have h1 : (0 : Int) ≤ 2 ^ 1 := by decide
  simp only [binA, binI, BinOp.isShift, true_or, if_true, if_neg (show ¬ (1 : Int) < 0 by omega), IntKind.bits, e, Option.map_some, Int.fdiv_eq_ediv_of_nonneg _ h1]
  rfl
theorem asc_lt {c : List Int} (h : Asc c) {i k : Nat} (hik : i < k) (hk : k < c.length) : c.getD i 0 < c.getD k 0 := by
  have := List.pairwise_iff_getElem.1 h i k (by omega) hk hik
  simpa [show i < c.length by omega, hk] using this
@[go_sem] theorem capA_nil : capA (.d nil) = some (.d (di 0)) := rfl
@[go_sem] theorem capA_nil' : capA (.d (.v (.slice none 0 0))) = some (.d (di 0)) := rfl
abbrev wtM (l : List Int) (x : Int) : Int := distM l 0 x
def bstN (l L : List Int) : Nat → Int
  | 0 => L.getD 0 0
  | k + 1 => if wtM l (L.getD k 0) < wtM l (bstN l L k) then L.getD k 0 else bstN l L k
def ldW (l c : List Int) (w : Int) : Int := bstN l (shM l c w) (shM l c w).length
def kltB (l : List Int) (t w : Int) (x : Int) : Bool := decide (wtM l x < t ∨ (wtM l x = t ∧ x < w))
def ldL (l c : List Int) (t w : Int) : List Int := (allW l).map fun u => if kltB l t w (ldW l c u) then ldW l c u else -1
@[go_sem] theorem ldL_len (l c : List Int) (t w : Int) : (ldL l c t w).length = (prodM l).toNat := by simp [ldL, allW_len]
def stN (X L : List Int) (v : Int) : Nat → List Int
  | 0 => X
  | k + 1 => (stN X L v k).set (L.getD k 0).toNat v
@[go_sem] theorem stN_len (X L : List Int) (v : Int) : ∀ k, (stN X L v k).length = X.length
  | 0 => rfl
  | k + 1 => by rw [stN, List.length_set, stN_len X L v k]
theorem d_slices_Index_int (l : List Int) (v : Int) (hl : l.length < 1048577) : Den PA f_slices_Index___int64_int64_ [.d (ints l), .d (di v)] [.any, .any] (.d (di (match l.findIdx? (fun x => v == x) with | some j => j | none => -1))) := by
  refine den_go [] l_slices_Index___int64_int64_ ?_
  repeat' (first | simp -implicitDefEqProofs (maxSteps := 1000000) (disch := (first | omega | (simp only [go_sem] <;> omega) | fail)) only [go_sem, ints, bools, mat, c_slices_Index___int64_int64_] | ((first | apply goIf_b | apply goG_b | apply goTG_b | apply goOG_b) <;> intro h <;> ((try simp only [Bool.not_eq_true', Bool.not_eq_false'] at h); (try simp only [h]); (try simp only [decide_eq_true_eq, decide_eq_false_iff_not, bne_iff_ne, bne_eq_false_iff_eq, beq_iff_eq, beq_eq_false_iff_ne, ne_eq, Int.not_lt, Int.not_le, Bool.and_eq_true, Bool.and_eq_false_iff, Bool.or_eq_true, Bool.or_eq_false_iff] at h))))
  refine go_loop (fun (j : Nat) => ⟨[(0, .d (ints l)), (1, .d (di v)), (7, .d (di l.length)), (8, .d (di j))], []⟩) (fun j => j ≤ l.length ∧ ∀ i, i < j → (v == l.getD i 0) = false) (fun j => l.length - j) 0 ?_ ?_ ?_
  · (simp -implicitDefEqProofs (maxSteps := 1000000) (disch := (first | omega | (simp only [go_sem] <;> omega) | fail)) only [go_sem, ints, bools, mat] <;> rfl)
  · simp
  · rintro j ⟨hj, hi⟩ J hJ
    repeat' (first | simp -implicitDefEqProofs (maxSteps := 1000000) (disch := (first | omega | (simp only [go_sem] <;> omega) | fail)) only [go_sem, ints, bools, mat] | ((first | apply goIf_b | apply goG_b | apply goTG_b | apply goOG_b) <;> intro h <;> ((try simp only [Bool.not_eq_true', Bool.not_eq_false'] at h); (try simp only [h]); (try simp only [decide_eq_true_eq, decide_eq_false_iff_not, bne_iff_ne, bne_eq_false_iff_eq, beq_iff_eq, beq_eq_false_iff_ne, ne_eq, Int.not_lt, Int.not_le, Bool.and_eq_true, Bool.and_eq_false_iff, Bool.or_eq_true, Bool.or_eq_false_iff] at h))))
    · have e : l.findIdx? (fun x => v == x) = some j := by
        rw [List.findIdx?_eq_some_iff_getElem]
        refine ⟨by omega, by simpa [show j < l.length by omega] using h, fun i hi' => ?_⟩
        have := hi i hi'
        simpa [show i < l.length by omega] using this
      rw [e]
    · refine hJ (j + 1) ⟨by omega, all_ext hi (by simpa using h)⟩ (by omega) _ (by (simp -implicitDefEqProofs (maxSteps := 1000000) (disch := (first | omega | (simp only [go_sem] <;> omega) | fail)) only [go_sem, ints, bools, mat] <;> rfl))
    · have e : l.findIdx? (fun x => v == x) = none := by
        rw [List.findIdx?_eq_none_iff]
        intro x hx
        obtain ⟨i, hi', rfl⟩ := List.mem_iff_getElem.1 hx
        have := hi i (by omega)
        simpa [hi'] using this
      rw [e]
theorem d_slices_Contains_int (l : List Int) (v : Int) (hl : l.length < 1048577) : Den PA f_slices_Contains___int64_int64_ [.d (ints l), .d (di v)] [.any, .any] (.d (db (decide (v ∈ l)))) := by
  refine den_go [] l_slices_Contains___int64_int64_ ?_
  repeat' (first | simp -implicitDefEqProofs (maxSteps := 1000000) (disch := (first | omega | (simp only [go_sem] <;> omega) | fail)) only [go_sem, ints, bools, mat, c_slices_Contains___int64_int64_] | ((first | apply goIf_b | apply goG_b | apply goTG_b | apply goOG_b) <;> intro h <;> ((try simp only [Bool.not_eq_true', Bool.not_eq_false'] at h); (try simp only [h]); (try simp only [decide_eq_true_eq, decide_eq_false_iff_not, bne_iff_ne, bne_eq_false_iff_eq, beq_iff_eq, beq_eq_false_iff_ne, ne_eq, Int.not_lt, Int.not_le, Bool.and_eq_true, Bool.and_eq_false_iff, Bool.or_eq_true, Bool.or_eq_false_iff] at h))))
  first | refine goC_call [.r, .r] (d_slices_Index_int l v hl) ?_ | refine goOC_call [.r, .r] (d_slices_Index_int l v hl) ?_
  repeat' (first | simp -implicitDefEqProofs (maxSteps := 1000000) (disch := (first | omega | (simp only [go_sem] <;> omega) | fail)) only [go_sem, ints, bools, mat] | ((first | apply goIf_b | apply goG_b | apply goTG_b | apply goOG_b) <;> intro h <;> ((try simp only [Bool.not_eq_true', Bool.not_eq_false'] at h); (try simp only [h]); (try simp only [decide_eq_true_eq, decide_eq_false_iff_not, bne_iff_ne, bne_eq_false_iff_eq, beq_iff_eq, beq_eq_false_iff_ne, ne_eq, Int.not_lt, Int.not_le, Bool.and_eq_true, Bool.and_eq_false_iff, Bool.or_eq_true, Bool.or_eq_false_iff] at h))))
  refine dbv ?_
  cases h : l.findIdx? (fun x => v == x) with
  | none =>
    rw [List.findIdx?_eq_none_iff] at h
    symm
    have : v ∉ l := fun hm => by have := h v hm; simp at this
    rw [decide_eq_false this]; rfl
  | some j =>
    obtain ⟨hj, h1, _⟩ := List.findIdx?_eq_some_iff_getElem.1 h
    symm
    rw [beq_iff_eq] at h1
    rw [decide_eq_true (show v ∈ l by rw [h1]; exact List.getElem_mem hj)]
    simp
def swD (d : List Int) (i : Nat) : List Int := d.set i (1 - d.getD i 0)
@[go_sem] theorem swD_len (d : List Int) (i : Nat) : (swD d i).length = d.length := by simp [swD]
def nxR (l : List Int) (j : Nat) : List (List Int) := (List.range j).map fun (d : Nat) => l ++ [(d : Int)]
@[go_sem] theorem nxR_len (l : List Int) (j : Nat) : (nxR l j).length = j := by simp [nxR]
def nxT (q : Nat) (ls : List (List Int)) (i : Nat) : List (List Int) := (ls.take i).flatMap fun l => nxR l q
def rowsN (q : Nat) : Nat → List (List Int)
  | 0 => [[]]
  | k + 1 => nxT q (rowsN q k) (rowsN q k).length
def badR (l : List Int) : Bool := match l.findIdx? fun d => d != 0 with | some j => l.getD j 0 != 1 | none => true
def colN (q m : Nat) : List (List Int) := (rowsN q m).filter fun x => !badR x
def hamL (q m : Nat) : List Int := List.replicate (colN q m).length (q : Int)
@[go_sem] theorem hamL_len (q m : Nat) : (hamL q m).length = (colN q m).length := by simp [hamL]
abbrev sn (l : List Int) : D := .v (.string (strOfNums l))
@[go_sem] theorem str_46 : (ByteArray.mk #[46]) = strOfNums [46] := rfl
@[go_sem] theorem str_nil : (ByteArray.mk #[]) = strOfNums [] := rfl
@[go_sem] theorem str_45 : (ByteArray.mk #[45]) = strOfNums [45] := rfl
theorem str_app (a b : List Int) : strOfNums a ++ strOfNums b = strOfNums (a ++ b) := by
  apply ByteArray.ext
  simp [strOfNums]
@[go_sem] theorem eqsA_addN {a b : List Int} (h : a.length + b.length < 1048577) : eqsA .add (.d (.v (.string (strOfNums a)))) (.d (.v (.string (strOfNums b)))) = some (.d (.v (.string (strOfNums (a ++ b))))) := by
  have h2 : (strOfNums a).size + (strOfNums b).size ≤ maxLen := by
    rw [strOfNums_size, strOfNums_size]; exact Nat.le_trans (Nat.le_of_lt h) (by decide)
  simp only [eqsA]
  rw [if_pos h2, str_app]
@[go_sem] theorem eqsA_neq_self {s : ByteArray} : eqsA .neq (.d (.v (.string s))) (.d (.v (.string s))) = some (.d (.v (.bool false))) := by simp [eqsA]
@[go_sem] theorem lnsA_n {l : List Int} : lnsA (.d (.v (.string (strOfNums l)))) = some (.d (.v (.int .i64 l.length))) := by simp [lnsA, strOfNums_size]
theorem str_ext (l : List Int) (a b : Nat) : (strOfNums l).extract a b = strOfNums ((l.take b).drop a) := by
  apply ByteArray.ext
  simp [strOfNums, ByteArray.data_extract, List.map_drop, List.map_take, List.drop_take]
@[go_sem] theorem sltA_n {tm : List (Nat × AV)} {l : List Int} {lo hi : Option Opd} : sltA tm (.d (.v (.string (strOfNums l)))) lo hi = (bndA tm l.length lo hi).map fun p => .d (.v (.string (strOfNums ((l.take p.2).drop p.1)))) := by
  simp only [sltA, strOfNums_size, str_ext]
theorem BY.take {l : List Int} (h : BY l) (n : Nat) : BY (l.take n) := fun x hx => h x (List.mem_of_mem_take hx)
theorem BY.drop {l : List Int} (h : BY l) (n : Nat) : BY (l.drop n) := fun x hx => h x (List.mem_of_mem_drop hx)
def spL : List Int → List (List Int)
  | [] => [[]]
  | x :: r => if x = 46 then [] :: spL r else match spL r with
    | p :: ps => (x :: p) :: ps
    | [] => [[x]]
@[go_sem] theorem flat_sn (l : List (List Int)) : flat (l.map fun x => sn x) = l.map fun x => sn x := by
  induction l with
  | nil => rfl
  | cons x r ih => simp only [flat, List.map_cons, List.flatMap_cons, D.cells] at ih ⊢; rw [ih]; rfl
@[go_sem] theorem getSn {l : List (List Int)} {j : Nat} (h : j < l.length) : (l.map fun x => sn x)[j]? = some (sn (l.getD j [])) := by simp [h]
def ptS (m c : Int) : Int := if 48 ≤ c ∧ c ≤ 51 then or2 m (c - 48) else m
def ptB (p : List Int) : Int := p.foldl ptS 0
def psT (l : List Int) : List Int := (spL l).map ptB
@[go_sem] theorem psT_len (l : List Int) : (psT l).length = (spL l).length := by simp [psT]
theorem wrapU_bnd (x : Int) : 0 ≤ IntKind.wrap .u64 x ∧ IntKind.wrap .u64 x < 18446744073709551616 := by
  have e : IntKind.wrap .u64 x = x % 18446744073709551616 := rfl
  rw [e]; omega
@[go_sem] theorem binA_shr33 {a : Int} : binA .shr (.d (.v (.int .u64 a))) (.d (.v (.int .u64 33))) = some (.d (.v (.int .u64 (a / 8589934592)))) := by
  have e : min (33 : Int).toNat 64 = 33 := rfl
  have h1 : (0 : Int) ≤ 2 ^ 33 := by decide
  simp only [binA, binI, BinOp.isShift, true_or, if_true, if_neg (show ¬ (33 : Int) < 0 by omega), IntKind.bits, e, Option.map_some, Int.fdiv_eq_ediv_of_nonneg _ h1]
  rfl
@[go_sem] theorem binA_mask24 {a : Int} (h : 0 ≤ a) (h' : a < 18446744073709551616) : binA .and (.d (.v (.int .u64 a))) (.d (.v (.int .u64 16777215))) = some (.d (.v (.int .u64 (a % 16777216)))) := by
  have e1 : (BitVec.ofInt 64 a).toNat = a.toNat := by rw [BitVec.toNat_ofInt]; omega
  have e2 : (BitVec.ofInt 64 16777215).toNat = 16777215 := by decide
  have e3 : (BitVec.ofInt 64 a &&& BitVec.ofInt 64 16777215).toNat = a.toNat % 16777216 := by
    rw [BitVec.toNat_and, e1, e2]; exact Nat.and_two_pow_sub_one_eq_mod a.toNat 24
  have e4 : binI .and .u64 a 16777215 = some (.int .u64 (IntKind.wrap .u64 ((BitVec.ofInt 64 a &&& BitVec.ofInt 64 16777215).toNat : Nat))) := rfl
  simp only [binA, e4, BinOp.isShift, or_true, if_true, e3, Option.map_some]
  rw [wrap_u64 (by omega) (by omega)]
  congr 4
  omega
attribute [go_sem] mkBlk
def leaB (o : Option (Option Blk)) (k i : Nat) (s : Sto) : R × Sto :=
  match o with
  | some (some (.var cs)) => (.boxm (cs.map .d), s.set i none)
  | some (some (.mix cs)) => (.boxm (leaL (leaA k) cs (s.set i none)).1, (leaL (leaA k) cs (s.set i none)).2)
  | _ => (.any, s)
@[go_sem] theorem leaA_ref (k i : Nat) (s : Sto) : leaA (k + 1) (.ref i 0) s = leaB s[i]? k i s := by
  simp only [leaA, leaB] <;> (rcases s[i]? with _ | _ | b <;> first | rfl | (cases b <;> rfl))
@[go_sem] theorem leaB_var (cs : List D) (k i : Nat) (s : Sto) : leaB (some (some (.var cs))) k i s = (.boxm (cs.map .d), s.set i none) := rfl
@[go_sem] theorem RLes_boxm (x y xs ys : List R) : RLes (.boxm x :: xs) (.boxm y :: ys) = (x = y ∧ RLes xs ys) := by
  apply propext
  constructor
  · intro h; cases h with | cons h hs => cases h; exact ⟨rfl, hs⟩
  · rintro ⟨rfl, hs⟩; exact .cons .refl hs
abbrev du (n : Int) : D := .v (.int .u64 n)
abbrev Src := Nat × Int
abbrev srcR (cd : D) (s : Src) : R := .boxm [.d cd, .d (di s.1), .d (du s.2)]
def okS (l : List Int) (s : Src) : Prop := s.1 ≤ l.length ∧ 0 ≤ s.2 ∧ s.2 < 18446744073709551616
def nxH (h : Int) : Int := IntKind.wrap .u64 (IntKind.wrap .u64 (h * 6364136223846793005) + 1442695040888963407)
def nxX (l : List Int) (s : Src) : Int := nxH s.2 / 8589934592 % 16777216 + (if s.1 < l.length then l.getD s.1 0 else 0)
def nxS (l : List Int) (s : Src) : Src := (if s.1 < l.length then s.1 + 1 else s.1, nxH s.2)
def nxt (l : List Int) (s : Src) (q : Int) : Int × Src := if q < 1 then (0, s) else (nxX l s % q, nxS l s)
theorem nxS_ok {l : List Int} {s : Src} (h : okS l s) : okS l (nxS l s) := by
  refine ⟨?_, wrapU_bnd _⟩
  unfold nxS; dsimp only
  split
  · omega
  · exact h.1
theorem nxt_ok {l : List Int} {s : Src} (h : okS l s) (q : Int) : okS l (nxt l s q).2 := by
  unfold nxt
  split
  · exact h
  · exact nxS_ok h
theorem nxt_bnd {l : List Int} {s : Src} {q : Int} (hq : 1 ≤ q) : 0 ≤ (nxt l s q).1 ∧ (nxt l s q).1 < q := by
  unfold nxt
  rw [if_neg (by omega)]
  exact ⟨Int.emod_nonneg _ (by omega), Int.emod_lt_of_pos _ (by omega)⟩
theorem d_spec_l01Next (cd : D) (l : List Int) (hb : IsBts cd l) (hl : l.length < 1048577) (s : Src) (hs : okS l s) (q : Int) : Den PA f_spec_l01Next [srcR cd s, .d (di q)] [srcR cd (nxt l s q).2, .any] (.d (di (nxt l s q).1)) := by
  obtain ⟨at0, h⟩ := s
  obtain ⟨h1, h2, h3⟩ := hs
  dsimp only at h1 h2 h3
  refine den_go [0] l_spec_l01Next ?_
  by_cases hq : q < 1
  · have e : nxt l (at0, h) q = (0, (at0, h)) := if_pos hq
    rw [e]
    repeat' (first | simp -implicitDefEqProofs (maxSteps := 1000000) (disch := (first | omega | (simp only [go_sem] <;> omega) | fail)) only [go_sem, ints, bools, mat, c_spec_l01Next, srcR] | ((first | apply goIf_b | apply goG_b | apply goTG_b | apply goOG_b) <;> intro h <;> ((try simp only [Bool.not_eq_true', Bool.not_eq_false'] at h); (try simp only [h]); (try simp only [decide_eq_true_eq, decide_eq_false_iff_not, bne_iff_ne, bne_eq_false_iff_eq, beq_iff_eq, beq_eq_false_iff_ne, ne_eq, Int.not_lt, Int.not_le, Bool.and_eq_true, Bool.and_eq_false_iff, Bool.or_eq_true, Bool.or_eq_false_iff] at h)) <;> (try (exfalso; omega))))
  · have e : nxt l (at0, h) q = (nxX l (at0, h) % q, nxS l (at0, h)) := if_neg hq
    have hh := wrapU_bnd (IntKind.wrap .u64 (h * 6364136223846793005) + 1442695040888963407)
    rw [e]
    rcases hb with ⟨rfl, hby⟩ | ⟨rfl, rfl⟩
    · by_cases ha : at0 < l.length
      · have hba := hby _ (mem_getD ha)
        have ex : nxX l (at0, h) = nxH h / 8589934592 % 16777216 + l.getD at0 0 := by simp only [nxX, if_pos ha]
        have es : nxS l (at0, h) = (at0 + 1, nxH h) := by simp only [nxS, if_pos ha]
        rw [ex, es]
        repeat' (first | simp -implicitDefEqProofs (maxSteps := 1000000) (disch := (first | omega | (simp only [go_sem] <;> omega) | fail)) only [go_sem, ints, bools, mat, c_spec_l01Next, srcR] | ((first | apply goIf_b | apply goG_b | apply goTG_b | apply goOG_b) <;> intro h <;> ((try simp only [Bool.not_eq_true', Bool.not_eq_false'] at h); (try simp only [h]); (try simp only [decide_eq_true_eq, decide_eq_false_iff_not, bne_iff_ne, bne_eq_false_iff_eq, beq_iff_eq, beq_eq_false_iff_ne, ne_eq, Int.not_lt, Int.not_le, Bool.and_eq_true, Bool.and_eq_false_iff, Bool.or_eq_true, Bool.or_eq_false_iff] at h)) <;> (try (exfalso; omega))))
        exact ⟨rfl, rfl⟩
      · have ex : nxX l (at0, h) = nxH h / 8589934592 % 16777216 := by simp only [nxX, if_neg ha, Int.add_zero]
        have es : nxS l (at0, h) = (at0, nxH h) := by simp only [nxS, if_neg ha]
        rw [ex, es]
        repeat' (first | simp -implicitDefEqProofs (maxSteps := 1000000) (disch := (first | omega | (simp only [go_sem] <;> omega) | fail)) only [go_sem, ints, bools, mat, c_spec_l01Next, srcR] | ((first | apply goIf_b | apply goG_b | apply goTG_b | apply goOG_b) <;> intro h <;> ((try simp only [Bool.not_eq_true', Bool.not_eq_false'] at h); (try simp only [h]); (try simp only [decide_eq_true_eq, decide_eq_false_iff_not, bne_iff_ne, bne_eq_false_iff_eq, beq_iff_eq, beq_eq_false_iff_ne, ne_eq, Int.not_lt, Int.not_le, Bool.and_eq_true, Bool.and_eq_false_iff, Bool.or_eq_true, Bool.or_eq_false_iff] at h)) <;> (try (exfalso; omega))))
        exact ⟨rfl, rfl⟩
    · have ha : ¬ at0 < ([] : List Int).length := by simp
      have ex : nxX [] (at0, h) = nxH h / 8589934592 % 16777216 := by simp only [nxX, if_neg ha, Int.add_zero]
      have es : nxS [] (at0, h) = (at0, nxH h) := by simp only [nxS, if_neg ha]
      rw [ex, es]
      repeat' (first | simp -implicitDefEqProofs (maxSteps := 1000000) (disch := (first | omega | (simp only [go_sem] <;> omega) | fail)) only [go_sem, ints, bools, mat, c_spec_l01Next, srcR] | ((first | apply goIf_b | apply goG_b | apply goTG_b | apply goOG_b) <;> intro h <;> ((try simp only [Bool.not_eq_true', Bool.not_eq_false'] at h); (try simp only [h]); (try simp only [decide_eq_true_eq, decide_eq_false_iff_not, bne_iff_ne, bne_eq_false_iff_eq, beq_iff_eq, beq_eq_false_iff_ne, ne_eq, Int.not_lt, Int.not_le, Bool.and_eq_true, Bool.and_eq_false_iff, Bool.or_eq_true, Bool.or_eq_false_iff] at h)) <;> (try (exfalso; omega))))
      exact ⟨rfl, rfl⟩
def pik (l : List Int) (s : Src) (xs : List Int) : Int × Src := (xs.getD (nxt l s xs.length).1.toNat 0, (nxt l s xs.length).2)
theorem pik_mem {l : List Int} {s : Src} {xs : List Int} (h : 0 < xs.length) : (pik l s xs).1 ∈ xs := by
  have h1 := nxt_bnd (l := l) (s := s) (q := (xs.length : Int)) (by omega)
  exact mem_getD (by omega)
theorem d_spec_l01Pick (cd : D) (l : List Int) (hb : IsBts cd l) (hl : l.length < 1048577) (s : Src) (hs : okS l s) (xs : List Int) (h0 : 0 < xs.length) (h1 : xs.length < 1000) : Den PA f_spec_l01Pick [srcR cd s, .d (ints xs)] [srcR cd (pik l s xs).2, .any] (.d (di (pik l s xs).1)) := by
  have hbn := nxt_bnd (l := l) (s := s) (q := (xs.length : Int)) (by omega)
  have hnx := d_spec_l01Next cd l hb hl s hs xs.length
  refine den_go [0] l_spec_l01Pick ?_
  repeat' (first | simp -implicitDefEqProofs (maxSteps := 1000000) (disch := (first | omega | (simp only [go_sem] <;> omega) | fail)) only [go_sem, ints, bools, mat, c_spec_l01Pick, srcR] | ((first | apply goIf_b | apply goG_b | apply goTG_b | apply goOG_b) <;> intro h <;> ((try simp only [Bool.not_eq_true', Bool.not_eq_false'] at h); (try simp only [h]); (try simp only [decide_eq_true_eq, decide_eq_false_iff_not, bne_iff_ne, bne_eq_false_iff_eq, beq_iff_eq, beq_eq_false_iff_ne, ne_eq, Int.not_lt, Int.not_le, Bool.and_eq_true, Bool.and_eq_false_iff, Bool.or_eq_true, Bool.or_eq_false_iff] at h)) <;> (try (exfalso; omega))))
  first | refine goC_call [.bm, .r] (hnx) ?_ | refine goOC_call [.bm, .r] (hnx) ?_
  repeat' (first | simp -implicitDefEqProofs (maxSteps := 1000000) (disch := (first | omega | (simp only [go_sem] <;> omega) | fail)) only [go_sem, ints, bools, mat] | ((first | apply goIf_b | apply goG_b | apply goTG_b | apply goOG_b) <;> intro h <;> ((try simp only [Bool.not_eq_true', Bool.not_eq_false'] at h); (try simp only [h]); (try simp only [decide_eq_true_eq, decide_eq_false_iff_not, bne_iff_ne, bne_eq_false_iff_eq, beq_iff_eq, beq_eq_false_iff_ne, ne_eq, Int.not_lt, Int.not_le, Bool.and_eq_true, Bool.and_eq_false_iff, Bool.or_eq_true, Bool.or_eq_false_iff] at h)) <;> (try (exfalso; omega))))
  exact ⟨rfl, rfl⟩
theorem pik_ok {l : List Int} {s : Src} (h : okS l s) (xs : List Int) : okS l (pik l s xs).2 := nxt_ok h _
structure SrcH (cd : D) (l : List Int) : Prop where
  hb : IsBts cd l
  hl : l.length < 1048577
theorem d_nxt {cd : D} {l : List Int} (H : SrcH cd l) {s : Src} (hs : okS l s) (q : Int) : Den PA f_spec_l01Next [srcR cd s, .d (di q)] [srcR cd (nxt l s q).2, .any] (.d (di (nxt l s q).1)) := d_spec_l01Next cd l H.hb H.hl s hs q
theorem d_pik {cd : D} {l : List Int} (H : SrcH cd l) {s : Src} (hs : okS l s) (xs : List Int) (h0 : 0 < xs.length) (h1 : xs.length < 1000) : Den PA f_spec_l01Pick [srcR cd s, .d (ints xs)] [srcR cd (pik l s xs).2, .any] (.d (di (pik l s xs).1)) := d_spec_l01Pick cd l H.hb H.hl s hs xs h0 h1
theorem ex_nxt {cd : D} {l : List Int} (H : SrcH cd l) {s : Src} (hs : okS l s) {q : Int} (hq : 1 ≤ q) : ∃ (v : Int) (s' : Src), okS l s' ∧ 0 ≤ v ∧ v < q ∧ Den PA f_spec_l01Next [srcR cd s, .d (di q)] [srcR cd s', .any] (.d (di v)) :=
  ⟨_, _, nxt_ok hs q, (nxt_bnd hq).1, (nxt_bnd hq).2, d_nxt H hs q⟩
theorem ex_pik {cd : D} {l : List Int} (H : SrcH cd l) {s : Src} (hs : okS l s) (xs : List Int) (h0 : 0 < xs.length) (h1 : xs.length < 1000) : ∃ (v : Int) (s' : Src), okS l s' ∧ v ∈ xs ∧ Den PA f_spec_l01Pick [srcR cd s, .d (ints xs)] [srcR cd s', .any] (.d (di v)) :=
  ⟨_, _, pik_ok hs xs, pik_mem h0, d_pik H hs xs h0 h1⟩
theorem ex_near {cd : D} {l : List Int} (H : SrcH cd l) {s : Src} (hs : okS l s) {most : Int} (h0 : 0 ≤ most) (h1 : most < 1000000000000) : ∃ (v : Int) (s' : Src), okS l s' ∧ in64 v ∧ Den PA f_spec_l01Near [srcR cd s, .d (di most)] [srcR cd s', .any] (.d (di v)) := by
  obtain ⟨v0, s0, hs0, a1, a2, d0⟩ := ex_nxt H hs (q := 14) (by omega)
  by_cases hv : v0 = 0
  · subst hv
    obtain ⟨v1, s1, hs1, hm, d1⟩ := ex_pik H hs0 [-1, most + 1, 1099511627776, -4611686018427387904] (by simp) (by simp)
    refine ⟨v1, s1, hs1, ?_, den_go [0] l_spec_l01Near ?_⟩
    · simp only [List.mem_cons, List.mem_nil_iff, or_false] at hm
      unfold in64; omega
    · repeat' (first | simp -implicitDefEqProofs (maxSteps := 1000000) (disch := (first | omega | (simp only [go_sem] <;> omega) | fail)) only [go_sem, ints, bools, mat, c_spec_l01Near, srcR] | ((first | apply goIf_b | apply goG_b | apply goTG_b | apply goOG_b) <;> intro h <;> ((try simp only [Bool.not_eq_true', Bool.not_eq_false'] at h); (try simp only [h]); (try simp only [decide_eq_true_eq, decide_eq_false_iff_not, bne_iff_ne, bne_eq_false_iff_eq, beq_iff_eq, beq_eq_false_iff_ne, ne_eq, Int.not_lt, Int.not_le, Bool.and_eq_true, Bool.and_eq_false_iff, Bool.or_eq_true, Bool.or_eq_false_iff] at h)) <;> (try (exfalso; omega))))
      first | refine goC_call [.bm, .r] (d0) ?_ | refine goOC_call [.bm, .r] (d0) ?_
      repeat' (first | simp -implicitDefEqProofs (maxSteps := 1000000) (disch := (first | omega | (simp only [go_sem] <;> omega) | fail)) only [go_sem, ints, bools, mat] | ((first | apply goIf_b | apply goG_b | apply goTG_b | apply goOG_b) <;> intro h <;> ((try simp only [Bool.not_eq_true', Bool.not_eq_false'] at h); (try simp only [h]); (try simp only [decide_eq_true_eq, decide_eq_false_iff_not, bne_iff_ne, bne_eq_false_iff_eq, beq_iff_eq, beq_eq_false_iff_ne, ne_eq, Int.not_lt, Int.not_le, Bool.and_eq_true, Bool.and_eq_false_iff, Bool.or_eq_true, Bool.or_eq_false_iff] at h)) <;> (try (exfalso; omega))))
      first | refine goC_call [.bm, .f] (d1) ?_ | refine goOC_call [.bm, .f] (d1) ?_
      repeat' (first | simp -implicitDefEqProofs (maxSteps := 1000000) (disch := (first | omega | (simp only [go_sem] <;> omega) | fail)) only [go_sem, ints, bools, mat] | ((first | apply goIf_b | apply goG_b | apply goTG_b | apply goOG_b) <;> intro h <;> ((try simp only [Bool.not_eq_true', Bool.not_eq_false'] at h); (try simp only [h]); (try simp only [decide_eq_true_eq, decide_eq_false_iff_not, bne_iff_ne, bne_eq_false_iff_eq, beq_iff_eq, beq_eq_false_iff_ne, ne_eq, Int.not_lt, Int.not_le, Bool.and_eq_true, Bool.and_eq_false_iff, Bool.or_eq_true, Bool.or_eq_false_iff] at h)) <;> (try (exfalso; omega))))
  · obtain ⟨v1, s1, hs1, b1, b2, d1⟩ := ex_nxt H hs0 (q := most + 1) (by omega)
    refine ⟨v1, s1, hs1, ?_, den_go [0] l_spec_l01Near ?_⟩
    · unfold in64; omega
    · repeat' (first | simp -implicitDefEqProofs (maxSteps := 1000000) (disch := (first | omega | (simp only [go_sem] <;> omega) | fail)) only [go_sem, ints, bools, mat, c_spec_l01Near, srcR] | ((first | apply goIf_b | apply goG_b | apply goTG_b | apply goOG_b) <;> intro h <;> ((try simp only [Bool.not_eq_true', Bool.not_eq_false'] at h); (try simp only [h]); (try simp only [decide_eq_true_eq, decide_eq_false_iff_not, bne_iff_ne, bne_eq_false_iff_eq, beq_iff_eq, beq_eq_false_iff_ne, ne_eq, Int.not_lt, Int.not_le, Bool.and_eq_true, Bool.and_eq_false_iff, Bool.or_eq_true, Bool.or_eq_false_iff] at h)) <;> (try (exfalso; omega))))
      first | refine goC_call [.bm, .r] (d0) ?_ | refine goOC_call [.bm, .r] (d0) ?_
      repeat' (first | simp -implicitDefEqProofs (maxSteps := 1000000) (disch := (first | omega | (simp only [go_sem] <;> omega) | fail)) only [go_sem, ints, bools, mat] | ((first | apply goIf_b | apply goG_b | apply goTG_b | apply goOG_b) <;> intro h <;> ((try simp only [Bool.not_eq_true', Bool.not_eq_false'] at h); (try simp only [h]); (try simp only [decide_eq_true_eq, decide_eq_false_iff_not, bne_iff_ne, bne_eq_false_iff_eq, beq_iff_eq, beq_eq_false_iff_ne, ne_eq, Int.not_lt, Int.not_le, Bool.and_eq_true, Bool.and_eq_false_iff, Bool.or_eq_true, Bool.or_eq_false_iff] at h)) <;> (try (exfalso; omega))))
      first | refine goC_call [.bm, .r] (d1) ?_ | refine goOC_call [.bm, .r] (d1) ?_
      repeat' (first | simp -implicitDefEqProofs (maxSteps := 1000000) (disch := (first | omega | (simp only [go_sem] <;> omega) | fail)) only [go_sem, ints, bools, mat] | ((first | apply goIf_b | apply goG_b | apply goTG_b | apply goOG_b) <;> intro h <;> ((try simp only [Bool.not_eq_true', Bool.not_eq_false'] at h); (try simp only [h]); (try simp only [decide_eq_true_eq, decide_eq_false_iff_not, bne_iff_ne, bne_eq_false_iff_eq, beq_iff_eq, beq_eq_false_iff_ne, ne_eq, Int.not_lt, Int.not_le, Bool.and_eq_true, Bool.and_eq_false_iff, Bool.or_eq_true, Bool.or_eq_false_iff] at h)) <;> (try (exfalso; omega))))
def dwN (l : List Int) (most kind : Int) : Nat → List Int → Src → List Int × Src
  | 0, o, s => (o, s)
  | k + 1, o, s => if most < prodM o * (if kind = 0 then pik l s [2, 2, 3, 4] else (kind, s)).1 then (o, (if kind = 0 then pik l s [2, 2, 3, 4] else (kind, s)).2) else dwN l most kind k (o ++ [(if kind = 0 then pik l s [2, 2, 3, 4] else (kind, s)).1]) (if kind = 0 then pik l s [2, 2, 3, 4] else (kind, s)).2
theorem prodM_snoc (o : List Int) (q : Int) : prodM (o ++ [q]) = prodM o * q := by simp [prodM, List.foldl_append]
def szO (o : List Int) : Prop := (∀ i, i < o.length → 2 ≤ o.getD i 0 ∧ o.getD i 0 ≤ 4) ∧ 1 ≤ prodM o ∧ prodM o ≤ 256
theorem szO_snoc {o : List Int} {q : Int} (h : szO o) (hq : 2 ≤ q ∧ q ≤ 4) (hp : prodM o * q ≤ 256) : szO (o ++ [q]) := by
  refine ⟨fun i hi => ?_, ?_, ?_⟩
  · rcases Nat.lt_or_ge i o.length with h1 | h1
    · have := h.1 i h1
      have e : (o ++ [q]).getD i 0 = o.getD i 0 := by simp [List.getD_eq_getElem?_getD, List.getElem?_append_left h1]
      rw [e]; exact this
    · have e1 : i = o.length := by simp at hi; omega
      subst e1
      have e : (o ++ [q]).getD o.length 0 = q := by simp
      rw [e]; exact hq
  · rw [prodM_snoc]
    have h5 : (1 : Int) * 1 ≤ prodM o * q := Int.mul_le_mul h.2.1 (by omega) (by omega) (by have := h.2.1; omega)
    omega
  · rw [prodM_snoc]; exact hp
theorem szO_space {o : List Int} (h : szO o) (h0 : 0 < o.length) (h8 : o.length ≤ 8) : isSpaceM o = true := (isSpaceM_ok o).2 ⟨⟨by omega, h8⟩, h.1, by have := h.2.2; omega⟩
theorem ex_drawOf {cd : D} {l : List Int} (H : SrcH cd l) {s : Src} (hs : okS l s) {most : Int} (h0 : 8 ≤ most) (h1 : most ≤ 256) : ∃ (o : List Int) (s' : Src), okS l s' ∧ isSpaceM o = true ∧ Den PA f_spec_l01DrawOf [srcR cd s, .d (di most)] [srcR cd s', .any] (.agg [.own 1 (o.map di)]) := by
  obtain ⟨kind, s1, hs1, hk, d1⟩ := ex_pik H hs [0, 2, 2, 3, 3] (by simp) (by simp)
  obtain ⟨n, s2, hs2, n1, n2, d2⟩ := ex_nxt H hs1 (q := 8) (by omega)
  have hkind : 0 ≤ kind ∧ kind ≤ 3 ∧ kind ≠ 1 := by
    simp only [List.mem_cons, List.mem_nil_iff, or_false] at hk; omega
  have key : ∀ (k : Nat) (o : List Int) (s : Src), szO o → okS l s → o.length + k ≤ 8 → szO (dwN l most kind k o s).1 ∧ okS l (dwN l most kind k o s).2 ∧ (dwN l most kind k o s).1.length ≤ 8 := by
    intro k
    induction k with
    | zero => intro o s a b c; exact ⟨a, b, by simp only [dwN]; omega⟩
    | succ k ih =>
      intro o s a b c
      have hr : 2 ≤ (if kind = 0 then pik l s [2, 2, 3, 4] else (kind, s)).1 ∧ (if kind = 0 then pik l s [2, 2, 3, 4] else (kind, s)).1 ≤ 4 ∧ okS l (if kind = 0 then pik l s [2, 2, 3, 4] else (kind, s)).2 := by
        by_cases e : kind = 0
        · rw [if_pos e]
          have hm := pik_mem (l := l) (s := s) (xs := [2, 2, 3, 4]) (by simp)
          simp only [List.mem_cons, List.mem_nil_iff, or_false] at hm
          exact ⟨by omega, by omega, pik_ok b _⟩
        · rw [if_neg e]; exact ⟨by dsimp only; omega, by dsimp only; omega, b⟩
      rw [dwN]
      generalize (if kind = 0 then pik l s [2, 2, 3, 4] else (kind, s)) = r at *
      by_cases hm : most < prodM o * r.1
      · rw [if_pos hm]
        exact ⟨a, hr.2.2, by dsimp only; omega⟩
      · rw [if_neg hm]
        exact ih _ _ (szO_snoc a ⟨hr.1, hr.2.1⟩ (by omega)) hr.2.2 (by simp; omega)
  have hz0 : szO [] := ⟨fun i hi => by simp at hi, by decide, by decide⟩
  have hfin := key (1 + n).toNat [] s2 hz0 hs2 (by simp; omega)
  obtain ⟨X, hX⟩ : ∃ X, X = dwN l most kind (1 + n).toNat [] s2 := ⟨_, rfl⟩
  rw [← hX] at hfin
  refine ⟨if X.1.length = 0 then [2] else X.1, X.2, hfin.2.1, ?_, den_go [0] l_spec_l01DrawOf ?_⟩
  · split
    · decide
    · exact szO_space hfin.1 (by omega) hfin.2.2
  · repeat' (first | simp -implicitDefEqProofs (maxSteps := 1000000) (disch := (first | omega | (simp only [go_sem] <;> omega) | fail)) only [go_sem, ints, bools, mat, c_spec_l01DrawOf, srcR] | ((first | apply goIf_b | apply goG_b | apply goTG_b | apply goOG_b) <;> intro h <;> ((try simp only [Bool.not_eq_true', Bool.not_eq_false'] at h); (try simp only [h]); (try simp only [decide_eq_true_eq, decide_eq_false_iff_not, bne_iff_ne, bne_eq_false_iff_eq, beq_iff_eq, beq_eq_false_iff_ne, ne_eq, Int.not_lt, Int.not_le, Bool.and_eq_true, Bool.and_eq_false_iff, Bool.or_eq_true, Bool.or_eq_false_iff] at h)) <;> (try (exfalso; omega))))
    first | refine goC_call [.bm, .f] (d1) ?_ | refine goOC_call [.bm, .f] (d1) ?_
    repeat' (first | simp -implicitDefEqProofs (maxSteps := 1000000) (disch := (first | omega | (simp only [go_sem] <;> omega) | fail)) only [go_sem, ints, bools, mat] | ((first | apply goIf_b | apply goG_b | apply goTG_b | apply goOG_b) <;> intro h <;> ((try simp only [Bool.not_eq_true', Bool.not_eq_false'] at h); (try simp only [h]); (try simp only [decide_eq_true_eq, decide_eq_false_iff_not, bne_iff_ne, bne_eq_false_iff_eq, beq_iff_eq, beq_eq_false_iff_ne, ne_eq, Int.not_lt, Int.not_le, Bool.and_eq_true, Bool.and_eq_false_iff, Bool.or_eq_true, Bool.or_eq_false_iff] at h)) <;> (try (exfalso; omega))))
    first | refine goC_call [.bm, .r] (d2) ?_ | refine goOC_call [.bm, .r] (d2) ?_
    repeat' (first | simp -implicitDefEqProofs (maxSteps := 1000000) (disch := (first | omega | (simp only [go_sem] <;> omega) | fail)) only [go_sem, ints, bools, mat] | ((first | apply goIf_b | apply goG_b | apply goTG_b | apply goOG_b) <;> intro h <;> ((try simp only [Bool.not_eq_true', Bool.not_eq_false'] at h); (try simp only [h]); (try simp only [decide_eq_true_eq, decide_eq_false_iff_not, bne_iff_ne, bne_eq_false_iff_eq, beq_iff_eq, beq_eq_false_iff_ne, ne_eq, Int.not_lt, Int.not_le, Bool.and_eq_true, Bool.and_eq_false_iff, Bool.or_eq_true, Bool.or_eq_false_iff] at h)) <;> (try (exfalso; omega))))
    refine go_loop (fun (p : Nat × List Int × Src) => ⟨[(0, .ref 0 0), (1, .d (di most)), (4, .ref 1 0), (5, .ref 2 0), (6, .d (di kind)), (7, .d (di p.1)), (49, .ref 0 0)], [some (.var [cd, di p.2.2.1, du p.2.2.2]), some (.var [D.v (.slice none 0 0)]), some (.mix [.sl 3 0 p.2.1.length 1]), some (.dat 1 (p.2.1.map di))]⟩) (fun p => dwN l most kind p.1 p.2.1 p.2.2 = X ∧ szO p.2.1 ∧ okS l p.2.2 ∧ p.2.1.length + p.1 ≤ 8) (fun p => p.1) ((1 + n).toNat, [], s2) ?_ ?_ ?_
    · simp -implicitDefEqProofs (maxSteps := 1000000) (disch := (first | omega | (simp only [go_sem] <;> omega) | fail)) only [go_sem, ints, bools, mat]
      have e : ((1 + n).toNat : Int) = 1 + n := by omega
      rw [e]
    · exact ⟨hX.symm, hz0, hs2, by dsimp only; simp only [List.length_nil]; omega⟩
    · rintro ⟨k, o, s⟩ ⟨g1, g2, g3, g4⟩ J hJ
      dsimp only at g1 g2 g3 g4 ⊢
      have hn := d_spec_l01N o (by omega) g2.1
      have hp := g2.2
      rcases k with _ | k
      · have e : X = (o, s) := by rw [← g1]; rfl
        rw [e]
        by_cases ho : o.length = 0
        · have e2 : o = [] := List.eq_nil_of_length_eq_zero ho
          subst e2
          repeat' (first | simp -implicitDefEqProofs (maxSteps := 1000000) (disch := (first | omega | (simp only [go_sem] <;> omega) | fail)) only [go_sem, ints, bools, mat] | ((first | apply goIf_b | apply goG_b | apply goTG_b | apply goOG_b) <;> intro h <;> ((try simp only [Bool.not_eq_true', Bool.not_eq_false'] at h); (try simp only [h]); (try simp only [decide_eq_true_eq, decide_eq_false_iff_not, bne_iff_ne, bne_eq_false_iff_eq, beq_iff_eq, beq_eq_false_iff_ne, ne_eq, Int.not_lt, Int.not_le, Bool.and_eq_true, Bool.and_eq_false_iff, Bool.or_eq_true, Bool.or_eq_false_iff] at h)) <;> (try (exfalso; omega))))
        · rw [if_neg ho]
          repeat' (first | simp -implicitDefEqProofs (maxSteps := 1000000) (disch := (first | omega | (simp only [go_sem] <;> omega) | fail)) only [go_sem, ints, bools, mat] | ((first | apply goIf_b | apply goG_b | apply goTG_b | apply goOG_b) <;> intro h <;> ((try simp only [Bool.not_eq_true', Bool.not_eq_false'] at h); (try simp only [h]); (try simp only [decide_eq_true_eq, decide_eq_false_iff_not, bne_iff_ne, bne_eq_false_iff_eq, beq_iff_eq, beq_eq_false_iff_ne, ne_eq, Int.not_lt, Int.not_le, Bool.and_eq_true, Bool.and_eq_false_iff, Bool.or_eq_true, Bool.or_eq_false_iff] at h)) <;> (try (exfalso; omega))))
      · rw [dwN] at g1
        by_cases hk0 : kind = 0
        · obtain ⟨q, s3, hs3, hq, d3⟩ : ∃ (q : Int) (s3 : Src), okS l s3 ∧ (q = (pik l s [2, 2, 3, 4]).1 ∧ s3 = (pik l s [2, 2, 3, 4]).2) ∧ Den PA f_spec_l01Pick [srcR cd s, .d (ints [2, 2, 3, 4])] [srcR cd s3, .any] (.d (di q)) := ⟨_, _, pik_ok g3 _, ⟨rfl, rfl⟩, d_pik H g3 [2, 2, 3, 4] (by simp) (by simp)⟩
          have hm := pik_mem (l := l) (s := s) (xs := [2, 2, 3, 4]) (by simp)
          simp only [List.mem_cons, List.mem_nil_iff, or_false] at hm
          rw [← hq.1] at hm
          simp only [if_pos hk0] at g1
          rw [← hq.1, ← hq.2] at g1
          repeat' (first | simp -implicitDefEqProofs (maxSteps := 1000000) (disch := (first | omega | (simp only [go_sem] <;> omega) | fail)) only [go_sem, ints, bools, mat] | ((first | apply goIf_b | apply goG_b | apply goTG_b | apply goOG_b) <;> intro h <;> ((try simp only [Bool.not_eq_true', Bool.not_eq_false'] at h); (try simp only [h]); (try simp only [decide_eq_true_eq, decide_eq_false_iff_not, bne_iff_ne, bne_eq_false_iff_eq, beq_iff_eq, beq_eq_false_iff_ne, ne_eq, Int.not_lt, Int.not_le, Bool.and_eq_true, Bool.and_eq_false_iff, Bool.or_eq_true, Bool.or_eq_false_iff] at h)) <;> (try (exfalso; omega))))
          first | refine goC_call [.bm, .f] (d3) ?_ | refine goOC_call [.bm, .f] (d3) ?_
          repeat' (first | simp -implicitDefEqProofs (maxSteps := 1000000) (disch := (first | omega | (simp only [go_sem] <;> omega) | fail)) only [go_sem, ints, bools, mat] | ((first | apply goIf_b | apply goG_b | apply goTG_b | apply goOG_b) <;> intro h <;> ((try simp only [Bool.not_eq_true', Bool.not_eq_false'] at h); (try simp only [h]); (try simp only [decide_eq_true_eq, decide_eq_false_iff_not, bne_iff_ne, bne_eq_false_iff_eq, beq_iff_eq, beq_eq_false_iff_ne, ne_eq, Int.not_lt, Int.not_le, Bool.and_eq_true, Bool.and_eq_false_iff, Bool.or_eq_true, Bool.or_eq_false_iff] at h)) <;> (try (exfalso; omega))))
          first | refine goC_call [.r] (hn) ?_ | refine goOC_call [.r] (hn) ?_
          have hpq : 0 ≤ prodM o * q ∧ prodM o * q ≤ 256 * 4 := ⟨Int.mul_nonneg (by omega) (by omega), Int.mul_le_mul (by omega) (by omega) (by omega) (by omega)⟩
          repeat' (first | simp -implicitDefEqProofs (maxSteps := 1000000) (disch := (first | omega | (simp only [go_sem] <;> omega) | fail)) only [go_sem, ints, bools, mat] | ((first | apply goIf_b | apply goG_b | apply goTG_b | apply goOG_b) <;> intro h <;> ((try simp only [Bool.not_eq_true', Bool.not_eq_false'] at h); (try simp only [h]); (try simp only [decide_eq_true_eq, decide_eq_false_iff_not, bne_iff_ne, bne_eq_false_iff_eq, beq_iff_eq, beq_eq_false_iff_ne, ne_eq, Int.not_lt, Int.not_le, Bool.and_eq_true, Bool.and_eq_false_iff, Bool.or_eq_true, Bool.or_eq_false_iff] at h)) <;> (try (exfalso; omega))))
          · rw [if_pos (by assumption)] at g1
            rw [← g1]
            have e2 : o = [] := List.eq_nil_of_length_eq_zero (by omega)
            subst e2
            exact ⟨rfl, rfl⟩
          · rw [if_pos (by assumption)] at g1
            rw [← g1]
            dsimp only
            rw [if_neg (show ¬ o.length = 0 by omega)]
            exact ⟨rfl, rfl⟩
          · rw [if_neg (by omega)] at g1
            refine hJ (k, o ++ [q], s3) ⟨g1, szO_snoc g2 (by omega) (by omega), hs3, by dsimp only; simp; omega⟩ (by dsimp only; omega) _ ?_
            simp -implicitDefEqProofs (maxSteps := 1000000) (disch := (first | omega | (simp only [go_sem] <;> omega) | fail)) only [go_sem, ints, bools, mat]
        · simp only [if_neg hk0] at g1
          have hpq : 0 ≤ prodM o * kind ∧ prodM o * kind ≤ 256 * 4 := ⟨Int.mul_nonneg (by omega) (by omega), Int.mul_le_mul (by omega) (by omega) (by omega) (by omega)⟩
          repeat' (first | simp -implicitDefEqProofs (maxSteps := 1000000) (disch := (first | omega | (simp only [go_sem] <;> omega) | fail)) only [go_sem, ints, bools, mat] | ((first | apply goIf_b | apply goG_b | apply goTG_b | apply goOG_b) <;> intro h <;> ((try simp only [Bool.not_eq_true', Bool.not_eq_false'] at h); (try simp only [h]); (try simp only [decide_eq_true_eq, decide_eq_false_iff_not, bne_iff_ne, bne_eq_false_iff_eq, beq_iff_eq, beq_eq_false_iff_ne, ne_eq, Int.not_lt, Int.not_le, Bool.and_eq_true, Bool.and_eq_false_iff, Bool.or_eq_true, Bool.or_eq_false_iff] at h)) <;> (try (exfalso; omega))))
          first | refine goC_call [.r] (hn) ?_ | refine goOC_call [.r] (hn) ?_
          repeat' (first | simp -implicitDefEqProofs (maxSteps := 1000000) (disch := (first | omega | (simp only [go_sem] <;> omega) | fail)) only [go_sem, ints, bools, mat] | ((first | apply goIf_b | apply goG_b | apply goTG_b | apply goOG_b) <;> intro h <;> ((try simp only [Bool.not_eq_true', Bool.not_eq_false'] at h); (try simp only [h]); (try simp only [decide_eq_true_eq, decide_eq_false_iff_not, bne_iff_ne, bne_eq_false_iff_eq, beq_iff_eq, beq_eq_false_iff_ne, ne_eq, Int.not_lt, Int.not_le, Bool.and_eq_true, Bool.and_eq_false_iff, Bool.or_eq_true, Bool.or_eq_false_iff] at h)) <;> (try (exfalso; omega))))
          · rw [if_pos (by assumption)] at g1
            rw [← g1]
            have e2 : o = [] := List.eq_nil_of_length_eq_zero (by omega)
            subst e2
            exact ⟨rfl, rfl⟩
          · rw [if_pos (by assumption)] at g1
            rw [← g1]
            dsimp only
            rw [if_neg (show ¬ o.length = 0 by omega)]
            exact ⟨rfl, rfl⟩
          · rw [if_neg (by omega)] at g1
            refine hJ (k, o ++ [kind], s) ⟨g1, szO_snoc g2 (by omega) (by omega), g3, by dsimp only; simp; omega⟩ (by dsimp only; omega) _ ?_
            simp -implicitDefEqProofs (maxSteps := 1000000) (disch := (first | omega | (simp only [go_sem] <;> omega) | fail)) only [go_sem, ints, bools, mat]
theorem ex_draw {cd : D} {l : List Int} (H : SrcH cd l) {s : Src} (hs : okS l s) : ∃ (o : List Int) (s' : Src), okS l s' ∧ isSpaceM o = true ∧ Den PA f_spec_l01Draw [srcR cd s] [srcR cd s'] (.agg [.own 1 (o.map di)]) := by
  obtain ⟨m, s1, hs1, hm, d1⟩ := ex_pik H hs [16, 81, 256, 256] (by simp) (by simp)
  simp only [List.mem_cons, List.mem_nil_iff, or_false] at hm
  obtain ⟨o, s2, hs2, ho, d2⟩ := ex_drawOf H hs1 (most := m) (by omega) (by omega)
  refine ⟨o, s2, hs2, ho, den_go [0] l_spec_l01Draw ?_⟩
  repeat' (first | simp -implicitDefEqProofs (maxSteps := 1000000) (disch := (first | omega | (simp only [go_sem] <;> omega) | fail)) only [go_sem, ints, bools, mat, c_spec_l01Draw, srcR] | ((first | apply goIf_b | apply goG_b | apply goTG_b | apply goOG_b) <;> intro h <;> ((try simp only [Bool.not_eq_true', Bool.not_eq_false'] at h); (try simp only [h]); (try simp only [decide_eq_true_eq, decide_eq_false_iff_not, bne_iff_ne, bne_eq_false_iff_eq, beq_iff_eq, beq_eq_false_iff_ne, ne_eq, Int.not_lt, Int.not_le, Bool.and_eq_true, Bool.and_eq_false_iff, Bool.or_eq_true, Bool.or_eq_false_iff] at h)) <;> (try (exfalso; omega))))
  first | refine goC_call [.bm, .f] (d1) ?_ | refine goOC_call [.bm, .f] (d1) ?_
  repeat' (first | simp -implicitDefEqProofs (maxSteps := 1000000) (disch := (first | omega | (simp only [go_sem] <;> omega) | fail)) only [go_sem, ints, bools, mat] | ((first | apply goIf_b | apply goG_b | apply goTG_b | apply goOG_b) <;> intro h <;> ((try simp only [Bool.not_eq_true', Bool.not_eq_false'] at h); (try simp only [h]); (try simp only [decide_eq_true_eq, decide_eq_false_iff_not, bne_iff_ne, bne_eq_false_iff_eq, beq_iff_eq, beq_eq_false_iff_ne, ne_eq, Int.not_lt, Int.not_le, Bool.and_eq_true, Bool.and_eq_false_iff, Bool.or_eq_true, Bool.or_eq_false_iff] at h)) <;> (try (exfalso; omega))))
  first | refine goC_call [.bm, .r] (d2) ?_ | refine goOC_call [.bm, .r] (d2) ?_
  repeat' (first | simp -implicitDefEqProofs (maxSteps := 1000000) (disch := (first | omega | (simp only [go_sem] <;> omega) | fail)) only [go_sem, ints, bools, mat] | ((first | apply goIf_b | apply goG_b | apply goTG_b | apply goOG_b) <;> intro h <;> ((try simp only [Bool.not_eq_true', Bool.not_eq_false'] at h); (try simp only [h]); (try simp only [decide_eq_true_eq, decide_eq_false_iff_not, bne_iff_ne, bne_eq_false_iff_eq, beq_iff_eq, beq_eq_false_iff_ne, ne_eq, Int.not_lt, Int.not_le, Bool.and_eq_true, Bool.and_eq_false_iff, Bool.or_eq_true, Bool.or_eq_false_iff] at h)) <;> (try (exfalso; omega))))
def hsh (l : List Int) : Nat → Int
  | 0 => 14111 + (l.length : Int)
  | i + 1 => IntKind.wrap .u64 (IntKind.wrap .u64 (IntKind.wrap .u64 (hsh l i * 1099511628211) + l.getD i 0) + 251)
theorem hsh_bnd {l : List Int} (h : l.length < 1048577) : ∀ i, 0 ≤ hsh l i ∧ hsh l i < 18446744073709551616
  | 0 => by simp only [hsh]; omega
  | _ + 1 => wrapU_bnd _
theorem ex_from {cd : D} {l : List Int} (H : SrcH cd l) : ∃ s' : Src, okS l s' ∧ Den PA f_spec_l01From [.d cd] [.any] (srcR cd s') := by
  have hl := H.hl
  refine ⟨(0, hsh l (min l.length 4096)), ⟨Nat.zero_le _, hsh_bnd hl _⟩, den_go [] l_spec_l01From ?_⟩
  rcases H.hb with ⟨rfl, hby⟩ | ⟨rfl, rfl⟩
  · repeat' (first | simp -implicitDefEqProofs (maxSteps := 1000000) (disch := (first | omega | (simp only [go_sem] <;> omega) | fail)) only [go_sem, ints, bools, mat, c_spec_l01From, srcR] | ((first | apply goIf_b | apply goG_b | apply goTG_b | apply goOG_b) <;> intro h <;> ((try simp only [Bool.not_eq_true', Bool.not_eq_false'] at h); (try simp only [h]); (try simp only [decide_eq_true_eq, decide_eq_false_iff_not, bne_iff_ne, bne_eq_false_iff_eq, beq_iff_eq, beq_eq_false_iff_ne, ne_eq, Int.not_lt, Int.not_le, Bool.and_eq_true, Bool.and_eq_false_iff, Bool.or_eq_true, Bool.or_eq_false_iff] at h)) <;> (try (exfalso; omega))))
    refine go_loop (fun (i : Nat) => ⟨[(0, .d (.lst 1 (l.map dy))), (3, .ref 0 0), (4, .d (di i))], [some (.var [.lst 1 (l.map dy), di 0, du (hsh l i)])]⟩) (fun i => i ≤ min l.length 4096) (fun i => min l.length 4096 - i) 0 ?_ ?_ ?_
    · (simp -implicitDefEqProofs (maxSteps := 1000000) (disch := (first | omega | (simp only [go_sem] <;> omega) | fail)) only [go_sem, ints, bools, mat] <;> rfl)
    · exact Nat.zero_le _
    · rintro i hi J hJ
      have hb := hsh_bnd hl i
      by_cases hil : i < min l.length 4096
      · have hbi := hby _ (mem_getD (show i < l.length by omega))
        repeat' (first | simp -implicitDefEqProofs (maxSteps := 1000000) (disch := (first | omega | (simp only [go_sem] <;> omega) | fail)) only [go_sem, ints, bools, mat] | ((first | apply goIf_b | apply goG_b | apply goTG_b | apply goOG_b) <;> intro h <;> ((try simp only [Bool.not_eq_true', Bool.not_eq_false'] at h); (try simp only [h]); (try simp only [decide_eq_true_eq, decide_eq_false_iff_not, bne_iff_ne, bne_eq_false_iff_eq, beq_iff_eq, beq_eq_false_iff_ne, ne_eq, Int.not_lt, Int.not_le, Bool.and_eq_true, Bool.and_eq_false_iff, Bool.or_eq_true, Bool.or_eq_false_iff] at h)) <;> (try (exfalso; omega))))
        refine hJ (i + 1) (by omega) (by omega) _ (by (simp -implicitDefEqProofs (maxSteps := 1000000) (disch := (first | omega | (simp only [go_sem] <;> omega) | fail)) only [go_sem, ints, bools, mat] <;> rfl))
      · have e : i = min l.length 4096 := by omega
        by_cases h4 : l.length ≤ 4096
        · repeat' (first | simp -implicitDefEqProofs (maxSteps := 1000000) (disch := (first | omega | (simp only [go_sem] <;> omega) | fail)) only [go_sem, ints, bools, mat] | ((first | apply goIf_b | apply goG_b | apply goTG_b | apply goOG_b) <;> intro h <;> ((try simp only [Bool.not_eq_true', Bool.not_eq_false'] at h); (try simp only [h]); (try simp only [decide_eq_true_eq, decide_eq_false_iff_not, bne_iff_ne, bne_eq_false_iff_eq, beq_iff_eq, beq_eq_false_iff_ne, ne_eq, Int.not_lt, Int.not_le, Bool.and_eq_true, Bool.and_eq_false_iff, Bool.or_eq_true, Bool.or_eq_false_iff] at h)) <;> (try (exfalso; omega))))
          rw [← e]
        · repeat' (first | simp -implicitDefEqProofs (maxSteps := 1000000) (disch := (first | omega | (simp only [go_sem] <;> omega) | fail)) only [go_sem, ints, bools, mat] | ((first | apply goIf_b | apply goG_b | apply goTG_b | apply goOG_b) <;> intro h <;> ((try simp only [Bool.not_eq_true', Bool.not_eq_false'] at h); (try simp only [h]); (try simp only [decide_eq_true_eq, decide_eq_false_iff_not, bne_iff_ne, bne_eq_false_iff_eq, beq_iff_eq, beq_eq_false_iff_ne, ne_eq, Int.not_lt, Int.not_le, Bool.and_eq_true, Bool.and_eq_false_iff, Bool.or_eq_true, Bool.or_eq_false_iff] at h)) <;> (try (exfalso; omega))))
          rw [← e]
  · repeat' (first | simp -implicitDefEqProofs (maxSteps := 1000000) (disch := (first | omega | (simp only [go_sem] <;> omega) | fail)) only [go_sem, ints, bools, mat, c_spec_l01From, srcR] | ((first | apply goIf_b | apply goG_b | apply goTG_b | apply goOG_b) <;> intro h <;> ((try simp only [Bool.not_eq_true', Bool.not_eq_false'] at h); (try simp only [h]); (try simp only [decide_eq_true_eq, decide_eq_false_iff_not, bne_iff_ne, bne_eq_false_iff_eq, beq_iff_eq, beq_eq_false_iff_ne, ne_eq, Int.not_lt, Int.not_le, Bool.and_eq_true, Bool.and_eq_false_iff, Bool.or_eq_true, Bool.or_eq_false_iff] at h)) <;> (try (exfalso; omega))))
    refine go_loop (fun (_ : Unit) => ⟨[(0, .d (.v (.slice none 0 0))), (3, .ref 0 0), (4, .d (di 0))], [some (.var [.v (.slice none 0 0), di 0, du (hsh [] 0)])]⟩) (fun _ => True) (fun _ => 0) () ?_ trivial ?_
    · (simp -implicitDefEqProofs (maxSteps := 1000000) (disch := (first | omega | (simp only [go_sem] <;> omega) | fail)) only [go_sem, ints, bools, mat] <;> rfl)
    · intro _ _ J _
      repeat' (first | simp -implicitDefEqProofs (maxSteps := 1000000) (disch := (first | omega | (simp only [go_sem] <;> omega) | fail)) only [go_sem, ints, bools, mat] | ((first | apply goIf_b | apply goG_b | apply goTG_b | apply goOG_b) <;> intro h <;> ((try simp only [Bool.not_eq_true', Bool.not_eq_false'] at h); (try simp only [h]); (try simp only [decide_eq_true_eq, decide_eq_false_iff_not, bne_iff_ne, bne_eq_false_iff_eq, beq_iff_eq, beq_eq_false_iff_ne, ne_eq, Int.not_lt, Int.not_le, Bool.and_eq_true, Bool.and_eq_false_iff, Bool.or_eq_true, Bool.or_eq_false_iff] at h)) <;> (try (exfalso; omega))))
      rfl
theorem d_own_f {x : List Int} (hx : x.length < 1048577) : Den PA f_spec_l01Own [.d (ints x)] [.any] (.own 1 (x.map di)) := d_spec_l01Own x hx
def drL (X : D) (o : List Int) : Prop := IsInts X o ∧ o.length < 1048577 ∧ ∀ n, n ∈ o → in64 n
theorem ex_bad {cd : D} {l : List Int} (H : SrcH cd l) {s : Src} (hs : okS l s) {x : List Int} (hx : isSpaceM x = true) : ∃ (X : D) (o : List Int) (s' : Src), okS l s' ∧ drL X o ∧ Den PA f_spec_l01Bad [srcR cd s, .d (.agg [ints x])] [srcR cd s', .any] (.d (.agg [X])) := by
  have hn := isSpaceM_n hx
  have hq := isSpaceM_q hx
  have hin : ∀ n, n ∈ x → in64 n := fun n h => by
    obtain ⟨i, hi, rfl⟩ := List.mem_iff_getElem.1 h
    have := hq i hi
    simp [hi] at this
    unfold in64; omega
  obtain ⟨v, s1, hs1, v1, v2, d1⟩ := ex_nxt H hs (q := 50) (by omega)
  by_cases h0 : v = 0
  · subst h0
    refine ⟨nil, [], s1, hs1, ⟨.inr ⟨rfl, rfl⟩, by simp, by simp⟩, den_go [0] l_spec_l01Bad ?_⟩
    repeat' (first | simp -implicitDefEqProofs (maxSteps := 1000000) (disch := (first | omega | (simp only [go_sem] <;> omega) | fail)) only [go_sem, ints, bools, mat, c_spec_l01Bad, srcR] | ((first | apply goIf_b | apply goG_b | apply goTG_b | apply goOG_b) <;> intro h <;> ((try simp only [Bool.not_eq_true', Bool.not_eq_false'] at h); (try simp only [h]); (try simp only [decide_eq_true_eq, decide_eq_false_iff_not, bne_iff_ne, bne_eq_false_iff_eq, beq_iff_eq, beq_eq_false_iff_ne, ne_eq, Int.not_lt, Int.not_le, Bool.and_eq_true, Bool.and_eq_false_iff, Bool.or_eq_true, Bool.or_eq_false_iff] at h)) <;> (try (exfalso; omega))))
    first | refine goC_call [.r] (d_spec_l01Own x (by omega)) ?_ | refine goOC_call [.r] (d_spec_l01Own x (by omega)) ?_
    repeat' (first | simp -implicitDefEqProofs (maxSteps := 1000000) (disch := (first | omega | (simp only [go_sem] <;> omega) | fail)) only [go_sem, ints, bools, mat] | ((first | apply goIf_b | apply goG_b | apply goTG_b | apply goOG_b) <;> intro h <;> ((try simp only [Bool.not_eq_true', Bool.not_eq_false'] at h); (try simp only [h]); (try simp only [decide_eq_true_eq, decide_eq_false_iff_not, bne_iff_ne, bne_eq_false_iff_eq, beq_iff_eq, beq_eq_false_iff_ne, ne_eq, Int.not_lt, Int.not_le, Bool.and_eq_true, Bool.and_eq_false_iff, Bool.or_eq_true, Bool.or_eq_false_iff] at h)) <;> (try (exfalso; omega))))
    first | refine goC_call [.bm, .r] (d1) ?_ | refine goOC_call [.bm, .r] (d1) ?_
    repeat' (first | simp -implicitDefEqProofs (maxSteps := 1000000) (disch := (first | omega | (simp only [go_sem] <;> omega) | fail)) only [go_sem, ints, bools, mat] | ((first | apply goIf_b | apply goG_b | apply goTG_b | apply goOG_b) <;> intro h <;> ((try simp only [Bool.not_eq_true', Bool.not_eq_false'] at h); (try simp only [h]); (try simp only [decide_eq_true_eq, decide_eq_false_iff_not, bne_iff_ne, bne_eq_false_iff_eq, beq_iff_eq, beq_eq_false_iff_ne, ne_eq, Int.not_lt, Int.not_le, Bool.and_eq_true, Bool.and_eq_false_iff, Bool.or_eq_true, Bool.or_eq_false_iff] at h)) <;> (try (exfalso; omega))))
  · by_cases h1 : v = 1
    · subst h1
      obtain ⟨i, s2, hs2, i1, i2, d2⟩ := ex_nxt H hs1 (q := (x.length : Int)) (by omega)
      obtain ⟨w, s3, hs3, hw, d3⟩ := ex_pik H hs2 [1, 5, 0, -1, 1099511627776] (by simp) (by simp)
      refine ⟨ints (x.set i.toNat w), x.set i.toNat w, s3, hs3, ⟨.inl rfl, by simp; omega, fun n h => ?_⟩, den_go [0] l_spec_l01Bad ?_⟩
      · rcases List.mem_or_eq_of_mem_set h with h | rfl
        · exact hin n h
        · simp only [List.mem_cons, List.mem_nil_iff, or_false] at hw
          unfold in64; omega
      · repeat' (first | simp -implicitDefEqProofs (maxSteps := 1000000) (disch := (first | omega | (simp only [go_sem] <;> omega) | fail)) only [go_sem, ints, bools, mat, c_spec_l01Bad, srcR] | ((first | apply goIf_b | apply goG_b | apply goTG_b | apply goOG_b) <;> intro h <;> ((try simp only [Bool.not_eq_true', Bool.not_eq_false'] at h); (try simp only [h]); (try simp only [decide_eq_true_eq, decide_eq_false_iff_not, bne_iff_ne, bne_eq_false_iff_eq, beq_iff_eq, beq_eq_false_iff_ne, ne_eq, Int.not_lt, Int.not_le, Bool.and_eq_true, Bool.and_eq_false_iff, Bool.or_eq_true, Bool.or_eq_false_iff] at h)) <;> (try (exfalso; omega))))
        first | refine goC_call [.r] (d_spec_l01Own x (by omega)) ?_ | refine goOC_call [.r] (d_spec_l01Own x (by omega)) ?_
        repeat' (first | simp -implicitDefEqProofs (maxSteps := 1000000) (disch := (first | omega | (simp only [go_sem] <;> omega) | fail)) only [go_sem, ints, bools, mat] | ((first | apply goIf_b | apply goG_b | apply goTG_b | apply goOG_b) <;> intro h <;> ((try simp only [Bool.not_eq_true', Bool.not_eq_false'] at h); (try simp only [h]); (try simp only [decide_eq_true_eq, decide_eq_false_iff_not, bne_iff_ne, bne_eq_false_iff_eq, beq_iff_eq, beq_eq_false_iff_ne, ne_eq, Int.not_lt, Int.not_le, Bool.and_eq_true, Bool.and_eq_false_iff, Bool.or_eq_true, Bool.or_eq_false_iff] at h)) <;> (try (exfalso; omega))))
        first | refine goC_call [.bm, .r] (d1) ?_ | refine goOC_call [.bm, .r] (d1) ?_
        repeat' (first | simp -implicitDefEqProofs (maxSteps := 1000000) (disch := (first | omega | (simp only [go_sem] <;> omega) | fail)) only [go_sem, ints, bools, mat] | ((first | apply goIf_b | apply goG_b | apply goTG_b | apply goOG_b) <;> intro h <;> ((try simp only [Bool.not_eq_true', Bool.not_eq_false'] at h); (try simp only [h]); (try simp only [decide_eq_true_eq, decide_eq_false_iff_not, bne_iff_ne, bne_eq_false_iff_eq, beq_iff_eq, beq_eq_false_iff_ne, ne_eq, Int.not_lt, Int.not_le, Bool.and_eq_true, Bool.and_eq_false_iff, Bool.or_eq_true, Bool.or_eq_false_iff] at h)) <;> (try (exfalso; omega))))
        rw [goS_two]
        refine ⟨?_, ?_⟩
        · repeat' (first | simp -implicitDefEqProofs (maxSteps := 1000000) (disch := (first | omega | (simp only [go_sem] <;> omega) | fail)) only [go_sem, ints, bools, mat] | ((first | apply goIf_b | apply goG_b | apply goTG_b | apply goOG_b) <;> intro h <;> ((try simp only [Bool.not_eq_true', Bool.not_eq_false'] at h); (try simp only [h]); (try simp only [decide_eq_true_eq, decide_eq_false_iff_not, bne_iff_ne, bne_eq_false_iff_eq, beq_iff_eq, beq_eq_false_iff_ne, ne_eq, Int.not_lt, Int.not_le, Bool.and_eq_true, Bool.and_eq_false_iff, Bool.or_eq_true, Bool.or_eq_false_iff] at h)) <;> (try (exfalso; omega))))
          first | refine goC_call [.bm, .r] (d2) ?_ | refine goOC_call [.bm, .r] (d2) ?_
          repeat' (first | simp -implicitDefEqProofs (maxSteps := 1000000) (disch := (first | omega | (simp only [go_sem] <;> omega) | fail)) only [go_sem, ints, bools, mat] | ((first | apply goIf_b | apply goG_b | apply goTG_b | apply goOG_b) <;> intro h <;> ((try simp only [Bool.not_eq_true', Bool.not_eq_false'] at h); (try simp only [h]); (try simp only [decide_eq_true_eq, decide_eq_false_iff_not, bne_iff_ne, bne_eq_false_iff_eq, beq_iff_eq, beq_eq_false_iff_ne, ne_eq, Int.not_lt, Int.not_le, Bool.and_eq_true, Bool.and_eq_false_iff, Bool.or_eq_true, Bool.or_eq_false_iff] at h)) <;> (try (exfalso; omega))))
          first | refine goC_call [.bm, .f] (d3) ?_ | refine goOC_call [.bm, .f] (d3) ?_
          repeat' (first | simp -implicitDefEqProofs (maxSteps := 1000000) (disch := (first | omega | (simp only [go_sem] <;> omega) | fail)) only [go_sem, ints, bools, mat] | ((first | apply goIf_b | apply goG_b | apply goTG_b | apply goOG_b) <;> intro h <;> ((try simp only [Bool.not_eq_true', Bool.not_eq_false'] at h); (try simp only [h]); (try simp only [decide_eq_true_eq, decide_eq_false_iff_not, bne_iff_ne, bne_eq_false_iff_eq, beq_iff_eq, beq_eq_false_iff_ne, ne_eq, Int.not_lt, Int.not_le, Bool.and_eq_true, Bool.and_eq_false_iff, Bool.or_eq_true, Bool.or_eq_false_iff] at h)) <;> (try (exfalso; omega))))
        · repeat' (first | simp -implicitDefEqProofs (maxSteps := 1000000) (disch := (first | omega | (simp only [go_sem] <;> omega) | fail)) only [go_sem, ints, bools, mat] | ((first | apply goIf_b | apply goG_b | apply goTG_b | apply goOG_b) <;> intro h <;> ((try simp only [Bool.not_eq_true', Bool.not_eq_false'] at h); (try simp only [h]); (try simp only [decide_eq_true_eq, decide_eq_false_iff_not, bne_iff_ne, bne_eq_false_iff_eq, beq_iff_eq, beq_eq_false_iff_ne, ne_eq, Int.not_lt, Int.not_le, Bool.and_eq_true, Bool.and_eq_false_iff, Bool.or_eq_true, Bool.or_eq_false_iff] at h)) <;> (try (exfalso; omega))))
          first | refine goC_call [.bm, .r] (d2) ?_ | refine goOC_call [.bm, .r] (d2) ?_
          repeat' (first | simp -implicitDefEqProofs (maxSteps := 1000000) (disch := (first | omega | (simp only [go_sem] <;> omega) | fail)) only [go_sem, ints, bools, mat] | ((first | apply goIf_b | apply goG_b | apply goTG_b | apply goOG_b) <;> intro h <;> ((try simp only [Bool.not_eq_true', Bool.not_eq_false'] at h); (try simp only [h]); (try simp only [decide_eq_true_eq, decide_eq_false_iff_not, bne_iff_ne, bne_eq_false_iff_eq, beq_iff_eq, beq_eq_false_iff_ne, ne_eq, Int.not_lt, Int.not_le, Bool.and_eq_true, Bool.and_eq_false_iff, Bool.or_eq_true, Bool.or_eq_false_iff] at h)) <;> (try (exfalso; omega))))
          first | refine goC_call [.bm, .f] (d3) ?_ | refine goOC_call [.bm, .f] (d3) ?_
          repeat' (first | simp -implicitDefEqProofs (maxSteps := 1000000) (disch := (first | omega | (simp only [go_sem] <;> omega) | fail)) only [go_sem, ints, bools, mat] | ((first | apply goIf_b | apply goG_b | apply goTG_b | apply goOG_b) <;> intro h <;> ((try simp only [Bool.not_eq_true', Bool.not_eq_false'] at h); (try simp only [h]); (try simp only [decide_eq_true_eq, decide_eq_false_iff_not, bne_iff_ne, bne_eq_false_iff_eq, beq_iff_eq, beq_eq_false_iff_ne, ne_eq, Int.not_lt, Int.not_le, Bool.and_eq_true, Bool.and_eq_false_iff, Bool.or_eq_true, Bool.or_eq_false_iff] at h)) <;> (try (exfalso; omega))))
    · by_cases h2 : v = 2
      · subst h2
        refine ⟨ints (x ++ List.replicate (6 - x.length) 4), x ++ List.replicate (6 - x.length) 4, s1, hs1, ⟨.inl rfl, by simp; omega, fun n h => ?_⟩, den_go [0] l_spec_l01Bad ?_⟩
        · rcases List.mem_append.1 h with h | h
          · exact hin n h
          · rw [List.mem_replicate] at h; rw [h.2]; unfold in64; omega
        · repeat' (first | simp -implicitDefEqProofs (maxSteps := 1000000) (disch := (first | omega | (simp only [go_sem] <;> omega) | fail)) only [go_sem, ints, bools, mat, c_spec_l01Bad, srcR] | ((first | apply goIf_b | apply goG_b | apply goTG_b | apply goOG_b) <;> intro h <;> ((try simp only [Bool.not_eq_true', Bool.not_eq_false'] at h); (try simp only [h]); (try simp only [decide_eq_true_eq, decide_eq_false_iff_not, bne_iff_ne, bne_eq_false_iff_eq, beq_iff_eq, beq_eq_false_iff_ne, ne_eq, Int.not_lt, Int.not_le, Bool.and_eq_true, Bool.and_eq_false_iff, Bool.or_eq_true, Bool.or_eq_false_iff] at h)) <;> (try (exfalso; omega))))
          first | refine goC_call [.r] (d_spec_l01Own x (by omega)) ?_ | refine goOC_call [.r] (d_spec_l01Own x (by omega)) ?_
          repeat' (first | simp -implicitDefEqProofs (maxSteps := 1000000) (disch := (first | omega | (simp only [go_sem] <;> omega) | fail)) only [go_sem, ints, bools, mat] | ((first | apply goIf_b | apply goG_b | apply goTG_b | apply goOG_b) <;> intro h <;> ((try simp only [Bool.not_eq_true', Bool.not_eq_false'] at h); (try simp only [h]); (try simp only [decide_eq_true_eq, decide_eq_false_iff_not, bne_iff_ne, bne_eq_false_iff_eq, beq_iff_eq, beq_eq_false_iff_ne, ne_eq, Int.not_lt, Int.not_le, Bool.and_eq_true, Bool.and_eq_false_iff, Bool.or_eq_true, Bool.or_eq_false_iff] at h)) <;> (try (exfalso; omega))))
          first | refine goC_call [.bm, .r] (d1) ?_ | refine goOC_call [.bm, .r] (d1) ?_
          repeat' (first | simp -implicitDefEqProofs (maxSteps := 1000000) (disch := (first | omega | (simp only [go_sem] <;> omega) | fail)) only [go_sem, ints, bools, mat] | ((first | apply goIf_b | apply goG_b | apply goTG_b | apply goOG_b) <;> intro h <;> ((try simp only [Bool.not_eq_true', Bool.not_eq_false'] at h); (try simp only [h]); (try simp only [decide_eq_true_eq, decide_eq_false_iff_not, bne_iff_ne, bne_eq_false_iff_eq, beq_iff_eq, beq_eq_false_iff_ne, ne_eq, Int.not_lt, Int.not_le, Bool.and_eq_true, Bool.and_eq_false_iff, Bool.or_eq_true, Bool.or_eq_false_iff] at h)) <;> (try (exfalso; omega))))
          refine go_loop (fun (j : Nat) => ⟨[(4, .ref 0 0), (5, .ref 1 0), (42, .ref 2 0)], [some (.var [D.v (.slice none 0 0)]), some (.mix [.sl 3 0 (x.length + j) 1]), some (.var [cd, di s1.1, du s1.2]), some (.dat 1 ((x ++ List.replicate j 4).map di))]⟩) (fun j => j ≤ 6 - x.length) (fun j => 6 - x.length - j) 0 ?_ ?_ ?_
          · simp -implicitDefEqProofs (maxSteps := 1000000) (disch := (first | omega | (simp only [go_sem] <;> omega) | fail)) only [go_sem, ints, bools, mat]
            simp
          · exact Nat.zero_le _
          · rintro j hj J hJ
            by_cases hlt : j < 6 - x.length
            · repeat' (first | simp -implicitDefEqProofs (maxSteps := 1000000) (disch := (first | omega | (simp only [go_sem] <;> omega) | fail)) only [go_sem, ints, bools, mat] | ((first | apply goIf_b | apply goG_b | apply goTG_b | apply goOG_b) <;> intro h <;> ((try simp only [Bool.not_eq_true', Bool.not_eq_false'] at h); (try simp only [h]); (try simp only [decide_eq_true_eq, decide_eq_false_iff_not, bne_iff_ne, bne_eq_false_iff_eq, beq_iff_eq, beq_eq_false_iff_ne, ne_eq, Int.not_lt, Int.not_le, Bool.and_eq_true, Bool.and_eq_false_iff, Bool.or_eq_true, Bool.or_eq_false_iff] at h)) <;> (try (exfalso; omega))))
              refine hJ (j + 1) (by omega) (by omega) _ ?_
              simp -implicitDefEqProofs (maxSteps := 1000000) (disch := (first | omega | (simp only [go_sem] <;> omega) | fail)) only [go_sem, ints, bools, mat]
              rw [List.replicate_succ']
              simp [Nat.add_assoc]
            · have e : j = 6 - x.length := by omega
              repeat' (first | simp -implicitDefEqProofs (maxSteps := 1000000) (disch := (first | omega | (simp only [go_sem] <;> omega) | fail)) only [go_sem, ints, bools, mat] | ((first | apply goIf_b | apply goG_b | apply goTG_b | apply goOG_b) <;> intro h <;> ((try simp only [Bool.not_eq_true', Bool.not_eq_false'] at h); (try simp only [h]); (try simp only [decide_eq_true_eq, decide_eq_false_iff_not, bne_iff_ne, bne_eq_false_iff_eq, beq_iff_eq, beq_eq_false_iff_ne, ne_eq, Int.not_lt, Int.not_le, Bool.and_eq_true, Bool.and_eq_false_iff, Bool.or_eq_true, Bool.or_eq_false_iff] at h)) <;> (try (exfalso; omega))))
              rw [← e]
              repeat' (first | simp -implicitDefEqProofs (maxSteps := 1000000) (disch := (first | omega | (simp only [go_sem] <;> omega) | fail)) only [go_sem, ints, bools, mat] | ((first | apply goIf_b | apply goG_b | apply goTG_b | apply goOG_b) <;> intro h <;> ((try simp only [Bool.not_eq_true', Bool.not_eq_false'] at h); (try simp only [h]); (try simp only [decide_eq_true_eq, decide_eq_false_iff_not, bne_iff_ne, bne_eq_false_iff_eq, beq_iff_eq, beq_eq_false_iff_ne, ne_eq, Int.not_lt, Int.not_le, Bool.and_eq_true, Bool.and_eq_false_iff, Bool.or_eq_true, Bool.or_eq_false_iff] at h)) <;> (try (exfalso; omega))))
      · refine ⟨ints x, x, s1, hs1, ⟨.inl rfl, by omega, hin⟩, den_go [0] l_spec_l01Bad ?_⟩
        repeat' (first | simp -implicitDefEqProofs (maxSteps := 1000000) (disch := (first | omega | (simp only [go_sem] <;> omega) | fail)) only [go_sem, ints, bools, mat, c_spec_l01Bad, srcR] | ((first | apply goIf_b | apply goG_b | apply goTG_b | apply goOG_b) <;> intro h <;> ((try simp only [Bool.not_eq_true', Bool.not_eq_false'] at h); (try simp only [h]); (try simp only [decide_eq_true_eq, decide_eq_false_iff_not, bne_iff_ne, bne_eq_false_iff_eq, beq_iff_eq, beq_eq_false_iff_ne, ne_eq, Int.not_lt, Int.not_le, Bool.and_eq_true, Bool.and_eq_false_iff, Bool.or_eq_true, Bool.or_eq_false_iff] at h)) <;> (try (exfalso; omega))))
        first | refine goC_call [.r] (d_spec_l01Own x (by omega)) ?_ | refine goOC_call [.r] (d_spec_l01Own x (by omega)) ?_
        repeat' (first | simp -implicitDefEqProofs (maxSteps := 1000000) (disch := (first | omega | (simp only [go_sem] <;> omega) | fail)) only [go_sem, ints, bools, mat] | ((first | apply goIf_b | apply goG_b | apply goTG_b | apply goOG_b) <;> intro h <;> ((try simp only [Bool.not_eq_true', Bool.not_eq_false'] at h); (try simp only [h]); (try simp only [decide_eq_true_eq, decide_eq_false_iff_not, bne_iff_ne, bne_eq_false_iff_eq, beq_iff_eq, beq_eq_false_iff_ne, ne_eq, Int.not_lt, Int.not_le, Bool.and_eq_true, Bool.and_eq_false_iff, Bool.or_eq_true, Bool.or_eq_false_iff] at h)) <;> (try (exfalso; omega))))
        first | refine goC_call [.bm, .r] (d1) ?_ | refine goOC_call [.bm, .r] (d1) ?_
        repeat' (first | simp -implicitDefEqProofs (maxSteps := 1000000) (disch := (first | omega | (simp only [go_sem] <;> omega) | fail)) only [go_sem, ints, bools, mat] | ((first | apply goIf_b | apply goG_b | apply goTG_b | apply goOG_b) <;> intro h <;> ((try simp only [Bool.not_eq_true', Bool.not_eq_false'] at h); (try simp only [h]); (try simp only [decide_eq_true_eq, decide_eq_false_iff_not, bne_iff_ne, bne_eq_false_iff_eq, beq_iff_eq, beq_eq_false_iff_ne, ne_eq, Int.not_lt, Int.not_le, Bool.and_eq_true, Bool.and_eq_false_iff, Bool.or_eq_true, Bool.or_eq_false_iff] at h)) <;> (try (exfalso; omega))))
theorem ex_badCode {cd : D} {l : List Int} (H : SrcH cd l) {s : Src} (hs : okS l s) {x : List Int} (hx : isSpaceM x = true) {c : List Int} (hc : c.length < 1048576) (hci : ∀ n, n ∈ c → in64 n) : ∃ (o : List Int) (s' : Src), okS l s' ∧ o.length < 1048577 ∧ (∀ n, n ∈ o → in64 n) ∧ Den PA f_spec_l01BadCode [srcR cd s, .d (.agg [ints x]), .d (ints c)] [srcR cd s', .any, .any] (.own 1 (o.map di)) := by
  have hn := isSpaceM_n hx
  have hq := isSpaceM_q hx
  have hp := isSpaceM_prod hx
  have hp1 := prodM_pos (isSpaceM_szs hx)
  obtain ⟨v, s1, hs1, v1, v2, d1⟩ := ex_nxt H hs (q := 30) (by omega)
  by_cases h0 : v = 0
  · subst h0
    obtain ⟨w, s2, hs2, hw, d2⟩ := ex_pik H hs1 [-1, prodM x, 0, 1099511627776] (by simp) (by simp)
    refine ⟨c ++ [w], s2, hs2, by simp; omega, fun n h => ?_, den_go [0] l_spec_l01BadCode ?_⟩
    · rcases List.mem_append.1 h with h | h
      · exact hci n h
      · simp only [List.mem_singleton] at h
        simp only [List.mem_cons, List.mem_nil_iff, or_false] at hw
        unfold in64; omega
    · repeat' (first | simp -implicitDefEqProofs (maxSteps := 1000000) (disch := (first | omega | (simp only [go_sem] <;> omega) | fail)) only [go_sem, ints, bools, mat, c_spec_l01BadCode, srcR] | ((first | apply goIf_b | apply goG_b | apply goTG_b | apply goOG_b) <;> intro h <;> ((try simp only [Bool.not_eq_true', Bool.not_eq_false'] at h); (try simp only [h]); (try simp only [decide_eq_true_eq, decide_eq_false_iff_not, bne_iff_ne, bne_eq_false_iff_eq, beq_iff_eq, beq_eq_false_iff_ne, ne_eq, Int.not_lt, Int.not_le, Bool.and_eq_true, Bool.and_eq_false_iff, Bool.or_eq_true, Bool.or_eq_false_iff] at h)) <;> (try (exfalso; omega))))
      first | refine goC_call [.r] (d_spec_l01Own c (by omega)) ?_ | refine goOC_call [.r] (d_spec_l01Own c (by omega)) ?_
      repeat' (first | simp -implicitDefEqProofs (maxSteps := 1000000) (disch := (first | omega | (simp only [go_sem] <;> omega) | fail)) only [go_sem, ints, bools, mat] | ((first | apply goIf_b | apply goG_b | apply goTG_b | apply goOG_b) <;> intro h <;> ((try simp only [Bool.not_eq_true', Bool.not_eq_false'] at h); (try simp only [h]); (try simp only [decide_eq_true_eq, decide_eq_false_iff_not, bne_iff_ne, bne_eq_false_iff_eq, beq_iff_eq, beq_eq_false_iff_ne, ne_eq, Int.not_lt, Int.not_le, Bool.and_eq_true, Bool.and_eq_false_iff, Bool.or_eq_true, Bool.or_eq_false_iff] at h)) <;> (try (exfalso; omega))))
      first | refine goC_call [.bm, .r] (d1) ?_ | refine goOC_call [.bm, .r] (d1) ?_
      repeat' (first | simp -implicitDefEqProofs (maxSteps := 1000000) (disch := (first | omega | (simp only [go_sem] <;> omega) | fail)) only [go_sem, ints, bools, mat] | ((first | apply goIf_b | apply goG_b | apply goTG_b | apply goOG_b) <;> intro h <;> ((try simp only [Bool.not_eq_true', Bool.not_eq_false'] at h); (try simp only [h]); (try simp only [decide_eq_true_eq, decide_eq_false_iff_not, bne_iff_ne, bne_eq_false_iff_eq, beq_iff_eq, beq_eq_false_iff_ne, ne_eq, Int.not_lt, Int.not_le, Bool.and_eq_true, Bool.and_eq_false_iff, Bool.or_eq_true, Bool.or_eq_false_iff] at h)) <;> (try (exfalso; omega))))
      first | refine goC_call [.r] (d_spec_l01N x (by omega) hq) ?_ | refine goOC_call [.r] (d_spec_l01N x (by omega) hq) ?_
      repeat' (first | simp -implicitDefEqProofs (maxSteps := 1000000) (disch := (first | omega | (simp only [go_sem] <;> omega) | fail)) only [go_sem, ints, bools, mat] | ((first | apply goIf_b | apply goG_b | apply goTG_b | apply goOG_b) <;> intro h <;> ((try simp only [Bool.not_eq_true', Bool.not_eq_false'] at h); (try simp only [h]); (try simp only [decide_eq_true_eq, decide_eq_false_iff_not, bne_iff_ne, bne_eq_false_iff_eq, beq_iff_eq, beq_eq_false_iff_ne, ne_eq, Int.not_lt, Int.not_le, Bool.and_eq_true, Bool.and_eq_false_iff, Bool.or_eq_true, Bool.or_eq_false_iff] at h)) <;> (try (exfalso; omega))))
      first | refine goC_call [.bm, .f] (d2) ?_ | refine goOC_call [.bm, .f] (d2) ?_
      repeat' (first | simp -implicitDefEqProofs (maxSteps := 1000000) (disch := (first | omega | (simp only [go_sem] <;> omega) | fail)) only [go_sem, ints, bools, mat] | ((first | apply goIf_b | apply goG_b | apply goTG_b | apply goOG_b) <;> intro h <;> ((try simp only [Bool.not_eq_true', Bool.not_eq_false'] at h); (try simp only [h]); (try simp only [decide_eq_true_eq, decide_eq_false_iff_not, bne_iff_ne, bne_eq_false_iff_eq, beq_iff_eq, beq_eq_false_iff_ne, ne_eq, Int.not_lt, Int.not_le, Bool.and_eq_true, Bool.and_eq_false_iff, Bool.or_eq_true, Bool.or_eq_false_iff] at h)) <;> (try (exfalso; omega))))
  · by_cases h1 : v = 1
    · subst h1
      by_cases hl1 : 1 < c.length
      · refine ⟨c.set 0 (c.getD 1 0), s1, hs1, by simp; omega, fun n h => ?_, den_go [0] l_spec_l01BadCode ?_⟩
        · rcases List.mem_or_eq_of_mem_set h with h | rfl
          · exact hci n h
          · exact hci _ (mem_getD hl1)
        · repeat' (first | simp -implicitDefEqProofs (maxSteps := 1000000) (disch := (first | omega | (simp only [go_sem] <;> omega) | fail)) only [go_sem, ints, bools, mat, c_spec_l01BadCode, srcR] | ((first | apply goIf_b | apply goG_b | apply goTG_b | apply goOG_b) <;> intro h <;> ((try simp only [Bool.not_eq_true', Bool.not_eq_false'] at h); (try simp only [h]); (try simp only [decide_eq_true_eq, decide_eq_false_iff_not, bne_iff_ne, bne_eq_false_iff_eq, beq_iff_eq, beq_eq_false_iff_ne, ne_eq, Int.not_lt, Int.not_le, Bool.and_eq_true, Bool.and_eq_false_iff, Bool.or_eq_true, Bool.or_eq_false_iff] at h)) <;> (try (exfalso; omega))))
          first | refine goC_call [.r] (d_spec_l01Own c (by omega)) ?_ | refine goOC_call [.r] (d_spec_l01Own c (by omega)) ?_
          repeat' (first | simp -implicitDefEqProofs (maxSteps := 1000000) (disch := (first | omega | (simp only [go_sem] <;> omega) | fail)) only [go_sem, ints, bools, mat] | ((first | apply goIf_b | apply goG_b | apply goTG_b | apply goOG_b) <;> intro h <;> ((try simp only [Bool.not_eq_true', Bool.not_eq_false'] at h); (try simp only [h]); (try simp only [decide_eq_true_eq, decide_eq_false_iff_not, bne_iff_ne, bne_eq_false_iff_eq, beq_iff_eq, beq_eq_false_iff_ne, ne_eq, Int.not_lt, Int.not_le, Bool.and_eq_true, Bool.and_eq_false_iff, Bool.or_eq_true, Bool.or_eq_false_iff] at h)) <;> (try (exfalso; omega))))
          first | refine goC_call [.bm, .r] (d1) ?_ | refine goOC_call [.bm, .r] (d1) ?_
          repeat' (first | simp -implicitDefEqProofs (maxSteps := 1000000) (disch := (first | omega | (simp only [go_sem] <;> omega) | fail)) only [go_sem, ints, bools, mat] | ((first | apply goIf_b | apply goG_b | apply goTG_b | apply goOG_b) <;> intro h <;> ((try simp only [Bool.not_eq_true', Bool.not_eq_false'] at h); (try simp only [h]); (try simp only [decide_eq_true_eq, decide_eq_false_iff_not, bne_iff_ne, bne_eq_false_iff_eq, beq_iff_eq, beq_eq_false_iff_ne, ne_eq, Int.not_lt, Int.not_le, Bool.and_eq_true, Bool.and_eq_false_iff, Bool.or_eq_true, Bool.or_eq_false_iff] at h)) <;> (try (exfalso; omega))))
          rfl
      · refine ⟨c, s1, hs1, by omega, hci, den_go [0] l_spec_l01BadCode ?_⟩
        repeat' (first | simp -implicitDefEqProofs (maxSteps := 1000000) (disch := (first | omega | (simp only [go_sem] <;> omega) | fail)) only [go_sem, ints, bools, mat, c_spec_l01BadCode, srcR] | ((first | apply goIf_b | apply goG_b | apply goTG_b | apply goOG_b) <;> intro h <;> ((try simp only [Bool.not_eq_true', Bool.not_eq_false'] at h); (try simp only [h]); (try simp only [decide_eq_true_eq, decide_eq_false_iff_not, bne_iff_ne, bne_eq_false_iff_eq, beq_iff_eq, beq_eq_false_iff_ne, ne_eq, Int.not_lt, Int.not_le, Bool.and_eq_true, Bool.and_eq_false_iff, Bool.or_eq_true, Bool.or_eq_false_iff] at h)) <;> (try (exfalso; omega))))
        first | refine goC_call [.r] (d_spec_l01Own c (by omega)) ?_ | refine goOC_call [.r] (d_spec_l01Own c (by omega)) ?_
        repeat' (first | simp -implicitDefEqProofs (maxSteps := 1000000) (disch := (first | omega | (simp only [go_sem] <;> omega) | fail)) only [go_sem, ints, bools, mat] | ((first | apply goIf_b | apply goG_b | apply goTG_b | apply goOG_b) <;> intro h <;> ((try simp only [Bool.not_eq_true', Bool.not_eq_false'] at h); (try simp only [h]); (try simp only [decide_eq_true_eq, decide_eq_false_iff_not, bne_iff_ne, bne_eq_false_iff_eq, beq_iff_eq, beq_eq_false_iff_ne, ne_eq, Int.not_lt, Int.not_le, Bool.and_eq_true, Bool.and_eq_false_iff, Bool.or_eq_true, Bool.or_eq_false_iff] at h)) <;> (try (exfalso; omega))))
        first | refine goC_call [.bm, .r] (d1) ?_ | refine goOC_call [.bm, .r] (d1) ?_
        repeat' (first | simp -implicitDefEqProofs (maxSteps := 1000000) (disch := (first | omega | (simp only [go_sem] <;> omega) | fail)) only [go_sem, ints, bools, mat] | ((first | apply goIf_b | apply goG_b | apply goTG_b | apply goOG_b) <;> intro h <;> ((try simp only [Bool.not_eq_true', Bool.not_eq_false'] at h); (try simp only [h]); (try simp only [decide_eq_true_eq, decide_eq_false_iff_not, bne_iff_ne, bne_eq_false_iff_eq, beq_iff_eq, beq_eq_false_iff_ne, ne_eq, Int.not_lt, Int.not_le, Bool.and_eq_true, Bool.and_eq_false_iff, Bool.or_eq_true, Bool.or_eq_false_iff] at h)) <;> (try (exfalso; omega))))
    · refine ⟨c, s1, hs1, by omega, hci, den_go [0] l_spec_l01BadCode ?_⟩
      repeat' (first | simp -implicitDefEqProofs (maxSteps := 1000000) (disch := (first | omega | (simp only [go_sem] <;> omega) | fail)) only [go_sem, ints, bools, mat, c_spec_l01BadCode, srcR] | ((first | apply goIf_b | apply goG_b | apply goTG_b | apply goOG_b) <;> intro h <;> ((try simp only [Bool.not_eq_true', Bool.not_eq_false'] at h); (try simp only [h]); (try simp only [decide_eq_true_eq, decide_eq_false_iff_not, bne_iff_ne, bne_eq_false_iff_eq, beq_iff_eq, beq_eq_false_iff_ne, ne_eq, Int.not_lt, Int.not_le, Bool.and_eq_true, Bool.and_eq_false_iff, Bool.or_eq_true, Bool.or_eq_false_iff] at h)) <;> (try (exfalso; omega))))
      first | refine goC_call [.r] (d_spec_l01Own c (by omega)) ?_ | refine goOC_call [.r] (d_spec_l01Own c (by omega)) ?_
      repeat' (first | simp -implicitDefEqProofs (maxSteps := 1000000) (disch := (first | omega | (simp only [go_sem] <;> omega) | fail)) only [go_sem, ints, bools, mat] | ((first | apply goIf_b | apply goG_b | apply goTG_b | apply goOG_b) <;> intro h <;> ((try simp only [Bool.not_eq_true', Bool.not_eq_false'] at h); (try simp only [h]); (try simp only [decide_eq_true_eq, decide_eq_false_iff_not, bne_iff_ne, bne_eq_false_iff_eq, beq_iff_eq, beq_eq_false_iff_ne, ne_eq, Int.not_lt, Int.not_le, Bool.and_eq_true, Bool.and_eq_false_iff, Bool.or_eq_true, Bool.or_eq_false_iff] at h)) <;> (try (exfalso; omega))))
      first | refine goC_call [.bm, .r] (d1) ?_ | refine goOC_call [.bm, .r] (d1) ?_
      repeat' (first | simp -implicitDefEqProofs (maxSteps := 1000000) (disch := (first | omega | (simp only [go_sem] <;> omega) | fail)) only [go_sem, ints, bools, mat] | ((first | apply goIf_b | apply goG_b | apply goTG_b | apply goOG_b) <;> intro h <;> ((try simp only [Bool.not_eq_true', Bool.not_eq_false'] at h); (try simp only [h]); (try simp only [decide_eq_true_eq, decide_eq_false_iff_not, bne_iff_ne, bne_eq_false_iff_eq, beq_iff_eq, beq_eq_false_iff_ne, ne_eq, Int.not_lt, Int.not_le, Bool.and_eq_true, Bool.and_eq_false_iff, Bool.or_eq_true, Bool.or_eq_false_iff] at h)) <;> (try (exfalso; omega))))
def smN (a : List Int) : Nat → Int
  | 0 => 0
  | j + 1 => smN a j + a.getD j 0
theorem smN_bnd {a : List Int} (h : ∀ i, 0 ≤ a.getD i 0 ∧ a.getD i 0 < 4) : ∀ j : Nat, 0 ≤ smN a j ∧ smN a j ≤ 3 * j
  | 0 => by simp [smN]
  | j + 1 => by have h1 := smN_bnd h j; have h2 := h j; rw [smN]; omega
def sdP (x : List Int) (b r w : Int) : Bool := smN (digM x w) x.length % b == r
def gdN (x : List Int) (d : Int) : Nat → List Int
  | 0 => []
  | w + 1 => if (List.range (gdN x d w).length).all (fun k => decide (d ≤ distM x ((gdN x d w).getD k 0) w)) = true then gdN x d w ++ [(w : Int)] else gdN x d w
theorem gdN_len (x : List Int) (d : Int) : ∀ w, (gdN x d w).length ≤ w
  | 0 => by simp [gdN]
  | w + 1 => by
    have := gdN_len x d w
    rw [gdN]; split
    · simp; omega
    · omega
theorem gdN_mem (x : List Int) (d : Int) : ∀ w, ∀ u, u ∈ gdN x d w → 0 ≤ u ∧ u < w
  | 0 => fun u h => by simp [gdN] at h
  | w + 1 => fun u h => by
    rw [gdN] at h
    split at h
    · rcases List.mem_append.1 h with h | h
      · have := gdN_mem x d w u h; omega
      · simp at h; omega
    · have := gdN_mem x d w u h; omega
theorem ex_drawCode {cd : D} {l : List Int} (H : SrcH cd l) {s : Src} (hs : okS l s) {x : List Int} (hx : isSpaceM x = true) : ∃ (o : List Int) (s' : Src), okS l s' ∧ o.length ≤ 1024 ∧ inC x o ∧ Den PA f_spec_l01DrawCode [srcR cd s, .d (.agg [ints x])] [srcR cd s', .any] (.own 1 (o.map di)) := by
  have hn := isSpaceM_n hx
  have hq := isSpaceM_q hx
  have hp := isSpaceM_prod hx
  have hz := isSpaceM_szs hx
  have hp1 := prodM_pos hz
  have hal := allW_len x
  have hN := d_spec_l01N x (by omega) hq
  obtain ⟨v, s1, hs1, v1, v2, d1⟩ := ex_nxt H hs (q := 4) (by omega)
  by_cases h0 : v = 0
  · subst h0
    obtain ⟨b, s2, hs2, hb, d2⟩ := ex_pik H hs1 [2, 2, 3, 4] (by simp) (by simp)
    simp only [List.mem_cons, List.mem_nil_iff, or_false] at hb
    obtain ⟨r, s3, hs3, r1, r2, d3⟩ := ex_nxt H hs2 (q := 2) (by omega)
    refine ⟨(allW x).filter (sdP x b r), s3, hs3, ?_, ?_, den_go [0] l_spec_l01DrawCode ?_⟩
    · have := List.length_filter_le (sdP x b r) (allW x); omega
    · intro u hu; exact (allW_mem' hx u).1 (List.mem_filter.1 hu).1
    · repeat' (first | simp -implicitDefEqProofs (maxSteps := 1000000) (disch := (first | omega | (simp only [go_sem] <;> omega) | fail)) only [go_sem, ints, bools, mat, c_spec_l01DrawCode, srcR] | ((first | apply goIf_b | apply goG_b | apply goTG_b | apply goOG_b) <;> intro h <;> ((try simp only [Bool.not_eq_true', Bool.not_eq_false'] at h); (try simp only [h]); (try simp only [decide_eq_true_eq, decide_eq_false_iff_not, bne_iff_ne, bne_eq_false_iff_eq, beq_iff_eq, beq_eq_false_iff_ne, ne_eq, Int.not_lt, Int.not_le, Bool.and_eq_true, Bool.and_eq_false_iff, Bool.or_eq_true, Bool.or_eq_false_iff] at h)) <;> (try (exfalso; omega))))
      first | refine goC_call [.bm, .r] (d1) ?_ | refine goOC_call [.bm, .r] (d1) ?_
      repeat' (first | simp -implicitDefEqProofs (maxSteps := 1000000) (disch := (first | omega | (simp only [go_sem] <;> omega) | fail)) only [go_sem, ints, bools, mat] | ((first | apply goIf_b | apply goG_b | apply goTG_b | apply goOG_b) <;> intro h <;> ((try simp only [Bool.not_eq_true', Bool.not_eq_false'] at h); (try simp only [h]); (try simp only [decide_eq_true_eq, decide_eq_false_iff_not, bne_iff_ne, bne_eq_false_iff_eq, beq_iff_eq, beq_eq_false_iff_ne, ne_eq, Int.not_lt, Int.not_le, Bool.and_eq_true, Bool.and_eq_false_iff, Bool.or_eq_true, Bool.or_eq_false_iff] at h)) <;> (try (exfalso; omega))))
      first | refine goC_call [.bm, .f] (d2) ?_ | refine goOC_call [.bm, .f] (d2) ?_
      repeat' (first | simp -implicitDefEqProofs (maxSteps := 1000000) (disch := (first | omega | (simp only [go_sem] <;> omega) | fail)) only [go_sem, ints, bools, mat] | ((first | apply goIf_b | apply goG_b | apply goTG_b | apply goOG_b) <;> intro h <;> ((try simp only [Bool.not_eq_true', Bool.not_eq_false'] at h); (try simp only [h]); (try simp only [decide_eq_true_eq, decide_eq_false_iff_not, bne_iff_ne, bne_eq_false_iff_eq, beq_iff_eq, beq_eq_false_iff_ne, ne_eq, Int.not_lt, Int.not_le, Bool.and_eq_true, Bool.and_eq_false_iff, Bool.or_eq_true, Bool.or_eq_false_iff] at h)) <;> (try (exfalso; omega))))
      first | refine goC_call [.bm, .r] (d3) ?_ | refine goOC_call [.bm, .r] (d3) ?_
      repeat' (first | simp -implicitDefEqProofs (maxSteps := 1000000) (disch := (first | omega | (simp only [go_sem] <;> omega) | fail)) only [go_sem, ints, bools, mat] | ((first | apply goIf_b | apply goG_b | apply goTG_b | apply goOG_b) <;> intro h <;> ((try simp only [Bool.not_eq_true', Bool.not_eq_false'] at h); (try simp only [h]); (try simp only [decide_eq_true_eq, decide_eq_false_iff_not, bne_iff_ne, bne_eq_false_iff_eq, beq_iff_eq, beq_eq_false_iff_ne, ne_eq, Int.not_lt, Int.not_le, Bool.and_eq_true, Bool.and_eq_false_iff, Bool.or_eq_true, Bool.or_eq_false_iff] at h)) <;> (try (exfalso; omega))))
      refine go_loop (fun (w : Nat) => ⟨[(3, .ref 0 0), (5, .sl 1 0 (((allW x).take w).filter (sdP x b r)).length 1), (6, .d (di b)), (7, .d (di r)), (8, .d (di w)), (109, .ref 2 0)], [some (.var [ints x]), some (.dat 1 ((((allW x).take w).filter (sdP x b r)).map di)), some (.var [cd, di s3.1, du s3.2])]⟩) (fun w => w ≤ (prodM x).toNat) (fun w => (prodM x).toNat - w) 0 ?_ ?_ ?_
      · (simp -implicitDefEqProofs (maxSteps := 1000000) (disch := (first | omega | (simp only [go_sem] <;> omega) | fail)) only [go_sem, ints, bools, mat] <;> rfl)
      · exact Nat.zero_le _
      · rintro w hw J hJ
        have hfl := filter_len_le (sdP x b r) ((allW x).take w) w (by simp; omega)
        by_cases hwl : w < (prodM x).toNat
        · have hdl := digM_len x w
          have hd4 := digM_bnd w hz
          repeat' (first | simp -implicitDefEqProofs (maxSteps := 1000000) (disch := (first | omega | (simp only [go_sem] <;> omega) | fail)) only [go_sem, ints, bools, mat] | ((first | apply goIf_b | apply goG_b | apply goTG_b | apply goOG_b) <;> intro h <;> ((try simp only [Bool.not_eq_true', Bool.not_eq_false'] at h); (try simp only [h]); (try simp only [decide_eq_true_eq, decide_eq_false_iff_not, bne_iff_ne, bne_eq_false_iff_eq, beq_iff_eq, beq_eq_false_iff_ne, ne_eq, Int.not_lt, Int.not_le, Bool.and_eq_true, Bool.and_eq_false_iff, Bool.or_eq_true, Bool.or_eq_false_iff] at h)) <;> (try (exfalso; omega))))
          first | refine goC_call [.r] (hN) ?_ | refine goOC_call [.r] (hN) ?_
          repeat' (first | simp -implicitDefEqProofs (maxSteps := 1000000) (disch := (first | omega | (simp only [go_sem] <;> omega) | fail)) only [go_sem, ints, bools, mat] | ((first | apply goIf_b | apply goG_b | apply goTG_b | apply goOG_b) <;> intro h <;> ((try simp only [Bool.not_eq_true', Bool.not_eq_false'] at h); (try simp only [h]); (try simp only [decide_eq_true_eq, decide_eq_false_iff_not, bne_iff_ne, bne_eq_false_iff_eq, beq_iff_eq, beq_eq_false_iff_ne, ne_eq, Int.not_lt, Int.not_le, Bool.and_eq_true, Bool.and_eq_false_iff, Bool.or_eq_true, Bool.or_eq_false_iff] at h)) <;> (try (exfalso; omega))))
          first | refine goC_call [.r, .r] (d_spec_l01Digits x hx w (by omega) (by omega)) ?_ | refine goOC_call [.r, .r] (d_spec_l01Digits x hx w (by omega) (by omega)) ?_
          repeat' (first | simp -implicitDefEqProofs (maxSteps := 1000000) (disch := (first | omega | (simp only [go_sem] <;> omega) | fail)) only [go_sem, ints, bools, mat] | ((first | apply goIf_b | apply goG_b | apply goTG_b | apply goOG_b) <;> intro h <;> ((try simp only [Bool.not_eq_true', Bool.not_eq_false'] at h); (try simp only [h]); (try simp only [decide_eq_true_eq, decide_eq_false_iff_not, bne_iff_ne, bne_eq_false_iff_eq, beq_iff_eq, beq_eq_false_iff_ne, ne_eq, Int.not_lt, Int.not_le, Bool.and_eq_true, Bool.and_eq_false_iff, Bool.or_eq_true, Bool.or_eq_false_iff] at h)) <;> (try (exfalso; omega))))
          refine go_loop (fun (j : Nat) => ⟨[(3, .ref 0 0), (5, .sl 1 0 (((allW x).take w).filter (sdP x b r)).length 1), (6, .d (di b)), (7, .d (di r)), (8, .d (di w)), (9, .sl 2 0 (digM x w).length 1), (10, .d (di (smN (digM x w) j))), (37, .d (di (digM x w).length)), (38, .d (di j)), (109, .ref 3 0)], [some (.var [ints x]), some (.dat 1 ((((allW x).take w).filter (sdP x b r)).map di)), some (.dat 1 ((digM x w).map di)), some (.var [cd, di s3.1, du s3.2])]⟩) (fun j => j ≤ x.length) (fun j => x.length - j) 0 ?_ ?_ ?_
          · (simp -implicitDefEqProofs (maxSteps := 1000000) (disch := (first | omega | (simp only [go_sem] <;> omega) | fail)) only [go_sem, ints, bools, mat] <;> rfl)
          · exact Nat.zero_le _
          · rintro j hj J2 hJ2
            have hsb := smN_bnd hd4 j
            have hdj := hd4 j
            by_cases hjl : j < x.length
            · repeat' (first | simp -implicitDefEqProofs (maxSteps := 1000000) (disch := (first | omega | (simp only [go_sem] <;> omega) | fail)) only [go_sem, ints, bools, mat] | ((first | apply goIf_b | apply goG_b | apply goTG_b | apply goOG_b) <;> intro h <;> ((try simp only [Bool.not_eq_true', Bool.not_eq_false'] at h); (try simp only [h]); (try simp only [decide_eq_true_eq, decide_eq_false_iff_not, bne_iff_ne, bne_eq_false_iff_eq, beq_iff_eq, beq_eq_false_iff_ne, ne_eq, Int.not_lt, Int.not_le, Bool.and_eq_true, Bool.and_eq_false_iff, Bool.or_eq_true, Bool.or_eq_false_iff] at h)) <;> (try (exfalso; omega))))
              refine hJ2 (j + 1) (by omega) (by omega) _ ?_
              simp -implicitDefEqProofs (maxSteps := 1000000) (disch := (first | omega | (simp only [go_sem] <;> omega) | fail)) only [go_sem, ints, bools, mat]
              rw [smN]; rfl
            · have e : j = x.length := by omega
              subst e
              have hmb := mod_bnd (x := smN (digM x w) x.length) (show 2 ≤ b ∧ b ≤ 4 by omega)
              repeat' (first | simp -implicitDefEqProofs (maxSteps := 1000000) (disch := (first | omega | (simp only [go_sem] <;> omega) | fail)) only [go_sem, ints, bools, mat] | ((first | apply goIf_b | apply goG_b | apply goTG_b | apply goOG_b) <;> intro h <;> ((try simp only [Bool.not_eq_true', Bool.not_eq_false'] at h); (try simp only [h]); (try simp only [decide_eq_true_eq, decide_eq_false_iff_not, bne_iff_ne, bne_eq_false_iff_eq, beq_iff_eq, beq_eq_false_iff_ne, ne_eq, Int.not_lt, Int.not_le, Bool.and_eq_true, Bool.and_eq_false_iff, Bool.or_eq_true, Bool.or_eq_false_iff] at h)) <;> (try (exfalso; omega))))
              · refine hJ (w + 1) (by omega) (by omega) _ ?_
                simp -implicitDefEqProofs (maxSteps := 1000000) (disch := (first | omega | (simp only [go_sem] <;> omega) | fail)) only [go_sem, ints, bools, mat]
                rw [take_allW _ hwl, List.filter_append]
                have h' : sdP x b r w = true := by unfold sdP; simpa using h
                simp [h']
              · refine hJ (w + 1) (by omega) (by omega) _ ?_
                simp -implicitDefEqProofs (maxSteps := 1000000) (disch := (first | omega | (simp only [go_sem] <;> omega) | fail)) only [go_sem, ints, bools, mat]
                rw [take_allW _ hwl, List.filter_append]
                have h' : sdP x b r w = false := by unfold sdP; simpa using h
                simp [h']
        · have e : w = (prodM x).toNat := by omega
          subst e
          rw [List.take_of_length_le (by rw [hal]; exact Nat.le_refl _)]
          repeat' (first | simp -implicitDefEqProofs (maxSteps := 1000000) (disch := (first | omega | (simp only [go_sem] <;> omega) | fail)) only [go_sem, ints, bools, mat] | ((first | apply goIf_b | apply goG_b | apply goTG_b | apply goOG_b) <;> intro h <;> ((try simp only [Bool.not_eq_true', Bool.not_eq_false'] at h); (try simp only [h]); (try simp only [decide_eq_true_eq, decide_eq_false_iff_not, bne_iff_ne, bne_eq_false_iff_eq, beq_iff_eq, beq_eq_false_iff_ne, ne_eq, Int.not_lt, Int.not_le, Bool.and_eq_true, Bool.and_eq_false_iff, Bool.or_eq_true, Bool.or_eq_false_iff] at h)) <;> (try (exfalso; omega))))
          first | refine goC_call [.r] (hN) ?_ | refine goOC_call [.r] (hN) ?_
          repeat' (first | simp -implicitDefEqProofs (maxSteps := 1000000) (disch := (first | omega | (simp only [go_sem] <;> omega) | fail)) only [go_sem, ints, bools, mat] | ((first | apply goIf_b | apply goG_b | apply goTG_b | apply goOG_b) <;> intro h <;> ((try simp only [Bool.not_eq_true', Bool.not_eq_false'] at h); (try simp only [h]); (try simp only [decide_eq_true_eq, decide_eq_false_iff_not, bne_iff_ne, bne_eq_false_iff_eq, beq_iff_eq, beq_eq_false_iff_ne, ne_eq, Int.not_lt, Int.not_le, Bool.and_eq_true, Bool.and_eq_false_iff, Bool.or_eq_true, Bool.or_eq_false_iff] at h)) <;> (try (exfalso; omega))))
  · by_cases h1 : v = 1
    · subst h1
      obtain ⟨d, s2, hs2, hd, d2⟩ := ex_pik H hs1 [2, 3, 3] (by simp) (by simp)
      refine ⟨gdN x d (prodM x).toNat, s2, hs2, ?_, ?_, den_go [0] l_spec_l01DrawCode ?_⟩
      · have := gdN_len x d (prodM x).toNat; omega
      · intro u hu; have := gdN_mem x d _ u hu; omega
      · repeat' (first | simp -implicitDefEqProofs (maxSteps := 1000000) (disch := (first | omega | (simp only [go_sem] <;> omega) | fail)) only [go_sem, ints, bools, mat, c_spec_l01DrawCode, srcR] | ((first | apply goIf_b | apply goG_b | apply goTG_b | apply goOG_b) <;> intro h <;> ((try simp only [Bool.not_eq_true', Bool.not_eq_false'] at h); (try simp only [h]); (try simp only [decide_eq_true_eq, decide_eq_false_iff_not, bne_iff_ne, bne_eq_false_iff_eq, beq_iff_eq, beq_eq_false_iff_ne, ne_eq, Int.not_lt, Int.not_le, Bool.and_eq_true, Bool.and_eq_false_iff, Bool.or_eq_true, Bool.or_eq_false_iff] at h)) <;> (try (exfalso; omega))))
        first | refine goC_call [.bm, .r] (d1) ?_ | refine goOC_call [.bm, .r] (d1) ?_
        repeat' (first | simp -implicitDefEqProofs (maxSteps := 1000000) (disch := (first | omega | (simp only [go_sem] <;> omega) | fail)) only [go_sem, ints, bools, mat] | ((first | apply goIf_b | apply goG_b | apply goTG_b | apply goOG_b) <;> intro h <;> ((try simp only [Bool.not_eq_true', Bool.not_eq_false'] at h); (try simp only [h]); (try simp only [decide_eq_true_eq, decide_eq_false_iff_not, bne_iff_ne, bne_eq_false_iff_eq, beq_iff_eq, beq_eq_false_iff_ne, ne_eq, Int.not_lt, Int.not_le, Bool.and_eq_true, Bool.and_eq_false_iff, Bool.or_eq_true, Bool.or_eq_false_iff] at h)) <;> (try (exfalso; omega))))
        first | refine goC_call [.bm, .f] (d2) ?_ | refine goOC_call [.bm, .f] (d2) ?_
        repeat' (first | simp -implicitDefEqProofs (maxSteps := 1000000) (disch := (first | omega | (simp only [go_sem] <;> omega) | fail)) only [go_sem, ints, bools, mat] | ((first | apply goIf_b | apply goG_b | apply goTG_b | apply goOG_b) <;> intro h <;> ((try simp only [Bool.not_eq_true', Bool.not_eq_false'] at h); (try simp only [h]); (try simp only [decide_eq_true_eq, decide_eq_false_iff_not, bne_iff_ne, bne_eq_false_iff_eq, beq_iff_eq, beq_eq_false_iff_ne, ne_eq, Int.not_lt, Int.not_le, Bool.and_eq_true, Bool.and_eq_false_iff, Bool.or_eq_true, Bool.or_eq_false_iff] at h)) <;> (try (exfalso; omega))))
        refine go_loop (fun (w : Nat) => ⟨[(3, .ref 0 0), (5, .sl 1 0 (gdN x d w).length 1), (12, .d (di d)), (13, .d (di w)), (109, .ref 2 0)], [some (.var [ints x]), some (.dat 1 ((gdN x d w).map di)), some (.var [cd, di s2.1, du s2.2])]⟩) (fun w => w ≤ (prodM x).toNat) (fun w => (prodM x).toNat - w) 0 ?_ ?_ ?_
        · (simp -implicitDefEqProofs (maxSteps := 1000000) (disch := (first | omega | (simp only [go_sem] <;> omega) | fail)) only [go_sem, ints, bools, mat] <;> rfl)
        · exact Nat.zero_le _
        · rintro w hw J hJ
          have hgl := gdN_len x d w
          by_cases hwl : w < (prodM x).toNat
          · repeat' (first | simp -implicitDefEqProofs (maxSteps := 1000000) (disch := (first | omega | (simp only [go_sem] <;> omega) | fail)) only [go_sem, ints, bools, mat] | ((first | apply goIf_b | apply goG_b | apply goTG_b | apply goOG_b) <;> intro h <;> ((try simp only [Bool.not_eq_true', Bool.not_eq_false'] at h); (try simp only [h]); (try simp only [decide_eq_true_eq, decide_eq_false_iff_not, bne_iff_ne, bne_eq_false_iff_eq, beq_iff_eq, beq_eq_false_iff_ne, ne_eq, Int.not_lt, Int.not_le, Bool.and_eq_true, Bool.and_eq_false_iff, Bool.or_eq_true, Bool.or_eq_false_iff] at h)) <;> (try (exfalso; omega))))
            first | refine goC_call [.r] (hN) ?_ | refine goOC_call [.r] (hN) ?_
            repeat' (first | simp -implicitDefEqProofs (maxSteps := 1000000) (disch := (first | omega | (simp only [go_sem] <;> omega) | fail)) only [go_sem, ints, bools, mat] | ((first | apply goIf_b | apply goG_b | apply goTG_b | apply goOG_b) <;> intro h <;> ((try simp only [Bool.not_eq_true', Bool.not_eq_false'] at h); (try simp only [h]); (try simp only [decide_eq_true_eq, decide_eq_false_iff_not, bne_iff_ne, bne_eq_false_iff_eq, beq_iff_eq, beq_eq_false_iff_ne, ne_eq, Int.not_lt, Int.not_le, Bool.and_eq_true, Bool.and_eq_false_iff, Bool.or_eq_true, Bool.or_eq_false_iff] at h)) <;> (try (exfalso; omega))))
            refine go_loop (fun (k : Nat) => ⟨[(3, .ref 0 0), (5, .sl 1 0 (gdN x d w).length 1), (12, .d (di d)), (13, .d (di w)), (14, .d (db ((List.range k).all fun k => decide (d ≤ distM x ((gdN x d w).getD k 0) w)))), (70, .d (di (gdN x d w).length)), (71, .d (di k)), (109, .ref 2 0)], [some (.var [ints x]), some (.dat 1 ((gdN x d w).map di)), some (.var [cd, di s2.1, du s2.2])]⟩) (fun k => k ≤ (gdN x d w).length) (fun k => (gdN x d w).length - k) 0 ?_ ?_ ?_
            · (simp -implicitDefEqProofs (maxSteps := 1000000) (disch := (first | omega | (simp only [go_sem] <;> omega) | fail)) only [go_sem, ints, bools, mat] <;> rfl)
            · exact Nat.zero_le _
            · rintro k hk J2 hJ2
              by_cases hkl : k < (gdN x d w).length
              · have hgm := gdN_mem x d w _ (mem_getD hkl)
                have hdi := d_spec_l01Distance x hx ((gdN x d w).getD k 0) w hgm.1 (by omega) (by omega) (by omega)
                have hst : ((List.range (k + 1)).all fun k => decide (d ≤ distM x ((gdN x d w).getD k 0) w)) = (((List.range k).all fun k => decide (d ≤ distM x ((gdN x d w).getD k 0) w)) && decide (d ≤ distM x ((gdN x d w).getD k 0) w)) := by
                  rw [List.range_succ, List.all_append, List.all_cons, List.all_nil, Bool.and_true]
                rw [List.range_succ] at hst
                cases hg : (List.range k).all fun k => decide (d ≤ distM x ((gdN x d w).getD k 0) w) with
                | false =>
                  repeat' (first | simp -implicitDefEqProofs (maxSteps := 1000000) (disch := (first | omega | (simp only [go_sem] <;> omega) | fail)) only [go_sem, ints, bools, mat] | ((first | apply goIf_b | apply goG_b | apply goTG_b | apply goOG_b) <;> intro h <;> ((try simp only [Bool.not_eq_true', Bool.not_eq_false'] at h); (try simp only [h]); (try simp only [decide_eq_true_eq, decide_eq_false_iff_not, bne_iff_ne, bne_eq_false_iff_eq, beq_iff_eq, beq_eq_false_iff_ne, ne_eq, Int.not_lt, Int.not_le, Bool.and_eq_true, Bool.and_eq_false_iff, Bool.or_eq_true, Bool.or_eq_false_iff] at h)) <;> (try (exfalso; omega))))
                  refine hJ2 (k + 1) (by omega) (by omega) _ ?_
                  simp -implicitDefEqProofs (maxSteps := 1000000) (disch := (first | omega | (simp only [go_sem] <;> omega) | fail)) only [go_sem, ints, bools, mat]
                  rw [hst, hg]; rfl
                | true =>
                  repeat' (first | simp -implicitDefEqProofs (maxSteps := 1000000) (disch := (first | omega | (simp only [go_sem] <;> omega) | fail)) only [go_sem, ints, bools, mat] | ((first | apply goIf_b | apply goG_b | apply goTG_b | apply goOG_b) <;> intro h <;> ((try simp only [Bool.not_eq_true', Bool.not_eq_false'] at h); (try simp only [h]); (try simp only [decide_eq_true_eq, decide_eq_false_iff_not, bne_iff_ne, bne_eq_false_iff_eq, beq_iff_eq, beq_eq_false_iff_ne, ne_eq, Int.not_lt, Int.not_le, Bool.and_eq_true, Bool.and_eq_false_iff, Bool.or_eq_true, Bool.or_eq_false_iff] at h)) <;> (try (exfalso; omega))))
                  first | refine goC_call [.r, .r, .r] (hdi) ?_ | refine goOC_call [.r, .r, .r] (hdi) ?_
                  repeat' (first | simp -implicitDefEqProofs (maxSteps := 1000000) (disch := (first | omega | (simp only [go_sem] <;> omega) | fail)) only [go_sem, ints, bools, mat] | ((first | apply goIf_b | apply goG_b | apply goTG_b | apply goOG_b) <;> intro h <;> ((try simp only [Bool.not_eq_true', Bool.not_eq_false'] at h); (try simp only [h]); (try simp only [decide_eq_true_eq, decide_eq_false_iff_not, bne_iff_ne, bne_eq_false_iff_eq, beq_iff_eq, beq_eq_false_iff_ne, ne_eq, Int.not_lt, Int.not_le, Bool.and_eq_true, Bool.and_eq_false_iff, Bool.or_eq_true, Bool.or_eq_false_iff] at h)) <;> (try (exfalso; omega))))
                  refine hJ2 (k + 1) (by omega) (by omega) _ ?_
                  simp -implicitDefEqProofs (maxSteps := 1000000) (disch := (first | omega | (simp only [go_sem] <;> omega) | fail)) only [go_sem, ints, bools, mat]
                  rw [hst, hg, Bool.true_and]; rfl
              · have e : k = (gdN x d w).length := by omega
                subst e
                cases hg : (List.range (gdN x d w).length).all fun k => decide (d ≤ distM x ((gdN x d w).getD k 0) w) with
                | false =>
                  repeat' (first | simp -implicitDefEqProofs (maxSteps := 1000000) (disch := (first | omega | (simp only [go_sem] <;> omega) | fail)) only [go_sem, ints, bools, mat] | ((first | apply goIf_b | apply goG_b | apply goTG_b | apply goOG_b) <;> intro h <;> ((try simp only [Bool.not_eq_true', Bool.not_eq_false'] at h); (try simp only [h]); (try simp only [decide_eq_true_eq, decide_eq_false_iff_not, bne_iff_ne, bne_eq_false_iff_eq, beq_iff_eq, beq_eq_false_iff_ne, ne_eq, Int.not_lt, Int.not_le, Bool.and_eq_true, Bool.and_eq_false_iff, Bool.or_eq_true, Bool.or_eq_false_iff] at h)) <;> (try (exfalso; omega))))
                  refine hJ (w + 1) (by omega) (by omega) _ ?_
                  simp -implicitDefEqProofs (maxSteps := 1000000) (disch := (first | omega | (simp only [go_sem] <;> omega) | fail)) only [go_sem, ints, bools, mat]
                  rw [gdN, if_neg (by rw [hg]; decide)]; rfl
                | true =>
                  repeat' (first | simp -implicitDefEqProofs (maxSteps := 1000000) (disch := (first | omega | (simp only [go_sem] <;> omega) | fail)) only [go_sem, ints, bools, mat] | ((first | apply goIf_b | apply goG_b | apply goTG_b | apply goOG_b) <;> intro h <;> ((try simp only [Bool.not_eq_true', Bool.not_eq_false'] at h); (try simp only [h]); (try simp only [decide_eq_true_eq, decide_eq_false_iff_not, bne_iff_ne, bne_eq_false_iff_eq, beq_iff_eq, beq_eq_false_iff_ne, ne_eq, Int.not_lt, Int.not_le, Bool.and_eq_true, Bool.and_eq_false_iff, Bool.or_eq_true, Bool.or_eq_false_iff] at h)) <;> (try (exfalso; omega))))
                  refine hJ (w + 1) (by omega) (by omega) _ ?_
                  simp -implicitDefEqProofs (maxSteps := 1000000) (disch := (first | omega | (simp only [go_sem] <;> omega) | fail)) only [go_sem, ints, bools, mat]
                  rw [gdN, if_pos hg]; simp
          · have e : w = (prodM x).toNat := by omega
            subst e
            repeat' (first | simp -implicitDefEqProofs (maxSteps := 1000000) (disch := (first | omega | (simp only [go_sem] <;> omega) | fail)) only [go_sem, ints, bools, mat] | ((first | apply goIf_b | apply goG_b | apply goTG_b | apply goOG_b) <;> intro h <;> ((try simp only [Bool.not_eq_true', Bool.not_eq_false'] at h); (try simp only [h]); (try simp only [decide_eq_true_eq, decide_eq_false_iff_not, bne_iff_ne, bne_eq_false_iff_eq, beq_iff_eq, beq_eq_false_iff_ne, ne_eq, Int.not_lt, Int.not_le, Bool.and_eq_true, Bool.and_eq_false_iff, Bool.or_eq_true, Bool.or_eq_false_iff] at h)) <;> (try (exfalso; omega))))
            first | refine goC_call [.r] (hN) ?_ | refine goOC_call [.r] (hN) ?_
            repeat' (first | simp -implicitDefEqProofs (maxSteps := 1000000) (disch := (first | omega | (simp only [go_sem] <;> omega) | fail)) only [go_sem, ints, bools, mat] | ((first | apply goIf_b | apply goG_b | apply goTG_b | apply goOG_b) <;> intro h <;> ((try simp only [Bool.not_eq_true', Bool.not_eq_false'] at h); (try simp only [h]); (try simp only [decide_eq_true_eq, decide_eq_false_iff_not, bne_iff_ne, bne_eq_false_iff_eq, beq_iff_eq, beq_eq_false_iff_ne, ne_eq, Int.not_lt, Int.not_le, Bool.and_eq_true, Bool.and_eq_false_iff, Bool.or_eq_true, Bool.or_eq_false_iff] at h)) <;> (try (exfalso; omega))))
    · obtain ⟨m, s2, hs2, hm, d2⟩ := ex_pik H hs1 [3, 8, 20] (by simp) (by simp)
      simp only [List.mem_cons, List.mem_nil_iff, or_false] at hm
      obtain ⟨n, s3, hs3, n1, n2, d3⟩ := ex_nxt H hs2 (q := m) (by omega)
      obtain ⟨X, hX⟩ : ∃ X : Nat → List Int × Src, X = fun k => Nat.rec (motive := fun _ => List Int × Src) ([], s3) (fun _ p => (putI p.1 (nxt l p.2 (prodM x)).1, (nxt l p.2 (prodM x)).2)) k := ⟨_, rfl⟩
      have X0 : X 0 = ([], s3) := by rw [hX]; rfl
      have XS : ∀ k, X (k + 1) = (putI (X k).1 (nxt l (X k).2 (prodM x)).1, (nxt l (X k).2 (prodM x)).2) := fun k => by rw [hX]
      have key : ∀ k, (X k).1.length ≤ k ∧ inC x (X k).1 ∧ okS l (X k).2 := by
        intro k
        induction k with
        | zero => rw [X0]; exact ⟨Nat.le_refl _, fun u hu => by simp at hu, hs3⟩
        | succ k ih =>
          rw [XS]
          refine ⟨?_, fun u hu => ?_, nxt_ok ih.2.2 _⟩
          · have := putI_len (X k).1 (nxt l (X k).2 (prodM x)).1
            dsimp only; omega
          · rcases (putI_mem u).1 hu with h | h
            · exact ih.2.1 u h
            · subst h; exact nxt_bnd (by omega)
      have hk := key n.toNat
      refine ⟨(X n.toNat).1, (X n.toNat).2, hk.2.2, by omega, hk.2.1, den_go [0] l_spec_l01DrawCode ?_⟩
      repeat' (first | simp -implicitDefEqProofs (maxSteps := 1000000) (disch := (first | omega | (simp only [go_sem] <;> omega) | fail)) only [go_sem, ints, bools, mat, c_spec_l01DrawCode, srcR] | ((first | apply goIf_b | apply goG_b | apply goTG_b | apply goOG_b) <;> intro h <;> ((try simp only [Bool.not_eq_true', Bool.not_eq_false'] at h); (try simp only [h]); (try simp only [decide_eq_true_eq, decide_eq_false_iff_not, bne_iff_ne, bne_eq_false_iff_eq, beq_iff_eq, beq_eq_false_iff_ne, ne_eq, Int.not_lt, Int.not_le, Bool.and_eq_true, Bool.and_eq_false_iff, Bool.or_eq_true, Bool.or_eq_false_iff] at h)) <;> (try (exfalso; omega))))
      first | refine goC_call [.bm, .r] (d1) ?_ | refine goOC_call [.bm, .r] (d1) ?_
      repeat' (first | simp -implicitDefEqProofs (maxSteps := 1000000) (disch := (first | omega | (simp only [go_sem] <;> omega) | fail)) only [go_sem, ints, bools, mat] | ((first | apply goIf_b | apply goG_b | apply goTG_b | apply goOG_b) <;> intro h <;> ((try simp only [Bool.not_eq_true', Bool.not_eq_false'] at h); (try simp only [h]); (try simp only [decide_eq_true_eq, decide_eq_false_iff_not, bne_iff_ne, bne_eq_false_iff_eq, beq_iff_eq, beq_eq_false_iff_ne, ne_eq, Int.not_lt, Int.not_le, Bool.and_eq_true, Bool.and_eq_false_iff, Bool.or_eq_true, Bool.or_eq_false_iff] at h)) <;> (try (exfalso; omega))))
      first | refine goC_call [.bm, .f] (d2) ?_ | refine goOC_call [.bm, .f] (d2) ?_
      repeat' (first | simp -implicitDefEqProofs (maxSteps := 1000000) (disch := (first | omega | (simp only [go_sem] <;> omega) | fail)) only [go_sem, ints, bools, mat] | ((first | apply goIf_b | apply goG_b | apply goTG_b | apply goOG_b) <;> intro h <;> ((try simp only [Bool.not_eq_true', Bool.not_eq_false'] at h); (try simp only [h]); (try simp only [decide_eq_true_eq, decide_eq_false_iff_not, bne_iff_ne, bne_eq_false_iff_eq, beq_iff_eq, beq_eq_false_iff_ne, ne_eq, Int.not_lt, Int.not_le, Bool.and_eq_true, Bool.and_eq_false_iff, Bool.or_eq_true, Bool.or_eq_false_iff] at h)) <;> (try (exfalso; omega))))
      first | refine goC_call [.bm, .r] (d3) ?_ | refine goOC_call [.bm, .r] (d3) ?_
      repeat' (first | simp -implicitDefEqProofs (maxSteps := 1000000) (disch := (first | omega | (simp only [go_sem] <;> omega) | fail)) only [go_sem, ints, bools, mat] | ((first | apply goIf_b | apply goG_b | apply goTG_b | apply goOG_b) <;> intro h <;> ((try simp only [Bool.not_eq_true', Bool.not_eq_false'] at h); (try simp only [h]); (try simp only [decide_eq_true_eq, decide_eq_false_iff_not, bne_iff_ne, bne_eq_false_iff_eq, beq_iff_eq, beq_eq_false_iff_ne, ne_eq, Int.not_lt, Int.not_le, Bool.and_eq_true, Bool.and_eq_false_iff, Bool.or_eq_true, Bool.or_eq_false_iff] at h)) <;> (try (exfalso; omega))))
      refine go_loop (fun (k : Nat) => ⟨[(0, .ref 0 0), (3, .ref 1 0), (5, .sl 2 0 (X k).1.length 1), (16, .d (di (n - k))), (109, .ref 0 0)], [some (.var [cd, di (X k).2.1, du (X k).2.2]), some (.var [ints x]), some (.dat 1 ((X k).1.map di))]⟩) (fun k => k ≤ n.toNat) (fun k => n.toNat - k) 0 ?_ ?_ ?_
      · simp -implicitDefEqProofs (maxSteps := 1000000) (disch := (first | omega | (simp only [go_sem] <;> omega) | fail)) only [go_sem, ints, bools, mat]
        rw [X0]
        simp
      · exact Nat.zero_le _
      · rintro k hkn J hJ
        have hkk := key k
        by_cases hlt : k < n.toNat
        · have dn := d_nxt H hkk.2.2 (prodM x)
          have dp := d_spec_l01Put (X k).1 (nxt l (X k).2 (prodM x)).1 (by omega)
          repeat' (first | simp -implicitDefEqProofs (maxSteps := 1000000) (disch := (first | omega | (simp only [go_sem] <;> omega) | fail)) only [go_sem, ints, bools, mat] | ((first | apply goIf_b | apply goG_b | apply goTG_b | apply goOG_b) <;> intro h <;> ((try simp only [Bool.not_eq_true', Bool.not_eq_false'] at h); (try simp only [h]); (try simp only [decide_eq_true_eq, decide_eq_false_iff_not, bne_iff_ne, bne_eq_false_iff_eq, beq_iff_eq, beq_eq_false_iff_ne, ne_eq, Int.not_lt, Int.not_le, Bool.and_eq_true, Bool.and_eq_false_iff, Bool.or_eq_true, Bool.or_eq_false_iff] at h)) <;> (try (exfalso; omega))))
          first | refine goC_call [.r] (hN) ?_ | refine goOC_call [.r] (hN) ?_
          repeat' (first | simp -implicitDefEqProofs (maxSteps := 1000000) (disch := (first | omega | (simp only [go_sem] <;> omega) | fail)) only [go_sem, ints, bools, mat] | ((first | apply goIf_b | apply goG_b | apply goTG_b | apply goOG_b) <;> intro h <;> ((try simp only [Bool.not_eq_true', Bool.not_eq_false'] at h); (try simp only [h]); (try simp only [decide_eq_true_eq, decide_eq_false_iff_not, bne_iff_ne, bne_eq_false_iff_eq, beq_iff_eq, beq_eq_false_iff_ne, ne_eq, Int.not_lt, Int.not_le, Bool.and_eq_true, Bool.and_eq_false_iff, Bool.or_eq_true, Bool.or_eq_false_iff] at h)) <;> (try (exfalso; omega))))
          first | refine goC_call [.bm, .r] (dn) ?_ | refine goOC_call [.bm, .r] (dn) ?_
          repeat' (first | simp -implicitDefEqProofs (maxSteps := 1000000) (disch := (first | omega | (simp only [go_sem] <;> omega) | fail)) only [go_sem, ints, bools, mat] | ((first | apply goIf_b | apply goG_b | apply goTG_b | apply goOG_b) <;> intro h <;> ((try simp only [Bool.not_eq_true', Bool.not_eq_false'] at h); (try simp only [h]); (try simp only [decide_eq_true_eq, decide_eq_false_iff_not, bne_iff_ne, bne_eq_false_iff_eq, beq_iff_eq, beq_eq_false_iff_ne, ne_eq, Int.not_lt, Int.not_le, Bool.and_eq_true, Bool.and_eq_false_iff, Bool.or_eq_true, Bool.or_eq_false_iff] at h)) <;> (try (exfalso; omega))))
          first | refine goC_call [.o, .r] (dp) ?_ | refine goOC_call [.o, .r] (dp) ?_
          repeat' (first | simp -implicitDefEqProofs (maxSteps := 1000000) (disch := (first | omega | (simp only [go_sem] <;> omega) | fail)) only [go_sem, ints, bools, mat] | ((first | apply goIf_b | apply goG_b | apply goTG_b | apply goOG_b) <;> intro h <;> ((try simp only [Bool.not_eq_true', Bool.not_eq_false'] at h); (try simp only [h]); (try simp only [decide_eq_true_eq, decide_eq_false_iff_not, bne_iff_ne, bne_eq_false_iff_eq, beq_iff_eq, beq_eq_false_iff_ne, ne_eq, Int.not_lt, Int.not_le, Bool.and_eq_true, Bool.and_eq_false_iff, Bool.or_eq_true, Bool.or_eq_false_iff] at h)) <;> (try (exfalso; omega))))
          refine hJ (k + 1) (by omega) (by omega) _ ?_
          rw [XS]
          simp -implicitDefEqProofs (maxSteps := 1000000) (disch := (first | omega | (simp only [go_sem] <;> omega) | fail)) only [go_sem, ints, bools, mat]
          have e : n - (k : Int) - 1 = n - ((k + 1 : Nat) : Int) := by omega
          rw [e]
        · have e : k = n.toNat := by omega
          subst e
          repeat' (first | simp -implicitDefEqProofs (maxSteps := 1000000) (disch := (first | omega | (simp only [go_sem] <;> omega) | fail)) only [go_sem, ints, bools, mat] | ((first | apply goIf_b | apply goG_b | apply goTG_b | apply goOG_b) <;> intro h <;> ((try simp only [Bool.not_eq_true', Bool.not_eq_false'] at h); (try simp only [h]); (try simp only [decide_eq_true_eq, decide_eq_false_iff_not, bne_iff_ne, bne_eq_false_iff_eq, beq_iff_eq, beq_eq_false_iff_ne, ne_eq, Int.not_lt, Int.not_le, Bool.and_eq_true, Bool.and_eq_false_iff, Bool.or_eq_true, Bool.or_eq_false_iff] at h)) <;> (try (exfalso; omega))))
theorem inC_in64 {x c : List Int} (hx : isSpaceM x = true) (h : inC x c) : ∀ n, n ∈ c → in64 n := fun n hn => by
  have h1 := h n hn
  have h2 := isSpaceM_prod hx
  unfold in64; omega
theorem d_nil_impl_IsSpace : Den PA f_impl_IsSpace [.d (.agg [nil])] [.any] (.d (db false)) := by
  refine den_go [] l_impl_IsSpace ?_
  repeat' (first | simp -implicitDefEqProofs (maxSteps := 1000000) (disch := (first | omega | (simp only [go_sem] <;> omega) | fail)) only [go_sem, ints, bools, mat, c_impl_IsSpace] | ((first | apply goIf_b | apply goG_b | apply goTG_b | apply goOG_b) <;> intro h <;> ((try simp only [Bool.not_eq_true', Bool.not_eq_false'] at h); (try simp only [h]); (try simp only [decide_eq_true_eq, decide_eq_false_iff_not, bne_iff_ne, bne_eq_false_iff_eq, beq_iff_eq, beq_eq_false_iff_ne, ne_eq, Int.not_lt, Int.not_le, Bool.and_eq_true, Bool.and_eq_false_iff, Bool.or_eq_true, Bool.or_eq_false_iff] at h)) <;> (try (exfalso; omega))))
theorem d_nil_spec_l01Is : Den PA f_spec_l01Is [.d (.agg [nil])] [.any] (.d (db false)) := by
  refine den_go [] l_spec_l01Is ?_
  repeat' (first | simp -implicitDefEqProofs (maxSteps := 1000000) (disch := (first | omega | (simp only [go_sem] <;> omega) | fail)) only [go_sem, ints, bools, mat, c_spec_l01Is] | ((first | apply goIf_b | apply goG_b | apply goTG_b | apply goOG_b) <;> intro h <;> ((try simp only [Bool.not_eq_true', Bool.not_eq_false'] at h); (try simp only [h]); (try simp only [decide_eq_true_eq, decide_eq_false_iff_not, bne_iff_ne, bne_eq_false_iff_eq, beq_iff_eq, beq_eq_false_iff_ne, ne_eq, Int.not_lt, Int.not_le, Bool.and_eq_true, Bool.and_eq_false_iff, Bool.or_eq_true, Bool.or_eq_false_iff] at h)) <;> (try (exfalso; omega))))
  first | refine goC_call [.r, .r, .r] (d_spec_l01In 0 1 8) ?_ | refine goOC_call [.r, .r, .r] (d_spec_l01In 0 1 8) ?_
  repeat' (first | simp -implicitDefEqProofs (maxSteps := 1000000) (disch := (first | omega | (simp only [go_sem] <;> omega) | fail)) only [go_sem, ints, bools, mat] | ((first | apply goIf_b | apply goG_b | apply goTG_b | apply goOG_b) <;> intro h <;> ((try simp only [Bool.not_eq_true', Bool.not_eq_false'] at h); (try simp only [h]); (try simp only [decide_eq_true_eq, decide_eq_false_iff_not, bne_iff_ne, bne_eq_false_iff_eq, beq_iff_eq, beq_eq_false_iff_ne, ne_eq, Int.not_lt, Int.not_le, Bool.and_eq_true, Bool.and_eq_false_iff, Bool.or_eq_true, Bool.or_eq_false_iff] at h)) <;> (try (exfalso; omega))))
theorem d_nil_impl_wordCode (x : D) : Den PA f_impl_wordCode [.d (.agg [nil]), .d x] [.any, .any] (.d (di 1)) := by
  refine den_go [] l_impl_wordCode ?_
  repeat' (first | simp -implicitDefEqProofs (maxSteps := 1000000) (disch := (first | omega | (simp only [go_sem] <;> omega) | fail)) only [go_sem, ints, bools, mat, c_impl_wordCode] | ((first | apply goIf_b | apply goG_b | apply goTG_b | apply goOG_b) <;> intro h <;> ((try simp only [Bool.not_eq_true', Bool.not_eq_false'] at h); (try simp only [h]); (try simp only [decide_eq_true_eq, decide_eq_false_iff_not, bne_iff_ne, bne_eq_false_iff_eq, beq_iff_eq, beq_eq_false_iff_ne, ne_eq, Int.not_lt, Int.not_le, Bool.and_eq_true, Bool.and_eq_false_iff, Bool.or_eq_true, Bool.or_eq_false_iff] at h)) <;> (try (exfalso; omega))))
  first | refine goC_call [.r] (d_nil_impl_IsSpace) ?_ | refine goOC_call [.r] (d_nil_impl_IsSpace) ?_
  repeat' (first | simp -implicitDefEqProofs (maxSteps := 1000000) (disch := (first | omega | (simp only [go_sem] <;> omega) | fail)) only [go_sem, ints, bools, mat] | ((first | apply goIf_b | apply goG_b | apply goTG_b | apply goOG_b) <;> intro h <;> ((try simp only [Bool.not_eq_true', Bool.not_eq_false'] at h); (try simp only [h]); (try simp only [decide_eq_true_eq, decide_eq_false_iff_not, bne_iff_ne, bne_eq_false_iff_eq, beq_iff_eq, beq_eq_false_iff_ne, ne_eq, Int.not_lt, Int.not_le, Bool.and_eq_true, Bool.and_eq_false_iff, Bool.or_eq_true, Bool.or_eq_false_iff] at h)) <;> (try (exfalso; omega))))
theorem d_nil_impl_codeCode (c x : D) : Den PA f_impl_codeCode [.d (.agg [nil]), .d c, .d x] [.any, .any, .any] (.d (di 1)) := by
  refine den_go [] l_impl_codeCode ?_
  repeat' (first | simp -implicitDefEqProofs (maxSteps := 1000000) (disch := (first | omega | (simp only [go_sem] <;> omega) | fail)) only [go_sem, ints, bools, mat, c_impl_codeCode] | ((first | apply goIf_b | apply goG_b | apply goTG_b | apply goOG_b) <;> intro h <;> ((try simp only [Bool.not_eq_true', Bool.not_eq_false'] at h); (try simp only [h]); (try simp only [decide_eq_true_eq, decide_eq_false_iff_not, bne_iff_ne, bne_eq_false_iff_eq, beq_iff_eq, beq_eq_false_iff_ne, ne_eq, Int.not_lt, Int.not_le, Bool.and_eq_true, Bool.and_eq_false_iff, Bool.or_eq_true, Bool.or_eq_false_iff] at h)) <;> (try (exfalso; omega))))
  first | refine goC_call [.r, .r] (d_nil_impl_wordCode x) ?_ | refine goOC_call [.r, .r] (d_nil_impl_wordCode x) ?_
  repeat' (first | simp -implicitDefEqProofs (maxSteps := 1000000) (disch := (first | omega | (simp only [go_sem] <;> omega) | fail)) only [go_sem, ints, bools, mat] | ((first | apply goIf_b | apply goG_b | apply goTG_b | apply goOG_b) <;> intro h <;> ((try simp only [Bool.not_eq_true', Bool.not_eq_false'] at h); (try simp only [h]); (try simp only [decide_eq_true_eq, decide_eq_false_iff_not, bne_iff_ne, bne_eq_false_iff_eq, beq_iff_eq, beq_eq_false_iff_ne, ne_eq, Int.not_lt, Int.not_le, Bool.and_eq_true, Bool.and_eq_false_iff, Bool.or_eq_true, Bool.or_eq_false_iff] at h)) <;> (try (exfalso; omega))))
theorem d_nil_spec_l01Given (c : D) : Den PA f_spec_l01Given [.d (.agg [nil]), .d c] [.any, .any] (.d (di 1)) := by
  refine den_go [] l_spec_l01Given ?_
  repeat' (first | simp -implicitDefEqProofs (maxSteps := 1000000) (disch := (first | omega | (simp only [go_sem] <;> omega) | fail)) only [go_sem, ints, bools, mat, c_spec_l01Given] | ((first | apply goIf_b | apply goG_b | apply goTG_b | apply goOG_b) <;> intro h <;> ((try simp only [Bool.not_eq_true', Bool.not_eq_false'] at h); (try simp only [h]); (try simp only [decide_eq_true_eq, decide_eq_false_iff_not, bne_iff_ne, bne_eq_false_iff_eq, beq_iff_eq, beq_eq_false_iff_ne, ne_eq, Int.not_lt, Int.not_le, Bool.and_eq_true, Bool.and_eq_false_iff, Bool.or_eq_true, Bool.or_eq_false_iff] at h)) <;> (try (exfalso; omega))))
  first | refine goC_call [.r] (d_nil_spec_l01Is) ?_ | refine goOC_call [.r] (d_nil_spec_l01Is) ?_
  repeat' (first | simp -implicitDefEqProofs (maxSteps := 1000000) (disch := (first | omega | (simp only [go_sem] <;> omega) | fail)) only [go_sem, ints, bools, mat] | ((first | apply goIf_b | apply goG_b | apply goTG_b | apply goOG_b) <;> intro h <;> ((try simp only [Bool.not_eq_true', Bool.not_eq_false'] at h); (try simp only [h]); (try simp only [decide_eq_true_eq, decide_eq_false_iff_not, bne_iff_ne, bne_eq_false_iff_eq, beq_iff_eq, beq_eq_false_iff_ne, ne_eq, Int.not_lt, Int.not_le, Bool.and_eq_true, Bool.and_eq_false_iff, Bool.or_eq_true, Bool.or_eq_false_iff] at h)) <;> (try (exfalso; omega))))
theorem d_laws_likeInts (l m : List Int) (hl : l.length < 1048577) : Den PA f_laws_likeInts [.d (ints l), .d (ints m)] [.any, .any] (.d (db (decide (l = m)))) := by
  refine den_go [] l_laws_likeInts ?_
  repeat' (first | simp -implicitDefEqProofs (maxSteps := 1000000) (disch := (first | omega | (simp only [go_sem] <;> omega) | fail)) only [go_sem, ints, bools, mat, c_laws_likeInts] | ((first | apply goIf_b | apply goG_b | apply goTG_b | apply goOG_b) <;> intro h <;> ((try simp only [Bool.not_eq_true', Bool.not_eq_false'] at h); (try simp only [h]); (try simp only [decide_eq_true_eq, decide_eq_false_iff_not, bne_iff_ne, bne_eq_false_iff_eq, beq_iff_eq, beq_eq_false_iff_ne, ne_eq, Int.not_lt, Int.not_le, Bool.and_eq_true, Bool.and_eq_false_iff, Bool.or_eq_true, Bool.or_eq_false_iff] at h)) <;> (try (exfalso; omega))))
  · exact dbF fun e => by have := of_decide_eq_true e; subst this; exact h rfl
  · refine go_loop (fun (j : Nat) => ⟨[(0, .d (ints l)), (1, .d (ints m)), (5, .d (di j))], []⟩) (fun j => j ≤ l.length ∧ ∀ i, i < j → l.getD i 0 = m.getD i 0) (fun j => l.length - j) 0 ?_ ?_ ?_
    · (simp -implicitDefEqProofs (maxSteps := 1000000) (disch := (first | omega | (simp only [go_sem] <;> omega) | fail)) only [go_sem, ints, bools, mat] <;> rfl)
    · simp
    · rintro j ⟨hj, hi⟩ J hJ
      repeat' (first | simp -implicitDefEqProofs (maxSteps := 1000000) (disch := (first | omega | (simp only [go_sem] <;> omega) | fail)) only [go_sem, ints, bools, mat] | ((first | apply goIf_b | apply goG_b | apply goTG_b | apply goOG_b) <;> intro h <;> ((try simp only [Bool.not_eq_true', Bool.not_eq_false'] at h); (try simp only [h]); (try simp only [decide_eq_true_eq, decide_eq_false_iff_not, bne_iff_ne, bne_eq_false_iff_eq, beq_iff_eq, beq_eq_false_iff_ne, ne_eq, Int.not_lt, Int.not_le, Bool.and_eq_true, Bool.and_eq_false_iff, Bool.or_eq_true, Bool.or_eq_false_iff] at h)) <;> (try (exfalso; omega))))
      · exact dbF fun e => by have := of_decide_eq_true e; subst this; exact h rfl
      · refine hJ (j + 1) ⟨by omega, all_ext hi (by assumption)⟩ (by omega) _ (by (simp -implicitDefEqProofs (maxSteps := 1000000) (disch := (first | omega | (simp only [go_sem] <;> omega) | fail)) only [go_sem, ints, bools, mat] <;> rfl))
      · exact dbT (decide_eq_true (eq_getD (by omega) fun i hi' => hi i (by omega)))
theorem d_laws_likeInts_nil : Den PA f_laws_likeInts [.d nil, .d nil] [.any, .any] (.d (db true)) := by
  refine den_go [] l_laws_likeInts ?_
  repeat' (first | simp -implicitDefEqProofs (maxSteps := 1000000) (disch := (first | omega | (simp only [go_sem] <;> omega) | fail)) only [go_sem, ints, bools, mat, c_laws_likeInts] | ((first | apply goIf_b | apply goG_b | apply goTG_b | apply goOG_b) <;> intro h <;> ((try simp only [Bool.not_eq_true', Bool.not_eq_false'] at h); (try simp only [h]); (try simp only [decide_eq_true_eq, decide_eq_false_iff_not, bne_iff_ne, bne_eq_false_iff_eq, beq_iff_eq, beq_eq_false_iff_ne, ne_eq, Int.not_lt, Int.not_le, Bool.and_eq_true, Bool.and_eq_false_iff, Bool.or_eq_true, Bool.or_eq_false_iff] at h)) <;> (try (exfalso; omega))))
  refine go_loop (fun (_ : Unit) => ⟨[(0, .d nil), (1, .d nil), (5, .d (di 0))], []⟩) (fun _ => True) (fun _ => 0) () ?_ trivial ?_
  · (simp -implicitDefEqProofs (maxSteps := 1000000) (disch := (first | omega | (simp only [go_sem] <;> omega) | fail)) only [go_sem, ints, bools, mat] <;> rfl)
  · intro _ _ J _
    repeat' (first | simp -implicitDefEqProofs (maxSteps := 1000000) (disch := (first | omega | (simp only [go_sem] <;> omega) | fail)) only [go_sem, ints, bools, mat] | ((first | apply goIf_b | apply goG_b | apply goTG_b | apply goOG_b) <;> intro h <;> ((try simp only [Bool.not_eq_true', Bool.not_eq_false'] at h); (try simp only [h]); (try simp only [decide_eq_true_eq, decide_eq_false_iff_not, bne_iff_ne, bne_eq_false_iff_eq, beq_iff_eq, beq_eq_false_iff_ne, ne_eq, Int.not_lt, Int.not_le, Bool.and_eq_true, Bool.and_eq_false_iff, Bool.or_eq_true, Bool.or_eq_false_iff] at h)) <;> (try (exfalso; omega))))
theorem lenA_bts {x : D} {l : List Int} (h : IsBts x l) : lenA (.d x) = some (.d (di l.length)) := by
  rcases h with ⟨rfl, _⟩ | ⟨rfl, rfl⟩
  · simp [lenA]
  · rfl
theorem d_laws_big {x : D} {l : List Int} (h : IsBts x l) : Den PA f_laws_big [.d x] [.any] (.d (db (decide (4096 < (l.length : Int))))) := by
  have hl := lenA_bts h
  refine den_go [] l_laws_big ?_
  repeat' (first | simp -implicitDefEqProofs (maxSteps := 1000000) (disch := (first | omega | (simp only [go_sem] <;> omega) | fail)) only [go_sem, ints, bools, mat, c_laws_big, hl] | ((first | apply goIf_b | apply goG_b | apply goTG_b | apply goOG_b) <;> intro h <;> ((try simp only [Bool.not_eq_true', Bool.not_eq_false'] at h); (try simp only [h]); (try simp only [decide_eq_true_eq, decide_eq_false_iff_not, bne_iff_ne, bne_eq_false_iff_eq, beq_iff_eq, beq_eq_false_iff_ne, ne_eq, Int.not_lt, Int.not_le, Bool.and_eq_true, Bool.and_eq_false_iff, Bool.or_eq_true, Bool.or_eq_false_iff] at h)) <;> (try (exfalso; omega))))
theorem ex_small {cd : D} {l : List Int} (H : SrcH cd l) {s : Src} (hs : okS l s) : ∃ (o : List Int) (s' : Src), okS l s' ∧ isSpaceM o = true ∧ Den PA f_spec_l01Small [srcR cd s] [srcR cd s'] (.agg [.own 1 (o.map di)]) := by
  obtain ⟨m, s1, hs1, hm, d1⟩ := ex_pik H hs [8, 27, 81] (by simp) (by simp)
  simp only [List.mem_cons, List.mem_nil_iff, or_false] at hm
  obtain ⟨o, s2, hs2, ho, d2⟩ := ex_drawOf H hs1 (most := m) (by omega) (by omega)
  refine ⟨o, s2, hs2, ho, den_go [0] l_spec_l01Small ?_⟩
  repeat' (first | simp -implicitDefEqProofs (maxSteps := 1000000) (disch := (first | omega | (simp only [go_sem] <;> omega) | fail)) only [go_sem, ints, bools, mat, c_spec_l01Small, srcR] | ((first | apply goIf_b | apply goG_b | apply goTG_b | apply goOG_b) <;> intro h <;> ((try simp only [Bool.not_eq_true', Bool.not_eq_false'] at h); (try simp only [h]); (try simp only [decide_eq_true_eq, decide_eq_false_iff_not, bne_iff_ne, bne_eq_false_iff_eq, beq_iff_eq, beq_eq_false_iff_ne, ne_eq, Int.not_lt, Int.not_le, Bool.and_eq_true, Bool.and_eq_false_iff, Bool.or_eq_true, Bool.or_eq_false_iff] at h)) <;> (try (exfalso; omega))))
  first | refine goC_call [.bm, .f] (d1) ?_ | refine goOC_call [.bm, .f] (d1) ?_
  repeat' (first | simp -implicitDefEqProofs (maxSteps := 1000000) (disch := (first | omega | (simp only [go_sem] <;> omega) | fail)) only [go_sem, ints, bools, mat] | ((first | apply goIf_b | apply goG_b | apply goTG_b | apply goOG_b) <;> intro h <;> ((try simp only [Bool.not_eq_true', Bool.not_eq_false'] at h); (try simp only [h]); (try simp only [decide_eq_true_eq, decide_eq_false_iff_not, bne_iff_ne, bne_eq_false_iff_eq, beq_iff_eq, beq_eq_false_iff_ne, ne_eq, Int.not_lt, Int.not_le, Bool.and_eq_true, Bool.and_eq_false_iff, Bool.or_eq_true, Bool.or_eq_false_iff] at h)) <;> (try (exfalso; omega))))
  first | refine goC_call [.bm, .r] (d2) ?_ | refine goOC_call [.bm, .r] (d2) ?_
  repeat' (first | simp -implicitDefEqProofs (maxSteps := 1000000) (disch := (first | omega | (simp only [go_sem] <;> omega) | fail)) only [go_sem, ints, bools, mat] | ((first | apply goIf_b | apply goG_b | apply goTG_b | apply goOG_b) <;> intro h <;> ((try simp only [Bool.not_eq_true', Bool.not_eq_false'] at h); (try simp only [h]); (try simp only [decide_eq_true_eq, decide_eq_false_iff_not, bne_iff_ne, bne_eq_false_iff_eq, beq_iff_eq, beq_eq_false_iff_ne, ne_eq, Int.not_lt, Int.not_le, Bool.and_eq_true, Bool.and_eq_false_iff, Bool.or_eq_true, Bool.or_eq_false_iff] at h)) <;> (try (exfalso; omega))))
@[go_sem] theorem leaA_is (k : Nat) (x : AV) (v : Value) (s : Sto) : leaA (k + 1) (.is x v) s = leaA k x s := rfl
@[go_sem] theorem leaA_iref (k : Nat) (cs : List D) (c : Nat) (s : Sto) : leaA (k + 1) (.iref cs c) s = (.any, s) := rfl
@[go_sem] theorem leaA_fn (k : Nat) (f : FuncId) (xs : List AV) (s : Sto) : leaA (k + 1) (.fn f xs) s = (.any, s) := rfl
def leaBm (p : List R × Sto) : R × Sto := (.boxm p.1, p.2)
@[go_sem] theorem leaBm_ok (ls : List R) (s : Sto) : leaBm (ls, s) = (.boxm ls, s) := rfl
@[go_sem] theorem leaB_mix (cs : List AV) (k i : Nat) (s : Sto) : leaB (some (some (.mix cs))) k i s = leaBm (leaL (leaA k) cs (s.set i none)) := rfl
theorem leaS_pre {i n : Nat} {es : List D} {s : Sto} (h : n ≤ es.length) : leaS (some (some (.dat 1 es))) i 0 n 1 s = (.own 1 (es.take n), s.set i none) := by
  simp [leaS, h, Nat.mod_one]
theorem ballM_those (l : List Int) (w r : Int) : thoseM l (fun a => decide (farM (digM l w) a ≤ r)) = ballM l w r := by
  unfold thoseM ballM
  congr 1; funext u
  rw [← distM_comm l w u, distM]
theorem d_impl_ball_1 (a b : List Int) (r : Int) (ha : a.length = b.length) (h8 : a.length ≤ 8) : Den PA f_impl_ball_1 [.d (dig a), .box ((pad8 b).map dy), .box [di r]] [.any, .any, .any] (.d (db (decide (farM b a ≤ r)))) := by
  refine den_go [] l_impl_ball_1 ?_
  repeat' (first | simp -implicitDefEqProofs (maxSteps := 1000000) (disch := (first | omega | (simp only [go_sem] <;> omega) | fail)) only [go_sem, ints, bools, mat, c_impl_ball_1] | ((first | apply goIf_b | apply goG_b | apply goTG_b | apply goOG_b) <;> intro h <;> ((try simp only [Bool.not_eq_true', Bool.not_eq_false'] at h); (try simp only [h]); (try simp only [decide_eq_true_eq, decide_eq_false_iff_not, bne_iff_ne, bne_eq_false_iff_eq, beq_iff_eq, beq_eq_false_iff_ne, ne_eq, Int.not_lt, Int.not_le, Bool.and_eq_true, Bool.and_eq_false_iff, Bool.or_eq_true, Bool.or_eq_false_iff] at h))))
  first | refine goC_call [.r, .r] (d_impl_far b a ha.symm (by omega)) ?_ | refine goOC_call [.r, .r] (d_impl_far b a ha.symm (by omega)) ?_
  repeat' (first | simp -implicitDefEqProofs (maxSteps := 1000000) (disch := (first | omega | (simp only [go_sem] <;> omega) | fail)) only [go_sem, ints, bools, mat] | ((first | apply goIf_b | apply goG_b | apply goTG_b | apply goOG_b) <;> intro h <;> ((try simp only [Bool.not_eq_true', Bool.not_eq_false'] at h); (try simp only [h]); (try simp only [decide_eq_true_eq, decide_eq_false_iff_not, bne_iff_ne, bne_eq_false_iff_eq, beq_iff_eq, beq_eq_false_iff_ne, ne_eq, Int.not_lt, Int.not_le, Bool.and_eq_true, Bool.and_eq_false_iff, Bool.or_eq_true, Bool.or_eq_false_iff] at h))))
theorem d_impl_ball (l : List Int) (hs : isSpaceM l = true) (w r : Int) (hw : 0 ≤ w) (hw2 : w < 1000000000000) : Den PA f_impl_ball [.d (.agg [ints l]), .d (di w), .d (di r)] [.any, .any, .any] (.own 1 ((ballM l w r).map di)) := by
  have hn := isSpaceM_n hs
  have e := digM_len l w
  refine den_go [] l_impl_ball ?_
  repeat' (first | simp -implicitDefEqProofs (maxSteps := 1000000) (disch := (first | omega | (simp only [go_sem] <;> omega) | fail)) only [go_sem, ints, bools, mat, c_impl_ball] | ((first | apply goIf_b | apply goG_b | apply goTG_b | apply goOG_b) <;> intro h <;> ((try simp only [Bool.not_eq_true', Bool.not_eq_false'] at h); (try simp only [h]); (try simp only [decide_eq_true_eq, decide_eq_false_iff_not, bne_iff_ne, bne_eq_false_iff_eq, beq_iff_eq, beq_eq_false_iff_ne, ne_eq, Int.not_lt, Int.not_le, Bool.and_eq_true, Bool.and_eq_false_iff, Bool.or_eq_true, Bool.or_eq_false_iff] at h))))
  first | refine goC_call [.r, .r] (d_impl_digitsOf l hs w hw hw2) ?_ | refine goOC_call [.r, .r] (d_impl_digitsOf l hs w hw hw2) ?_
  repeat' (first | simp -implicitDefEqProofs (maxSteps := 1000000) (disch := (first | omega | (simp only [go_sem] <;> omega) | fail)) only [go_sem, ints, bools, mat, dig] | ((first | apply goIf_b | apply goG_b | apply goTG_b | apply goOG_b) <;> intro h <;> ((try simp only [Bool.not_eq_true', Bool.not_eq_false'] at h); (try simp only [h]); (try simp only [decide_eq_true_eq, decide_eq_false_iff_not, bne_iff_ne, bne_eq_false_iff_eq, beq_iff_eq, beq_eq_false_iff_ne, ne_eq, Int.not_lt, Int.not_le, Bool.and_eq_true, Bool.and_eq_false_iff, Bool.or_eq_true, Bool.or_eq_false_iff] at h))))
  first | refine goC_call [.r, .g (fnD l.length fun a => decide (farM (digM l w) a ≤ r))] (d_impl_those l hs (fun a => decide (farM (digM l w) a ≤ r)) _ (fun u => fnD_mk hs (fun a => decide (farM (digM l w) a ≤ r)) u)) ?_ | refine goOC_call [.r, .g (fnD l.length fun a => decide (farM (digM l w) a ≤ r))] (d_impl_those l hs (fun a => decide (farM (digM l w) a ≤ r)) _ (fun u => fnD_mk hs (fun a => decide (farM (digM l w) a ≤ r)) u)) ?_
  repeat' (first | simp -implicitDefEqProofs (maxSteps := 1000000) (disch := (first | omega | (simp only [go_sem] <;> omega) | fail)) only [go_sem, ints, bools, mat] | ((first | apply goIf_b | apply goG_b | apply goTG_b | apply goOG_b) <;> intro h <;> ((try simp only [Bool.not_eq_true', Bool.not_eq_false'] at h); (try simp only [h]); (try simp only [decide_eq_true_eq, decide_eq_false_iff_not, bne_iff_ne, bne_eq_false_iff_eq, beq_iff_eq, beq_eq_false_iff_ne, ne_eq, Int.not_lt, Int.not_le, Bool.and_eq_true, Bool.and_eq_false_iff, Bool.or_eq_true, Bool.or_eq_false_iff] at h))))
  refine chk_intro (fnOK_mk (d_impl_ball_1 [] [] 0 rfl (by simp)).1 [(pad8 (digM l w)).map dy, [di r]] rfl fun ds v hgg => ?_) ?_
  · obtain ⟨a, ha, _, rfl, rfl⟩ := hgg
    exact ⟨_, d_impl_ball_1 a (digM l w) r (by rw [ha, digM_len]) (by omega)⟩
  rw [ballM_those]
  repeat' (first | simp -implicitDefEqProofs (maxSteps := 1000000) (disch := (first | omega | (simp only [go_sem] <;> omega) | fail)) only [go_sem, ints, bools, mat] | ((first | apply goIf_b | apply goG_b | apply goTG_b | apply goOG_b) <;> intro h <;> ((try simp only [Bool.not_eq_true', Bool.not_eq_false'] at h); (try simp only [h]); (try simp only [decide_eq_true_eq, decide_eq_false_iff_not, bne_iff_ne, bne_eq_false_iff_eq, beq_iff_eq, beq_eq_false_iff_ne, ne_eq, Int.not_lt, Int.not_le, Bool.and_eq_true, Bool.and_eq_false_iff, Bool.or_eq_true, Bool.or_eq_false_iff] at h))))
def cf : List Int → Nat → Int
  | [], k => if k = 0 then 1 else 0
  | q :: r, k => mulB (q - 1) (cf r) k
theorem flat_cnt (n a : Nat) (A B : Int) (g : Nat → List (List Int)) (h : ∀ d, d < n → ((g d).length : Int) = if d = a then A else B) :
    ((((List.range n).flatMap g).length : Nat) : Int) = n * B + if a < n then A - B else 0 := by
  induction n with
  | zero => simp
  | succ n ih =>
    have hs := h n (by omega)
    rw [List.range_succ, List.flatMap_append, List.length_append, Int.natCast_add, ih fun d hd => h d (by omega)]
    simp only [List.flatMap_cons, List.flatMap_nil, List.append_nil]
    rw [hs]
    have e : ((n + 1 : Nat) : Int) * B = n * B + B := by rw [Int.natCast_add, Int.add_mul]; simp
    rw [e]
    rcases Nat.lt_trichotomy n a with q | q | q
    · rw [if_neg (show ¬ n = a by omega), if_neg (show ¬ a < n by omega), if_neg (show ¬ a < n + 1 by omega)]; omega
    · rw [if_pos q, if_neg (show ¬ a < n by omega), if_pos (show a < n + 1 by omega)]; omega
    · rw [if_neg (show ¬ n = a by omega), if_pos (show a < n by omega), if_pos (show a < n + 1 by omega)]; omega
theorem cf_part (r a : List Int) (d a0 : Int) (k : Nat) : ((((vecs r).map fun v => d :: v).filter fun v => farM v (a0 :: a) == (k : Int)).length : Int) =
    if d = a0 then (((vecs r).filter fun v => farM v a == (k : Int)).length : Int) else dn (fun k => (((vecs r).filter fun v => farM v a == (k : Int)).length : Int)) k := by
  rw [List.filter_map, List.length_map]
  split
  · rename_i e
    congr 2
    apply List.filter_congr
    intro v _
    simp only [Function.comp, farM, if_pos e, Int.zero_add]
  · rename_i e
    unfold dn
    split
    · rename_i hk
      subst hk
      rw [List.filter_eq_nil_iff.2]
      · rfl
      · intro v _
        have := (farM_bnd v a).1
        simp only [Function.comp, farM, if_neg e, beq_iff_eq]; omega
    · rename_i hk
      congr 2
      apply List.filter_congr
      intro v _
      simp only [Function.comp, farM, if_neg e]
      rw [Bool.eq_iff_iff, beq_iff_eq, beq_iff_eq]; omega
theorem cf_ok : ∀ {l a : List Int}, szs l → a.length = l.length → (∀ i, i < l.length → 0 ≤ a.getD i 0 ∧ a.getD i 0 < l.getD i 0) → ∀ k : Nat, (((vecs l).filter fun v => farM v a == (k : Int)).length : Int) = cf l k
  | [], a, _, hl, _, k => by
    have : a = [] := List.eq_nil_of_length_eq_zero hl
    subst this
    rw [vecs, cf]
    by_cases hk : k = 0
    · subst hk; simp [farM]
    · rw [if_neg hk, List.filter_eq_nil_iff.2]
      · rfl
      · intro v hv
        simp at hv; subst hv
        simp [farM]; omega
  | q :: r, [], _, hl, _, k => by simp at hl
  | q :: r, a0 :: a, h, hl, hb, k => by
    have hq := h 0 (by simp)
    simp at hq
    have h0 := hb 0 (by simp)
    simp at h0
    have ih := fun k => cf_ok (l := r) (a := a) (szs_tail h) (by simpa using hl) (fun i hi => by simpa using hb (i + 1) (by simpa using hi)) k
    rw [vecs, List.filter_flatMap, flat_cnt q.toNat a0.toNat (cf r k) (dn (cf r) k), if_pos (by omega), cf, mulB]
    · rw [show ((q.toNat : Nat) : Int) = (q - 1) + 1 by omega, Int.add_mul]; omega
    · intro d hd
      rw [cf_part]
      have e2 : dn (fun k => (((vecs r).filter fun v => farM v a == (k : Int)).length : Int)) k = dn (cf r) k := by
        congr 1; funext k; exact ih k
      rw [e2, ih]
      by_cases e : d = a0.toNat
      · rw [if_pos e, if_pos (by omega)]
      · rw [if_neg e, if_neg (by omega)]
def sumN (f : Nat → Int) : Nat → Int
  | 0 => 0
  | n + 1 => sumN f n + f n
def bzM (l : List Int) (r : Int) : Int := sumN (cf l) (r.toNat + 1)
theorem cnt_le {α : Type} (L : List α) (f : α → Int) (h : ∀ x, x ∈ L → 0 ≤ f x) : ∀ n : Nat, ((L.filter fun x => decide (f x < n)).length : Int) = sumN (fun k => ((L.filter fun x => f x == (k : Int)).length : Int)) n
  | 0 => by
    rw [List.filter_eq_nil_iff.2]
    · rfl
    · intro x hx
      have := h x hx
      simp only [decide_eq_true_eq]; omega
  | n + 1 => by
    rw [sumN, ← cnt_le L f h n]
    clear h
    induction L with
    | nil => rfl
    | cons x L ih =>
      rw [List.filter_cons, List.filter_cons, List.filter_cons]
      rcases Int.lt_trichotomy (f x) n with q | q | q
      · rw [if_pos (decide_eq_true (by omega)), if_pos (decide_eq_true q), if_neg (by rw [beq_iff_eq]; omega)]
        simp only [List.length_cons]; omega
      · rw [if_pos (decide_eq_true (by omega)), if_neg (by rw [decide_eq_true_eq]; omega), if_pos (by rw [beq_iff_eq]; exact q)]
        simp only [List.length_cons]; omega
      · rw [if_neg (by rw [decide_eq_true_eq]; omega), if_neg (by rw [decide_eq_true_eq]; omega), if_neg (by rw [beq_iff_eq]; omega)]
        exact ih
theorem dig_in {l : List Int} (h : szs l) (w : Int) : ∀ i, i < l.length → 0 ≤ (digM l w).getD i 0 ∧ (digM l w).getD i 0 < l.getD i 0 := fun i hi =>
  ⟨(digM_bnd w h i).1, (dig_lt h w hi).2⟩
theorem ball_len {l : List Int} (hs : isSpaceM l = true) (w : Int) {r : Int} (hr : 0 ≤ r) : ((ballM l w r).length : Int) = bzM l r := by
  have hz := isSpaceM_szs hs
  have h1 : (ballM l w r).length = ((vecs l).filter fun v => decide (farM v (digM l w) < ((r.toNat + 1 : Nat) : Int))).length := by
    rw [← vecs_ok hz, List.filter_map, List.length_map, ballM]
    congr 1
    apply List.filter_congr
    intro u _
    simp only [Function.comp, distM]
    congr 1
    apply propext
    constructor <;> intro h <;> omega
  rw [h1, cnt_le _ _ (fun v _ => (farM_bnd v _).1), bzM]
  congr 1
  funext k
  exact cf_ok hz (digM_len l w) (dig_in hz w) k
theorem cf_app (q : Int) : ∀ (p : List Int) (k : Nat), cf (p ++ [q]) k = mulB (q - 1) (cf p) k
  | [], k => rfl
  | a :: p, k => by
    rw [List.cons_append, cf, show cf (p ++ [q]) = mulB (q - 1) (cf p) from funext (cf_app q p), mulB_comm]
    rfl
theorem cf_bnd : ∀ (l : List Int), (∀ i, i < l.length → 2 ≤ l.getD i 0 ∧ l.getD i 0 ≤ 4) → ∀ k, 0 ≤ cf l k ∧ cf l k ≤ 4 ^ l.length
  | [], _, k => by
    rw [cf]; split <;> simp
  | q :: r, h, k => by
    have hq := h 0 (by simp)
    simp at hq
    have ih := cf_bnd r fun i hi => by simpa using h (i + 1) (by simpa using hi)
    have h1 := ih k
    have h2 : 0 ≤ dn (cf r) k ∧ dn (cf r) k ≤ 4 ^ r.length := by
      unfold dn; split
      · exact ⟨Int.le_refl _, Int.pow_nonneg (by omega)⟩
      · exact ih _
    have h3 : (q - 1) * dn (cf r) k ≤ 3 * 4 ^ r.length := Int.mul_le_mul (by omega) h2.2 h2.1 (by omega)
    have h4 : 0 ≤ (q - 1) * dn (cf r) k := Int.mul_nonneg (by omega) h2.1
    rw [cf, mulB, List.length_cons, Int.pow_succ]
    omega
theorem cf_zero : ∀ (l : List Int) (k : Nat), l.length < k → cf l k = 0
  | [], k, h => by rw [cf, if_neg (by simp at h; omega)]
  | q :: r, k, h => by
    simp at h
    rw [cf, mulB, cf_zero r k (by omega), dn, if_neg (by omega), cf_zero r (k - 1) (by omega)]; simp
theorem sumN_big (f : Nat → Int) {m : Nat} (h : ∀ k, m ≤ k → f k = 0) : ∀ n, m ≤ n → sumN f n = sumN f m
  | 0, hn => by
    have : m = 0 := by omega
    subst this; rfl
  | n + 1, hn => by
    rcases Nat.lt_or_ge n m with q | q
    · have : m = n + 1 := by omega
      subst this; rfl
    · rw [sumN, h n q, sumN_big f h n q]; omega
def rowS (l : List Int) (i k : Nat) : List Int := (List.range (l.length + 1)).map fun j => if k < j then cf (l.take (i + 1)) j else cf (l.take i) j
@[go_sem] theorem rowS_len (l : List Int) (i k : Nat) : (rowS l i k).length = l.length + 1 := by simp [rowS]
theorem rowS_get (l : List Int) (i k : Nat) {j : Nat} (h : j < l.length + 1) : (rowS l i k).getD j 0 = if k < j then cf (l.take (i + 1)) j else cf (l.take i) j := by simp [rowS, h]
theorem rowS_step (l : List Int) {i k : Nat} (hi : i < l.length) (hk : k < l.length) : (rowS l i (k + 1)).set (k + 1) (cf (l.take i) (k + 1) + cf (l.take i) k * (l.getD i 0 - 1)) = rowS l i k := by
  refine eq_getD (by rw [List.length_set, rowS_len, rowS_len]) fun j hj => ?_
  rw [List.length_set, rowS_len] at hj
  rw [rowS_get l i k hj, List.getD_eq_getElem?_getD, List.getElem?_set]
  by_cases e : k + 1 = j
  · subst e
    rw [if_pos rfl, if_pos (by rw [rowS_len]; omega), if_pos (by omega), take_one l hi, cf_app, mulB, dn, if_neg (by omega), Nat.add_sub_cancel, Int.mul_comm]
    rfl
  · rw [if_neg e]
    have := rowS_get l i (k + 1) hj
    rw [List.getD_eq_getElem?_getD] at this
    rw [this]
    by_cases e2 : k + 1 < j
    · rw [if_pos e2, if_pos (by omega)]
    · rw [if_neg e2, if_neg (by omega)]
theorem rowS_next (l : List Int) {i : Nat} (hi : i < l.length) : rowS l i 0 = rowS l (i + 1) (i + 2) := by
  refine eq_getD (by rw [rowS_len, rowS_len]) fun j hj => ?_
  rw [rowS_len] at hj
  rw [rowS_get l i 0 hj, rowS_get l (i + 1) (i + 2) hj]
  by_cases e : j = 0
  · subst e
    rw [if_neg (by omega), if_neg (by omega), take_one l hi, cf_app, mulB, dn, if_pos rfl]; simp
  · rw [if_pos (by omega)]
    by_cases e2 : i + 2 < j
    · rw [if_pos e2, cf_zero _ _ (by simp; omega), cf_zero _ _ (by simp; omega)]
    · rw [if_neg e2]
theorem rowS_0 {l : List Int} : (List.replicate (l.length + 1) (0 : Int)).set 0 1 = rowS l 0 1 := by
  refine eq_getD (by rw [List.length_set, List.length_replicate, rowS_len]) fun j hj => ?_
  rw [List.length_set, List.length_replicate] at hj
  rw [rowS_get l 0 1 hj, List.getD_eq_getElem?_getD, List.getElem?_set]
  by_cases e : j = 0
  · subst e; simp [cf]
  · rw [if_neg (by omega)]
    have : ∀ n, n ≠ 0 → cf (l.take 1) n = if n = 1 then cf (l.take 1) 1 else 0 := fun n hn => by
      split
      · rename_i e; rw [e]
      · exact cf_zero _ _ (by simp; omega)
    by_cases e2 : j = 1
    · subst e2
      rw [if_neg (by omega), List.take_zero, cf, if_neg (by omega)]
      simp [hj]
    · rw [if_pos (by omega), this j e, if_neg e2]
      simp [hj]
theorem rowS_end (l : List Int) {k : Nat} (hk : k < l.length + 1) : (rowS l l.length (l.length + 1)).getD k 0 = cf l k := by
  rw [rowS_get l _ _ hk, if_neg (by omega), List.take_length]
theorem sumN_bnd (f : Nat → Int) (B : Int) (h : ∀ k, 0 ≤ f k ∧ f k ≤ B) : ∀ n : Nat, 0 ≤ sumN f n ∧ sumN f n ≤ n * B
  | 0 => by simp [sumN]
  | n + 1 => by
    have h1 := sumN_bnd f B h n
    have h2 := h n
    rw [sumN, Int.natCast_add, Int.add_mul]; omega
theorem pow4_le {n : Nat} (h : n ≤ 8) : (4 : Int) ^ n ≤ 65536 := by
  have h1 : (4 : Nat) ^ n ≤ 65536 := Nat.le_trans (Nat.pow_le_pow_right (by omega) h) (by decide)
  have h2 : ((4 ^ n : Nat) : Int) ≤ 65536 := by omega
  rw [Int.natCast_pow] at h2
  exact h2
theorem d_spec_l01Size (l : List Int) (hs : isSpaceM l = true) (r : Int) (hr : 0 ≤ r) (hr2 : r < 1000000) : Den PA f_spec_l01Size [.d (.agg [ints l]), .d (di r)] [.any, .any] (.d (di (bzM l r))) := by
  have hn := isSpaceM_n hs
  have hq := isSpaceM_q hs
  have hcb : ∀ i k, 0 ≤ cf (l.take i) k ∧ cf (l.take i) k ≤ 65536 := fun i k => by
    have h1 := cf_bnd (l.take i) (fun j hj => by
      simp at hj
      have := hq j (by omega)
      rwa [List.getD_eq_getElem?_getD, List.getElem?_take, if_pos (by omega), ← List.getD_eq_getElem?_getD]) k
    have h2 : (4 : Int) ^ (l.take i).length ≤ 65536 := pow4_le (by simp; omega)
    omega
  refine den_go [] l_spec_l01Size ?_
  repeat' (first | simp -implicitDefEqProofs (maxSteps := 1000000) (disch := (first | omega | (simp only [go_sem] <;> omega) | fail)) only [go_sem, ints, bools, mat, c_spec_l01Size] | ((first | apply goIf_b | apply goG_b | apply goTG_b | apply goOG_b) <;> intro h <;> ((try simp only [Bool.not_eq_true', Bool.not_eq_false'] at h); (try simp only [h]); (try simp only [decide_eq_true_eq, decide_eq_false_iff_not, bne_iff_ne, bne_eq_false_iff_eq, beq_iff_eq, beq_eq_false_iff_ne, ne_eq, Int.not_lt, Int.not_le, Bool.and_eq_true, Bool.and_eq_false_iff, Bool.or_eq_true, Bool.or_eq_false_iff] at h)) <;> (try (exfalso; omega))))
  rw [rowS_0]
  refine go_loop (fun (i : Nat) => ⟨[(1, .d (di r)), (2, .ref 0 0), (5, .sl 1 0 (l.length + 1) 1), (6, .d (di i))], [some (.var [ints l]), some (.dat 1 ((rowS l i (i + 1)).map di))]⟩) (fun i => i ≤ l.length) (fun i => l.length - i) 0 ?_ ?_ ?_
  · (simp -implicitDefEqProofs (maxSteps := 1000000) (disch := (first | omega | (simp only [go_sem] <;> omega) | fail)) only [go_sem, ints, bools, mat] <;> rfl)
  · omega
  · rintro i hi J hJ
    by_cases hil : i < l.length
    · repeat' (first | simp -implicitDefEqProofs (maxSteps := 1000000) (disch := (first | omega | (simp only [go_sem] <;> omega) | fail)) only [go_sem, ints, bools, mat] | ((first | apply goIf_b | apply goG_b | apply goTG_b | apply goOG_b) <;> intro h <;> ((try simp only [Bool.not_eq_true', Bool.not_eq_false'] at h); (try simp only [h]); (try simp only [decide_eq_true_eq, decide_eq_false_iff_not, bne_iff_ne, bne_eq_false_iff_eq, beq_iff_eq, beq_eq_false_iff_ne, ne_eq, Int.not_lt, Int.not_le, Bool.and_eq_true, Bool.and_eq_false_iff, Bool.or_eq_true, Bool.or_eq_false_iff] at h)) <;> (try (exfalso; omega))))
      have hqi := hq i hil
      refine go_loop (fun (k : Nat) => ⟨[(1, .d (di r)), (2, .ref 0 0), (5, .sl 1 0 (l.length + 1) 1), (6, .d (di i)), (7, .d (di k))], [some (.var [ints l]), some (.dat 1 ((rowS l i k).map di))]⟩) (fun k => k ≤ i + 1) (fun k => k) (i + 1) ?_ ?_ ?_
      · (simp -implicitDefEqProofs (maxSteps := 1000000) (disch := (first | omega | (simp only [go_sem] <;> omega) | fail)) only [go_sem, ints, bools, mat] <;> rfl)
      · omega
      · rintro k hk J2 hJ2
        rcases k with _ | k
        · repeat' (first | simp -implicitDefEqProofs (maxSteps := 1000000) (disch := (first | omega | (simp only [go_sem] <;> omega) | fail)) only [go_sem, ints, bools, mat] | ((first | apply goIf_b | apply goG_b | apply goTG_b | apply goOG_b) <;> intro h <;> ((try simp only [Bool.not_eq_true', Bool.not_eq_false'] at h); (try simp only [h]); (try simp only [decide_eq_true_eq, decide_eq_false_iff_not, bne_iff_ne, bne_eq_false_iff_eq, beq_iff_eq, beq_eq_false_iff_ne, ne_eq, Int.not_lt, Int.not_le, Bool.and_eq_true, Bool.and_eq_false_iff, Bool.or_eq_true, Bool.or_eq_false_iff] at h)) <;> (try (exfalso; omega))))
          refine hJ (i + 1) (by omega) (by omega) _ ?_
          simp -implicitDefEqProofs (maxSteps := 1000000) (disch := (first | omega | (simp only [go_sem] <;> omega) | fail)) only [go_sem, ints, bools, mat]
          rw [rowS_next l hil]
          rfl
        · have e1 := rowS_get l i (k + 1) (j := k + 1) (by omega)
          have e2 := rowS_get l i (k + 1) (j := k) (by omega)
          rw [if_neg (by omega)] at e1 e2
          have b1 := hcb i (k + 1)
          have b2 := hcb i k
          have b3 : cf (l.take i) k * (l.getD i 0 - 1) ≤ 65536 * 3 := Int.mul_le_mul b2.2 (by omega) (by omega) (by omega)
          have b4 : 0 ≤ cf (l.take i) k * (l.getD i 0 - 1) := Int.mul_nonneg b2.1 (by omega)
          have e3 := rowS_step l hil (k := k) (by omega)
          repeat' (first | simp -implicitDefEqProofs (maxSteps := 1000000) (disch := (first | omega | (simp only [go_sem] <;> omega) | fail)) only [go_sem, ints, bools, mat, e1, e2] | ((first | apply goIf_b | apply goG_b | apply goTG_b | apply goOG_b) <;> intro h <;> ((try simp only [Bool.not_eq_true', Bool.not_eq_false'] at h); (try simp only [h]); (try simp only [decide_eq_true_eq, decide_eq_false_iff_not, bne_iff_ne, bne_eq_false_iff_eq, beq_iff_eq, beq_eq_false_iff_ne, ne_eq, Int.not_lt, Int.not_le, Bool.and_eq_true, Bool.and_eq_false_iff, Bool.or_eq_true, Bool.or_eq_false_iff] at h)) <;> (try (exfalso; omega))))
          refine hJ2 k (by omega) (by omega) _ ?_
          simp -implicitDefEqProofs (maxSteps := 1000000) (disch := (first | omega | (simp only [go_sem] <;> omega) | fail)) only [go_sem, ints, bools, mat, e1, e2, e3]
    · have : i = l.length := by omega
      subst this
      repeat' (first | simp -implicitDefEqProofs (maxSteps := 1000000) (disch := (first | omega | (simp only [go_sem] <;> omega) | fail)) only [go_sem, ints, bools, mat] | ((first | apply goIf_b | apply goG_b | apply goTG_b | apply goOG_b) <;> intro h <;> ((try simp only [Bool.not_eq_true', Bool.not_eq_false'] at h); (try simp only [h]); (try simp only [decide_eq_true_eq, decide_eq_false_iff_not, bne_iff_ne, bne_eq_false_iff_eq, beq_iff_eq, beq_eq_false_iff_ne, ne_eq, Int.not_lt, Int.not_le, Bool.and_eq_true, Bool.and_eq_false_iff, Bool.or_eq_true, Bool.or_eq_false_iff] at h)) <;> (try (exfalso; omega))))
      refine go_loop (fun (k : Nat) => ⟨[(1, .d (di r)), (5, .sl 0 0 (l.length + 1) 1), (8, .d (di (sumN (cf l) k))), (9, .d (di k))], [some (.dat 1 ((rowS l l.length (l.length + 1)).map di))]⟩) (fun k => k ≤ l.length + 1 ∧ (k : Int) ≤ r + 1) (fun k => l.length + 1 - k) 0 ?_ ?_ ?_
      · (simp -implicitDefEqProofs (maxSteps := 1000000) (disch := (first | omega | (simp only [go_sem] <;> omega) | fail)) only [go_sem, ints, bools, mat] <;> rfl)
      · omega
      · rintro k ⟨hk, hkr⟩ J2 hJ2
        have b1 : 0 ≤ sumN (cf l) k ∧ sumN (cf l) k ≤ k * 65536 := sumN_bnd _ _ (fun j => by have := hcb l.length j; rwa [List.take_length] at this) k
        have b2 := hcb l.length k
        rw [List.take_length] at b2
        by_cases hc : k < l.length + 1 ∧ (k : Int) ≤ r
        · have e1 := rowS_end l hc.1
          obtain ⟨hc1, hc2⟩ := hc
          repeat' (first | simp -implicitDefEqProofs (maxSteps := 1000000) (disch := (first | omega | (simp only [go_sem] <;> omega) | fail)) only [go_sem, ints, bools, mat, e1] | ((first | apply goIf_b | apply goG_b | apply goTG_b | apply goOG_b) <;> intro h <;> ((try simp only [Bool.not_eq_true', Bool.not_eq_false'] at h); (try simp only [h]); (try simp only [decide_eq_true_eq, decide_eq_false_iff_not, bne_iff_ne, bne_eq_false_iff_eq, beq_iff_eq, beq_eq_false_iff_ne, ne_eq, Int.not_lt, Int.not_le, Bool.and_eq_true, Bool.and_eq_false_iff, Bool.or_eq_true, Bool.or_eq_false_iff] at h)) <;> (try (exfalso; omega))))
          refine hJ2 (k + 1) (by omega) (by omega) _ ?_
          simp -implicitDefEqProofs (maxSteps := 1000000) (disch := (first | omega | (simp only [go_sem] <;> omega) | fail)) only [go_sem, ints, bools, mat, e1]
          rfl
        · have e : sumN (cf l) k = bzM l r := by
            unfold bzM
            by_cases hk2 : k < l.length + 1
            · have : r.toNat + 1 = k := by omega
              rw [this]
            · have : k = l.length + 1 := by omega
              subst this
              exact (sumN_big (cf l) (fun j hj => cf_zero l j (by omega)) _ (by omega)).symm
          rw [e]
          repeat' (first | simp -implicitDefEqProofs (maxSteps := 1000000) (disch := (first | omega | (simp only [go_sem] <;> omega) | fail)) only [go_sem, ints, bools, mat] | ((first | apply goIf_b | apply goG_b | apply goTG_b | apply goOG_b) <;> intro h <;> ((try simp only [Bool.not_eq_true', Bool.not_eq_false'] at h); (try simp only [h]); (try simp only [decide_eq_true_eq, decide_eq_false_iff_not, bne_iff_ne, bne_eq_false_iff_eq, beq_iff_eq, beq_eq_false_iff_ne, ne_eq, Int.not_lt, Int.not_le, Bool.and_eq_true, Bool.and_eq_false_iff, Bool.or_eq_true, Bool.or_eq_false_iff] at h)) <;> (try (exfalso; omega))))
def cvL (l X : List Int) : List Bool := (allW l).map fun u => decide (u ∈ X)
@[go_sem] theorem cvL_len (l X : List Int) : (cvL l X).length = (prodM l).toNat := by simp [cvL, allW_len]
theorem cvL_get (l X : List Int) {i : Nat} (h : i < (prodM l).toNat) : (cvL l X).getD i false = decide ((i : Int) ∈ X) := by
  have h2 : i < (allW l).length := by rw [allW_len]; exact h
  have e := allW_get l h
  rw [List.getD_eq_getElem?_getD, List.getElem?_eq_getElem h2, Option.getD_some] at e
  simp [cvL, h2, e]
theorem cvL_eq {l X : List Int} {L : List Bool} (h : L.length = (prodM l).toNat) (h2 : ∀ i : Nat, i < (prodM l).toNat → L.getD i false = decide ((i : Int) ∈ X)) : L = cvL l X := by
  apply List.ext_getElem (by rw [h, cvL_len])
  intro i h3 h4
  have := h2 i (by omega)
  have e := cvL_get l X (i := i) (by omega)
  rw [List.getD_eq_getElem?_getD, List.getElem?_eq_getElem h3, Option.getD_some] at this
  rw [List.getD_eq_getElem?_getD, List.getElem?_eq_getElem h4, Option.getD_some] at e
  rw [this, e]
theorem distM_self (l : List Int) (w : Int) : distM l w w = 0 := by
  have key : ∀ a : List Int, farM a a = 0 := by
    intro a
    induction a with
    | nil => rfl
    | cons x a ih => rw [farM, if_pos rfl, ih]; rfl
  exact key _
theorem ball_self {l : List Int} {w r : Int} (hw : 0 ≤ w ∧ w < prodM l) (hr : 0 ≤ r) : w ∈ ballM l w r := by
  rw [ballM_mem, distM_self]; omega
theorem ball_in (l : List Int) (w r : Int) : inC l (ballM l w r) := fun u hu => by
  rw [ballM_mem] at hu; omega
def nearM (l : List Int) (r : Int) : List (List Int) := (allW l).map fun w => ballM l w r
@[go_sem] theorem nearM_len (l : List Int) (r : Int) : (nearM l r).length = (prodM l).toNat := by simp [nearM, allW_len]
theorem bz_pos {l : List Int} (hs : isSpaceM l = true) {r : Int} (hr : 0 ≤ r) : 1 ≤ bzM l r ∧ bzM l r ≤ prodM l := by
  have hp1 := prodM_pos (isSpaceM_szs hs)
  rw [← ball_len hs 0 hr]
  constructor
  · have := ball_self (l := l) (w := 0) (r := r) ⟨Int.le_refl _, by omega⟩ hr
    have := List.length_pos_of_mem this
    omega
  · have : (ballM l 0 r).length ≤ (prodM l).toNat := by unfold ballM; exact filter_len_le _ _ _ (by rw [allW_len]; exact Nat.le_refl _)
    omega
structure Pck (l : List Int) (r : Int) (X c : List Int) : Prop where
  nd : X.Nodup
  inX : inC l X
  len : (X.length : Int) = c.length * bzM l r
  sub : ∀ w, w ∈ c → w ∈ X
  cnd : c.Nodup
theorem Pck.nil (l : List Int) (r : Int) : Pck l r [] [] := ⟨List.nodup_nil, fun u hu => (by cases hu), by simp, fun u hu => hu, List.nodup_nil⟩
def lstF (e : Int) (v : List Int) : R := if e = 0 then .tup [.d (ints v), .d (di 0)] else .tup [.d nil, .d (di e)]
theorem and_cut (k a b : Nat) : a &&& b = (a % 2 ^ k &&& b % 2 ^ k) + 2 ^ k * (a / 2 ^ k &&& b / 2 ^ k) := by
  have h1 : (a &&& b) % 2 ^ k = a % 2 ^ k &&& b % 2 ^ k := Nat.and_mod_two_pow
  have h2 : (a &&& b) / 2 ^ k = a / 2 ^ k &&& b / 2 ^ k := Nat.and_div_two_pow
  rw [← h1, ← h2]
  exact (Nat.mod_add_div _ _).symm
def repD (m B : Nat) : Nat → Nat
  | 0 => 0
  | n + 1 => m + B * repD m B n
def popN : Nat → Nat → Nat
  | 0, _ => 0
  | n + 1, x => x % 2 + popN n (x / 2)
def dsum (B : Nat) : Nat → Nat → Nat
  | 0, _ => 0
  | n + 1, x => x % B + dsum B n (x / B)
def sw1 : Nat → Nat → Nat
  | 0, _ => 0
  | n + 1, x => (x % 2 + x / 2 % 2) + 4 * sw1 n (x / 4)
theorem sw1_ok : ∀ n x, ((x / 2) &&& repD 1 4 n) + (x &&& repD 1 4 n) = sw1 n x
  | 0, x => by simp [repD, sw1]
  | n + 1, x => by
    have ih := sw1_ok n (x / 4)
    have a1 := and_cut 2 (x / 2) (repD 1 4 (n + 1))
    have a2 := and_cut 2 x (repD 1 4 (n + 1))
    have e1 : repD 1 4 (n + 1) % 2 ^ 2 = 1 := by rw [repD]; omega
    have e2 : repD 1 4 (n + 1) / 2 ^ 2 = repD 1 4 n := by rw [repD]; omega
    rw [e1, e2, Nat.and_one_is_mod] at a1 a2
    have e3 : x / 2 / 2 ^ 2 = x / 4 / 2 := by omega
    rw [e3] at a1
    rw [show x / 2 ^ 2 = x / 4 by omega] at a2
    rw [a1, a2, sw1, ← ih]
    omega
theorem sw1_sum : ∀ n x, dsum 4 n (sw1 n x) = popN (2 * n) x
  | 0, _ => rfl
  | n + 1, x => by
    have ih := sw1_sum n (x / 4)
    have e1 : sw1 (n + 1) x % 4 = x % 2 + x / 2 % 2 := by rw [sw1]; omega
    have e2 : sw1 (n + 1) x / 4 = sw1 n (x / 4) := by rw [sw1]; omega
    rw [dsum, e1, e2, ih, show 2 * (n + 1) = 2 * n + 1 + 1 by omega, popN, popN, show x / 2 / 2 = x / 4 by omega]
    omega
def digL (B d : Nat) : Nat → Nat → Prop
  | 0, x => x = 0
  | n + 1, x => x % B ≤ d ∧ digL B d n (x / B)
theorem sw1_dig : ∀ n x, digL 4 2 n (sw1 n x)
  | 0, _ => rfl
  | n + 1, x => by
    have e1 : sw1 (n + 1) x % 4 = x % 2 + x / 2 % 2 := by rw [sw1]; omega
    have e2 : sw1 (n + 1) x / 4 = sw1 n (x / 4) := by rw [sw1]; omega
    refine ⟨by omega, ?_⟩
    rw [e2]; exact sw1_dig n _
def sw2 : Nat → Nat → Nat
  | 0, _ => 0
  | n + 1, x => (x % 4 + x / 4 % 4) + 16 * sw2 n (x / 16)
theorem and_3 (x : Nat) : x % 2 ^ 4 &&& 3 = x % 4 := by
  have := Nat.and_two_pow_sub_one_eq_mod (x % 2 ^ 4) 2
  rw [show 2 ^ 2 - 1 = 3 by decide] at this
  rw [this]; omega
theorem sw2_ok : ∀ n x, ((x / 4) &&& repD 3 16 n) + (x &&& repD 3 16 n) = sw2 n x
  | 0, x => by simp [repD, sw2]
  | n + 1, x => by
    have ih := sw2_ok n (x / 16)
    have a1 := and_cut 4 (x / 4) (repD 3 16 (n + 1))
    have a2 := and_cut 4 x (repD 3 16 (n + 1))
    have e1 : repD 3 16 (n + 1) % 2 ^ 4 = 3 := by rw [repD]; omega
    have e2 : repD 3 16 (n + 1) / 2 ^ 4 = repD 3 16 n := by rw [repD]; omega
    rw [e1, e2, and_3] at a1 a2
    have e3 : x / 4 / 2 ^ 4 = x / 16 / 4 := by omega
    rw [e3] at a1
    rw [show x / 2 ^ 4 = x / 16 by omega] at a2
    rw [a1, a2, sw2, ← ih]
    omega
theorem sw2_sum : ∀ n x, dsum 16 n (sw2 n x) = dsum 4 (2 * n) x
  | 0, _ => rfl
  | n + 1, x => by
    have ih := sw2_sum n (x / 16)
    have e1 : sw2 (n + 1) x % 16 = x % 4 + x / 4 % 4 := by rw [sw2]; omega
    have e2 : sw2 (n + 1) x / 16 = sw2 n (x / 16) := by rw [sw2]; omega
    rw [dsum, e1, e2, ih, show 2 * (n + 1) = 2 * n + 1 + 1 by omega, dsum, dsum, show x / 4 / 4 = x / 16 by omega]
    omega
theorem sw2_dig : ∀ n x, digL 4 2 (2 * n) x → digL 16 4 n (sw2 n x)
  | 0, _, _ => rfl
  | n + 1, x, h => by
    have e1 : sw2 (n + 1) x % 16 = x % 4 + x / 4 % 4 := by rw [sw2]; omega
    have e2 : sw2 (n + 1) x / 16 = sw2 n (x / 16) := by rw [sw2]; omega
    rw [show 2 * (n + 1) = 2 * n + 1 + 1 by omega] at h
    obtain ⟨h1, h2, h3⟩ := h
    rw [show x / 4 / 4 = x / 16 by omega] at h3
    refine ⟨by omega, ?_⟩
    rw [e2]; exact sw2_dig n _ h3
def sw3 : Nat → Nat → Nat
  | 0, _ => 0
  | n + 1, x => (x % 16 + x / 16 % 16) + 256 * sw3 n (x / 256)
theorem and_15 (x : Nat) : x % 2 ^ 8 &&& 15 = x % 16 := by
  have := Nat.and_two_pow_sub_one_eq_mod (x % 2 ^ 8) 4
  rw [show 2 ^ 4 - 1 = 15 by decide] at this
  rw [this]; omega
theorem dig_hd {B d n x : Nat} (h : digL B d n x) : x % B ≤ d := by
  cases n with
  | zero => have : x = 0 := h; subst this; simp
  | succ n => exact h.1
theorem sw3_ok : ∀ n x, digL 16 4 (2 * n) x → ((x / 16 + x) &&& repD 15 256 n) = sw3 n x
  | 0, x, _ => by simp [repD, sw3]
  | n + 1, x, h => by
    rw [show 2 * (n + 1) = 2 * n + 1 + 1 by omega] at h
    obtain ⟨h1, h2, h3⟩ := h
    rw [show x / 16 / 16 = x / 256 by omega] at h3
    have ih := sw3_ok n (x / 256) h3
    have h4 := dig_hd h3
    have a1 := and_cut 8 (x / 16 + x) (repD 15 256 (n + 1))
    have e1 : repD 15 256 (n + 1) % 2 ^ 8 = 15 := by rw [repD]; omega
    have e2 : repD 15 256 (n + 1) / 2 ^ 8 = repD 15 256 n := by rw [repD]; omega
    rw [e1, e2, and_15] at a1
    have hx : x / 16 = x / 16 % 16 + 16 * (x / 256) := by
      have := Nat.div_div_eq_div_mul x 16 16
      omega
    have e3 : (x / 16 + x) / 2 ^ 8 = x / 256 / 16 + x / 256 := by
      clear a1 ih h3
      have hx2 := Nat.div_add_mod x 16
      generalize x / 16 % 16 = e at *
      generalize x / 256 = d at *
      generalize x % 16 = f at *
      generalize x / 16 = g at *
      subst hx
      omega
    rw [e3, ih] at a1
    rw [a1, sw3]
    omega
theorem sw3_sum : ∀ n x, digL 16 4 (2 * n) x → dsum 256 n (sw3 n x) = dsum 16 (2 * n) x
  | 0, _, _ => rfl
  | n + 1, x, h => by
    rw [show 2 * (n + 1) = 2 * n + 1 + 1 by omega] at h
    obtain ⟨h1, h2, h3⟩ := h
    rw [show x / 16 / 16 = x / 256 by omega] at h3
    have ih := sw3_sum n (x / 256) h3
    have e1 : sw3 (n + 1) x % 256 = x % 16 + x / 16 % 16 := by rw [sw3]; omega
    have e2 : sw3 (n + 1) x / 256 = sw3 n (x / 256) := by rw [sw3]; omega
    rw [dsum, e1, e2, ih, show 2 * (n + 1) = 2 * n + 1 + 1 by omega, dsum, dsum, show x / 16 / 16 = x / 256 by omega]
    omega
theorem sw3_dig : ∀ n x, digL 16 4 (2 * n) x → digL 256 8 n (sw3 n x)
  | 0, _, _ => rfl
  | n + 1, x, h => by
    have e1 : sw3 (n + 1) x % 256 = x % 16 + x / 16 % 16 := by rw [sw3]; omega
    have e2 : sw3 (n + 1) x / 256 = sw3 n (x / 256) := by rw [sw3]; omega
    rw [show 2 * (n + 1) = 2 * n + 1 + 1 by omega] at h
    obtain ⟨h1, h2, h3⟩ := h
    rw [show x / 16 / 16 = x / 256 by omega] at h3
    refine ⟨by omega, ?_⟩
    rw [e2]; exact sw3_dig n _ h3
abbrev dg (i x : Nat) : Nat := x / 256 ^ i % 256
theorem dg_succ (i x : Nat) : dg (i + 1) x = dg i (x / 256) := by
  simp only [dg]
  rw [Nat.pow_succ, Nat.mul_comm, Nat.div_div_eq_div_mul]
theorem dg_shift {a k : Nat} (ha : 2 * a < 256) : ∀ (i x : Nat), (∀ j, dg j x ≤ a) → dg i (x + x / 256 ^ k) = dg i x + dg (i + k) x
  | 0, x, h => by
    have h0 := h 0
    have hk := h k
    simp only [dg, Nat.pow_zero, Nat.div_one, Nat.zero_add] at h0 hk ⊢
    generalize x / 256 ^ k = y at *
    omega
  | i + 1, x, h => by
    have h0 := h 0
    have hk := h k
    have ih := dg_shift (k := k) ha i (x / 256) fun j => by rw [← dg_succ]; exact h (j + 1)
    have e : (x + x / 256 ^ k) / 256 = x / 256 + x / 256 / 256 ^ k := by
      rw [Nat.div_div_eq_div_mul, Nat.mul_comm, ← Nat.div_div_eq_div_mul]
      simp only [dg, Nat.pow_zero, Nat.div_one] at h0 hk
      generalize x / 256 ^ k = y at *
      omega
    rw [dg_succ, e, ih, dg_succ, show i + 1 + k = i + k + 1 by omega, dg_succ]
theorem dig_dg {a : Nat} : ∀ (n x : Nat), digL 256 a n x → ∀ j, dg j x ≤ a
  | 0, x, h, j => by
    have : x = 0 := h
    subst this; simp [dg]
  | n + 1, x, h, 0 => by simpa [dg] using h.1
  | n + 1, x, h, j + 1 => by rw [dg_succ]; exact dig_dg n _ h.2 j
theorem dig_end {a : Nat} : ∀ (n x : Nat), digL 256 a n x → ∀ j, n ≤ j → dg j x = 0
  | 0, x, h, j, _ => by
    have : x = 0 := h
    subst this; simp [dg]
  | n + 1, x, h, 0, hj => by omega
  | n + 1, x, h, j + 1, hj => by rw [dg_succ]; exact dig_end n _ h.2 j (by omega)
theorem dig_le {a : Nat} : ∀ (n x : Nat), digL 256 a n x → x ≤ a * repD 1 256 n
  | 0, x, h => by
    have : x = 0 := h
    subst this; simp
  | n + 1, x, h => by
    have h1 := dig_le n _ h.2
    have h2 := h.1
    rw [repD, Nat.mul_add, Nat.mul_one, Nat.mul_left_comm]; omega
theorem rep4 : repD 1 256 8 = 72340172838076673 := by decide
theorem byte_sum {x : Nat} (h : digL 256 8 8 x) :
    (x + x / 256 + (x + x / 256) / 65536 + (x + x / 256 + (x + x / 256) / 65536) / 4294967296) % 128 = dsum 256 8 x ∧ x < 723401728380766731 := by
  have hd := dig_dg 8 x h
  have he := dig_end 8 x h
  have y1 := dg_shift (a := 8) (k := 1) (by omega) (x := x)
  rw [show 256 ^ 1 = 256 by decide] at y1
  have y1 := fun i => y1 i hd
  generalize hy : x + x / 256 = y at *
  have hyd : ∀ j, dg j y ≤ 16 := fun j => by have := y1 j; have := hd j; have := hd (j + 1); omega
  have z1 := dg_shift (a := 16) (k := 2) (by omega) (x := y)
  rw [show 256 ^ 2 = 65536 by decide] at z1
  have z1 := fun i => z1 i hyd
  generalize hz : y + y / 65536 = z at *
  have hzd : ∀ j, dg j z ≤ 32 := fun j => by have := z1 j; have := hyd j; have := hyd (j + 2); omega
  have w1 := dg_shift (a := 32) (k := 4) (by omega) (x := z)
  rw [show 256 ^ 4 = 4294967296 by decide] at w1
  have w1 := w1 0 hzd
  generalize hw : z + z / 4294967296 = w at *
  have hs : dsum 256 8 x = dg 0 x + (dg 1 x + (dg 2 x + (dg 3 x + (dg 4 x + (dg 5 x + (dg 6 x + dg 7 x)))))) := by
    simp only [dsum, dg_succ]
    simp [dg]
  have h8 := he 8 (by omega)
  have b := fun i => hd i
  have b0 := hd 0
  have b1 := hd 1
  have b2 := hd 2
  have b3 := hd 3
  have b4 := hd 4
  have b5 := hd 5
  have b6 := hd 6
  have b7 := hd 7
  have z0 := z1 0
  have z4 := z1 4
  have q0 := y1 0
  have q2 := y1 2
  have q4 := y1 4
  have q6 := y1 6
  have e1 : dg 0 w = dsum 256 8 x := by
    rw [hs]
    simp only [Nat.zero_add, Nat.reduceAdd] at *
    omega
  have e2 : dg 0 w = w % 256 := by simp [dg]
  have hle := dig_le 8 x h
  rw [rep4] at hle
  refine ⟨?_, by omega⟩
  rw [← e1]
  have : dg 0 w ≤ 64 := by rw [e1, hs]; omega
  omega
theorem rep1 : repD 1 4 32 = 6148914691236517205 := by decide
theorem rep2 : repD 3 16 16 = 3689348814741910323 := by decide
theorem rep3 : repD 15 256 8 = 1085102592571150095 := by decide
theorem pop_ok (x : Nat) : ∃ a b c : Nat, ((x / 2) &&& 6148914691236517205) + (x &&& 6148914691236517205) = a ∧ ((a / 4) &&& 3689348814741910323) + (a &&& 3689348814741910323) = b ∧ ((b / 16 + b) &&& 1085102592571150095) = c ∧
    (c + c / 256 + (c + c / 256) / 65536 + (c + c / 256 + (c + c / 256) / 65536) / 4294967296) % 128 = popN 64 x ∧ c < 723401728380766731 ∧ b < 4919131752989213765 ∧ a < 12297829382473034411 := by
  have h1 := sw1_ok 32 x
  have h2 := sw2_ok 16 (sw1 32 x)
  have d1 := sw1_dig 32 x
  have d2 := sw2_dig 16 _ d1
  have h3 := sw3_ok 8 _ d2
  have d3 := sw3_dig 8 _ d2
  rw [rep1] at h1
  rw [rep2] at h2
  rw [rep3] at h3
  obtain ⟨h4, h5⟩ := byte_sum d3
  refine ⟨_, _, _, h1, h2, h3, ?_, h5, ?_, ?_⟩
  · rw [h4, sw3_sum 8 _ d2, sw2_sum 16, sw1_sum 32]
  · have q1 : (sw1 32 x / 4) &&& 3689348814741910323 ≤ 3689348814741910323 := Nat.and_le_right
    have key : ∀ n y, digL 16 4 n y → 3 * y ≤ 4 * repD 3 16 n := by
      intro n
      induction n with
      | zero => intro y h; have : y = 0 := h; subst this; simp
      | succ n ih =>
        intro y h
        have := ih _ h.2
        have := h.1
        rw [repD]; omega
    have := key 16 _ d2
    rw [rep2] at this; omega
  · have key : ∀ n y, digL 4 2 n y → y ≤ 2 * repD 1 4 n := by
      intro n
      induction n with
      | zero => intro y h; have : y = 0 := h; subst this; simp
      | succ n ih =>
        intro y h
        have := ih _ h.2
        have := h.1
        rw [repD]; omega
    have := key 32 _ d1
    rw [rep1] at this; omega
theorem binA_and127 {n : Nat} (h : n < 4611686018427387904) : binA .and (.d (.v (.int .i64 n))) (.d (.v (.int .i64 127))) = some (.d (di ((n % 128 : Nat) : Int))) := by
  have e1 : (BitVec.ofInt 64 (n : Int)).toNat = n := by rw [BitVec.toNat_ofInt]; omega
  have e2 : (BitVec.ofInt 64 127).toNat = 127 := by decide
  have e3 : (BitVec.ofInt 64 (n : Int) &&& BitVec.ofInt 64 127).toNat = n % 128 := by
    rw [BitVec.toNat_and, e1, e2]; exact Nat.and_two_pow_sub_one_eq_mod n 7
  have e4 : binI .and .i64 (n : Int) 127 = some (.int .i64 (IntKind.wrap .i64 ((BitVec.ofInt 64 (n : Int) &&& BitVec.ofInt 64 127).toNat : Nat))) := rfl
  simp only [binA, e4, BinOp.isShift, or_true, if_true, e3, Option.map_some]
  rw [wrap64 (by omega) (by omega)]
theorem nd2 (x : Nat) : (x : Int) / 2 = ((x / 2 : Nat) : Int) := by omega
theorem nd4 (x : Nat) : (x : Int) / 4 = ((x / 4 : Nat) : Int) := by omega
theorem nd16 (x : Nat) : (x : Int) / 16 = ((x / 16 : Nat) : Int) := by omega
theorem nd256 (x : Nat) : (x : Int) / 256 = ((x / 256 : Nat) : Int) := by omega
theorem nd65536 (x : Nat) : (x : Int) / 65536 = ((x / 65536 : Nat) : Int) := by omega
theorem nd32 (x : Nat) : (x : Int) / 4294967296 = ((x / 4294967296 : Nat) : Int) := by omega
theorem nadd (a b : Nat) : (a : Int) + (b : Int) = ((a + b : Nat) : Int) := by omega
theorem d_OnesCount64_64 (x : Nat) (hx : x < 18446744073709551616) : Den PA f_math_bits_OnesCount64 [.d (.v (.int .u64 x))] [.any] (.d (di (popN 64 x))) := by
  obtain ⟨a, b, c, h1, h2, h3, h4, h5, h6, h7⟩ := pop_ok x
  have h8 : b / 16 + b < 18446744073709551616 := by omega
  refine den_go [] l_math_bits_OnesCount64 ?_
  simp -implicitDefEqProofs (maxSteps := 1000000) (disch := (first | omega | (simp only [go_sem] <;> omega) | fail)) only [go_sem, ints, bools, mat, c_math_bits_OnesCount64, binA_shr_u, binA_and_u, binA_add_u, Int.reduceToNat, Int.reducePow, nd2, nd4, nd16, nd256, nd65536, nd32, nadd, h1, h2, h3, Int.toNat_natCast, binA_and127, h4]
def mkL : List Bool → Nat
  | [] => 0
  | b :: r => (if b = true then 1 else 0) + 2 * mkL r
theorem mkL_lt : ∀ L : List Bool, mkL L < 2 ^ L.length
  | [] => by simp [mkL]
  | b :: r => by
    have := mkL_lt r
    rw [mkL, List.length_cons, Nat.pow_succ]
    cases b <;> simp <;> omega
theorem mkL_bit : ∀ (L : List Bool) (i : Nat), (mkL L).testBit i = L.getD i false
  | [], i => by simp [mkL]
  | b :: r, 0 => by
    rw [mkL, Nat.testBit_zero]
    cases b <;> simp <;> omega
  | b :: r, i + 1 => by
    have e : ((if b = true then 1 else 0) + 2 * mkL r) / 2 = mkL r := by cases b <;> simp <;> omega
    rw [mkL, Nat.testBit_succ, e, mkL_bit r i]; simp
theorem mkL_pop : ∀ (n : Nat) (L : List Bool), L.length ≤ n → popN n (mkL L) = (L.filter id).length
  | 0, L, h => by
    have : L = [] := List.eq_nil_of_length_eq_zero (by omega)
    subst this; rfl
  | n + 1, [], h => by
    have := mkL_pop n [] (by simp)
    rw [mkL] at this
    rw [mkL, popN]
    simpa using this
  | n + 1, b :: r, h => by
    have ih := mkL_pop n r (by simpa using h)
    have e : ((if b = true then 1 else 0) + 2 * mkL r) / 2 = mkL r := by cases b <;> simp <;> omega
    have e2 : ((if b = true then 1 else 0) + 2 * mkL r) % 2 = if b = true then 1 else 0 := by cases b <;> simp <;> omega
    rw [mkL, popN, e, e2, ih]
    cases b <;> simp; omega
abbrev wsN (l X : List Int) : Nat := mkL (cvL l X)
theorem wsN_lt {l : List Int} (h27 : prodM l ≤ 27) (X : List Int) : wsN l X < 134217728 := by
  have h1 := mkL_lt (cvL l X)
  rw [cvL_len] at h1
  have h2 : 2 ^ (prodM l).toNat ≤ 2 ^ 27 := Nat.pow_le_pow_right (by omega) (by omega)
  have h3 : (2 : Nat) ^ 27 = 134217728 := by decide
  show mkL (cvL l X) < 134217728
  omega
theorem wsN_bit (l X : List Int) (i : Nat) : (wsN l X).testBit i = decide (i < (prodM l).toNat ∧ (i : Int) ∈ X) := by
  rw [mkL_bit]
  by_cases h : i < (prodM l).toNat
  · rw [cvL_get l X h]; simp [h]
  · rw [List.getD_eq_getElem?_getD, List.getElem?_eq_none (by rw [cvL_len]; omega)]; simp [h]
theorem wsN_or (l X Y : List Int) : wsN l X ||| wsN l Y = wsN l (X ++ Y) := by
  apply Nat.eq_of_testBit_eq
  intro i
  rw [Nat.testBit_or, wsN_bit, wsN_bit, wsN_bit, Bool.eq_iff_iff]
  simp only [Bool.or_eq_true, decide_eq_true_eq, List.mem_append]
  exact ⟨fun h => h.elim (fun h => ⟨h.1, .inl h.2⟩) fun h => ⟨h.1, .inr h.2⟩, fun h => h.2.elim (fun q => .inl ⟨h.1, q⟩) fun q => .inr ⟨h.1, q⟩⟩
theorem wsN_one {l : List Int} {u : Int} (hu : 0 ≤ u ∧ u < prodM l) : 2 ^ u.toNat = wsN l [u] := by
  apply Nat.eq_of_testBit_eq
  intro i
  rw [wsN_bit, Nat.testBit_two_pow, Bool.eq_iff_iff, decide_eq_true_eq, decide_eq_true_eq, List.mem_singleton]
  omega
theorem wsN_nil (l : List Int) : wsN l [] = 0 := by
  apply Nat.eq_of_testBit_eq
  intro i
  rw [wsN_bit]; simp
theorem mkL_all : ∀ n, mkL (List.replicate n true) + 1 = 2 ^ n
  | 0 => rfl
  | n + 1 => by
    have := mkL_all n
    rw [List.replicate_succ, mkL, Nat.pow_succ, if_pos rfl]; omega
theorem wsN_all (l : List Int) : wsN l (allW l) + 1 = 2 ^ (prodM l).toNat := by
  have e : List.replicate (prodM l).toNat true = cvL l (allW l) := cvL_eq (by rw [List.length_replicate]) fun i hi => by
    rw [List.getD_eq_getElem?_getD, List.getElem?_replicate, if_pos hi, Option.getD_some]
    symm; rw [decide_eq_true_eq, allW_mem]; omega
  rw [← mkL_all, e]
theorem binA_or_u {a b : Int} (h : 0 ≤ a) (h1 : a < 18446744073709551616) (h2 : 0 ≤ b) (h3 : b < 18446744073709551616) :
    binA .or (.d (.v (.int .u64 a))) (.d (.v (.int .u64 b))) = some (.d (.v (.int .u64 ((a.toNat ||| b.toNat : Nat) : Int)))) := by
  have e : (BitVec.ofInt 64 a ||| BitVec.ofInt 64 b).toNat = a.toNat ||| b.toNat := by rw [BitVec.toNat_or, ofInt_nat_u h h1, ofInt_nat_u h2 h3]
  have hl : a.toNat ||| b.toNat < 18446744073709551616 := by
    have := @Nat.or_lt_two_pow a.toNat b.toNat 64 (by omega) (by omega)
    omega
  have e2 : binI .or .u64 a b = some (.int .u64 (IntKind.wrap .u64 ((BitVec.ofInt 64 a ||| BitVec.ofInt 64 b).toNat : Nat))) := rfl
  simp only [binA, e2, BinOp.isShift, or_true, if_true, e, Option.map_some, wrap_u64 (x := ((a.toNat ||| b.toNat : Nat) : Int)) (by omega) (by omega)]
theorem binA_shl_u {k : IntKind} {b : Int} (h : 0 ≤ b) (h' : b ≤ 62) : binA .shl (.d (.v (.int .u64 1))) (.d (.v (.int k b))) = some (.d (.v (.int .u64 ((2 ^ b.toNat : Nat) : Int)))) := by
  have e : min b.toNat 64 = b.toNat := by omega
  have h1 : (2 : Nat) ^ b.toNat ≤ 2 ^ 62 := Nat.pow_le_pow_right (by omega) (by omega)
  have h2 : (2 : Nat) ^ 62 = 4611686018427387904 := by decide
  have h3 : (2 : Int) ^ b.toNat = ((2 ^ b.toNat : Nat) : Int) := by rw [Int.natCast_pow]; rfl
  have e2 : binI .shl .u64 1 b = some (.int .u64 (IntKind.wrap .u64 (1 * 2 ^ min b.toNat 64))) := by
    simp only [binI, if_neg (show ¬ b < 0 by omega)]; rfl
  simp only [binA, e2, BinOp.isShift, true_or, if_true, e, Option.map_some, Int.one_mul]
  rw [h3]
  rw [h2] at h1
  clear h3 e2 e
  generalize (2 : Nat) ^ b.toNat = n at *
  rw [wrap_u64 (x := (n : Int)) (by omega) (by omega)]
theorem or_b (l X Y : List Int) (h27 : prodM l ≤ 27) : binA .or (.d (.v (.int .u64 (wsN l X : Int)))) (.d (.v (.int .u64 (wsN l Y : Int)))) = some (.d (.v (.int .u64 (wsN l (X ++ Y) : Int)))) := by
  have h1 := wsN_lt h27 X
  have h2 := wsN_lt h27 Y
  rw [binA_or_u (by omega) (by omega) (by omega) (by omega), Int.toNat_natCast, Int.toNat_natCast, wsN_or]
def duN (n : Nat) : D := .v (.int .u64 n)
@[go_sem] theorem flat_du (l : List Nat) : flat (l.map duN) = l.map duN := flat_one _ l
@[go_sem] theorem getU {l : List Nat} {j : Nat} (h : j < l.length) : (l.map duN)[j]? = some (duN (l.getD j 0)) := by simp [h]
@[go_sem] theorem app_du1 (l : List Nat) (v : Nat) : l.map duN ++ [D.v (.int .u64 (v : Int))] = (l ++ [v]).map duN := by rw [List.map_append]; rfl
@[go_sem] theorem take_du (l : List Nat) (n : Nat) : (l.map duN).take n = (l.take n).map duN := by rw [List.map_take]
@[go_sem] theorem duN_v (n : Nat) : duN n = .v (.int .u64 n) := rfl
@[go_sem] theorem lf_own_du (z : Nat) (l : List Nat) : lfR (.own z (l.map duN)) = true := by simp [lfR, lfD, duN]
@[go_sem] theorem all_lf_du (l : List Nat) : (l.map duN).all lfD = true := by simp [lfD, duN]
def nearB (l : List Int) (r : Int) : List Nat := (allW l).map fun w => wsN l (ballM l w r)
@[go_sem] theorem nearB_len (l : List Int) (r : Int) : (nearB l r).length = (prodM l).toNat := by simp [nearB, allW_len]
theorem nearB_get {l : List Int} (r : Int) {w : Int} (h : 0 ≤ w ∧ w < prodM l) : (nearB l r).getD w.toNat 0 = wsN l (ballM l w r) := by
  have h2 : w.toNat < (allW l).length := by rw [allW_len]; omega
  have e := allW_get l (i := w.toNat) (by omega)
  rw [List.getD_eq_getElem?_getD, List.getElem?_eq_getElem h2, Option.getD_some] at e
  simp [nearB, h2, e, Int.toNat_of_nonneg h.1]
theorem nearB_take (l : List Int) (r : Int) {j : Nat} (h : j < (prodM l).toNat) : (nearB l r).take (j + 1) = (nearB l r).take j ++ [wsN l (ballM l j r)] := by
  have e := nearB_get (l := l) r (w := (j : Int)) (by omega)
  rw [Int.toNat_natCast] at e
  have h2 : j < (nearB l r).length := by rw [nearB_len]; exact h
  rw [List.take_add_one, List.getElem?_eq_getElem h2]
  rw [List.getD_eq_getElem?_getD, List.getElem?_eq_getElem h2, Option.getD_some] at e
  rw [e]; rfl
theorem d_impl_nearSets (l : List Int) (hs : isSpaceM l = true) (h27 : prodM l ≤ 27) (r : Int) : Den PA f_impl_nearSets [.d (.agg [ints l]), .d (di r)] [.any, .any] (.own 1 ((nearB l r).map duN)) := by
  have hp1 := prodM_pos (isSpaceM_szs hs)
  refine den_go [] l_impl_nearSets ?_
  repeat' (first | simp -implicitDefEqProofs (maxSteps := 1000000) (disch := (first | omega | (simp only [go_sem] <;> omega) | fail)) only [go_sem, ints, bools, mat, c_impl_nearSets] | ((first | apply goIf_b | apply goG_b | apply goTG_b | apply goOG_b) <;> intro h <;> ((try simp only [Bool.not_eq_true', Bool.not_eq_false'] at h); (try simp only [h]); (try simp only [decide_eq_true_eq, decide_eq_false_iff_not, bne_iff_ne, bne_eq_false_iff_eq, beq_iff_eq, beq_eq_false_iff_ne, ne_eq, Int.not_lt, Int.not_le, Bool.and_eq_true, Bool.and_eq_false_iff, Bool.or_eq_true, Bool.or_eq_false_iff] at h)) <;> (try (exfalso; omega))))
  first | refine goC_call [.r] (d_impl_count l hs) ?_ | refine goOC_call [.r] (d_impl_count l hs) ?_
  repeat' (first | simp -implicitDefEqProofs (maxSteps := 1000000) (disch := (first | omega | (simp only [go_sem] <;> omega) | fail)) only [go_sem, ints, bools, mat] | ((first | apply goIf_b | apply goG_b | apply goTG_b | apply goOG_b) <;> intro h <;> ((try simp only [Bool.not_eq_true', Bool.not_eq_false'] at h); (try simp only [h]); (try simp only [decide_eq_true_eq, decide_eq_false_iff_not, bne_iff_ne, bne_eq_false_iff_eq, beq_iff_eq, beq_eq_false_iff_ne, ne_eq, Int.not_lt, Int.not_le, Bool.and_eq_true, Bool.and_eq_false_iff, Bool.or_eq_true, Bool.or_eq_false_iff] at h)) <;> (try (exfalso; omega))))
  refine go_loop (fun (j : Nat) => ⟨[(1, .d (di r)), (2, .ref 0 0), (5, .sl 1 0 j 1), (12, .d (di (prodM l))), (13, .d (di j))], [some (.var [ints l]), some (.dat 1 (((nearB l r).take j).map duN))]⟩) (fun j => j ≤ (prodM l).toNat) (fun j => (prodM l).toNat - j) 0 ?_ ?_ ?_
  · simp -implicitDefEqProofs (maxSteps := 1000000) (disch := (first | omega | (simp only [go_sem] <;> omega) | fail)) only [go_sem, ints, bools, mat]
  · exact Nat.zero_le _
  · intro j hj J hJ
    by_cases hjl : j < (prodM l).toNat
    · have hB := ball_in l j r
      have hBl : (ballM l j r).length ≤ (prodM l).toNat := by unfold ballM; exact filter_len_le _ _ _ (by rw [allW_len]; exact Nat.le_refl _)
      have e := nearB_take l r hjl
      repeat' (first | simp -implicitDefEqProofs (maxSteps := 1000000) (disch := (first | omega | (simp only [go_sem] <;> omega) | fail)) only [go_sem, ints, bools, mat] | ((first | apply goIf_b | apply goG_b | apply goTG_b | apply goOG_b) <;> intro h <;> ((try simp only [Bool.not_eq_true', Bool.not_eq_false'] at h); (try simp only [h]); (try simp only [decide_eq_true_eq, decide_eq_false_iff_not, bne_iff_ne, bne_eq_false_iff_eq, beq_iff_eq, beq_eq_false_iff_ne, ne_eq, Int.not_lt, Int.not_le, Bool.and_eq_true, Bool.and_eq_false_iff, Bool.or_eq_true, Bool.or_eq_false_iff] at h)) <;> (try (exfalso; omega))))
      first | refine goC_call [.r, .r, .r] (d_impl_ball l hs j r (by omega) (by omega)) ?_ | refine goOC_call [.r, .r, .r] (d_impl_ball l hs j r (by omega) (by omega)) ?_
      generalize ballM l j r = B at *
      repeat' (first | simp -implicitDefEqProofs (maxSteps := 1000000) (disch := (first | omega | (simp only [go_sem] <;> omega) | fail)) only [go_sem, ints, bools, mat] | ((first | apply goIf_b | apply goG_b | apply goTG_b | apply goOG_b) <;> intro h <;> ((try simp only [Bool.not_eq_true', Bool.not_eq_false'] at h); (try simp only [h]); (try simp only [decide_eq_true_eq, decide_eq_false_iff_not, bne_iff_ne, bne_eq_false_iff_eq, beq_iff_eq, beq_eq_false_iff_ne, ne_eq, Int.not_lt, Int.not_le, Bool.and_eq_true, Bool.and_eq_false_iff, Bool.or_eq_true, Bool.or_eq_false_iff] at h)) <;> (try (exfalso; omega))))
      refine go_loop (fun (k : Nat) => ⟨[(1, .d (di r)), (2, .ref 0 0), (5, .sl 1 0 j 1), (7, .d (.v (.int .u64 (wsN l (B.take k) : Int)))), (12, .d (di (prodM l))), (13, .d (di j)), (19, .sl 2 0 B.length 1), (20, .d (di B.length)), (21, .d (di k))], [some (.var [ints l]), some (.dat 1 (((nearB l r).take j).map duN)), some (.dat 1 (B.map di))]⟩) (fun k => k ≤ B.length) (fun k => B.length - k) 0 ?_ ?_ ?_
      · simp -implicitDefEqProofs (maxSteps := 1000000) (disch := (first | omega | (simp only [go_sem] <;> omega) | fail)) only [go_sem, ints, bools, mat, List.take_zero, wsN_nil]
      · exact Nat.zero_le _
      · intro k hk J2 hJ2
        by_cases hkl : k < B.length
        · have hub := inC_get hB k hkl
          have e1 := wsN_one (l := l) hub
          have e2 := take_one B hkl
          have e3 := or_b l (B.take k) [B.getD k 0] h27
          rw [← e2] at e3
          repeat' (first | simp -implicitDefEqProofs (maxSteps := 1000000) (disch := (first | omega | (simp only [go_sem] <;> omega) | fail)) only [go_sem, ints, bools, mat, binA_shl_u, e1, e3] | ((first | apply goIf_b | apply goG_b | apply goTG_b | apply goOG_b) <;> intro h <;> ((try simp only [Bool.not_eq_true', Bool.not_eq_false'] at h); (try simp only [h]); (try simp only [decide_eq_true_eq, decide_eq_false_iff_not, bne_iff_ne, bne_eq_false_iff_eq, beq_iff_eq, beq_eq_false_iff_ne, ne_eq, Int.not_lt, Int.not_le, Bool.and_eq_true, Bool.and_eq_false_iff, Bool.or_eq_true, Bool.or_eq_false_iff] at h)) <;> (try (exfalso; omega))))
          refine hJ2 (k + 1) (by omega) (by omega) _ ?_
          simp -implicitDefEqProofs (maxSteps := 1000000) (disch := (first | omega | (simp only [go_sem] <;> omega) | fail)) only [go_sem, ints, bools, mat]
          rfl
        · have hke : k = B.length := by omega
          subst hke
          repeat' (first | simp -implicitDefEqProofs (maxSteps := 1000000) (disch := (first | omega | (simp only [go_sem] <;> omega) | fail)) only [go_sem, ints, bools, mat, List.take_length] | ((first | apply goIf_b | apply goG_b | apply goTG_b | apply goOG_b) <;> intro h <;> ((try simp only [Bool.not_eq_true', Bool.not_eq_false'] at h); (try simp only [h]); (try simp only [decide_eq_true_eq, decide_eq_false_iff_not, bne_iff_ne, bne_eq_false_iff_eq, beq_iff_eq, beq_eq_false_iff_ne, ne_eq, Int.not_lt, Int.not_le, Bool.and_eq_true, Bool.and_eq_false_iff, Bool.or_eq_true, Bool.or_eq_false_iff] at h)) <;> (try (exfalso; omega))))
          refine hJ (j + 1) (by omega) (by omega) _ ?_
          simp -implicitDefEqProofs (maxSteps := 1000000) (disch := (first | omega | (simp only [go_sem] <;> omega) | fail)) only [go_sem, ints, bools, mat, e]
          rfl
    · have hje : j = (prodM l).toNat := by omega
      subst hje
      have el : (nearB l r).take (prodM l).toNat = nearB l r := by rw [← nearB_len l r, List.take_length]
      repeat' (first | simp -implicitDefEqProofs (maxSteps := 1000000) (disch := (first | omega | (simp only [go_sem] <;> omega) | fail)) only [go_sem, ints, bools, mat, el] | ((first | apply goIf_b | apply goG_b | apply goTG_b | apply goOG_b) <;> intro h <;> ((try simp only [Bool.not_eq_true', Bool.not_eq_false'] at h); (try simp only [h]); (try simp only [decide_eq_true_eq, decide_eq_false_iff_not, bne_iff_ne, bne_eq_false_iff_eq, beq_iff_eq, beq_eq_false_iff_ne, ne_eq, Int.not_lt, Int.not_le, Bool.and_eq_true, Bool.and_eq_false_iff, Bool.or_eq_true, Bool.or_eq_false_iff] at h)) <;> (try (exfalso; omega))))
def srB : Option (List Int) → Bool
  | none => false
  | some _ => true
def srL (c : List Int) : Option (List Int) → List Int
  | none => c
  | some L => c ++ L
def scE (l : List Int) (n lo hi : Int) : Int := if isSpaceM l = true then (if lo ≤ n ∧ n ≤ hi then (if prodM l ≤ 27 then 0 else 3) else 2) else 1
theorem scE_ok {l : List Int} {n lo hi : Int} (h : scE l n lo hi = 0) : isSpaceM l = true ∧ (lo ≤ n ∧ n ≤ hi) ∧ prodM l ≤ 27 := by
  unfold scE at h
  split at h
  · rename_i h1
    split at h
    · rename_i h2
      split at h
      · rename_i h3; exact ⟨h1, h2, h3⟩
      · omega
    · omega
  · omega
theorem d_impl_soughtCode (l : List Int) (hl : l.length < 1048577) (n lo hi : Int) : Den PA f_impl_soughtCode [.d (.agg [ints l]), .d (di n), .d (di lo), .d (di hi)] [.any, .any, .any, .any] (.d (di (scE l n lo hi))) := by
  refine den_go [] l_impl_soughtCode ?_
  repeat' (first | simp -implicitDefEqProofs (maxSteps := 1000000) (disch := (first | omega | (simp only [go_sem] <;> omega) | fail)) only [go_sem, ints, bools, mat, c_impl_soughtCode] | ((first | apply goIf_b | apply goG_b | apply goTG_b | apply goOG_b) <;> intro h <;> ((try simp only [Bool.not_eq_true', Bool.not_eq_false'] at h); (try simp only [h]); (try simp only [decide_eq_true_eq, decide_eq_false_iff_not, bne_iff_ne, bne_eq_false_iff_eq, beq_iff_eq, beq_eq_false_iff_ne, ne_eq, Int.not_lt, Int.not_le, Bool.and_eq_true, Bool.and_eq_false_iff, Bool.or_eq_true, Bool.or_eq_false_iff] at h)) <;> (try (exfalso; omega))))
  first | refine goC_call [.r] (d_impl_IsSpace l hl) ?_ | refine goOC_call [.r] (d_impl_IsSpace l hl) ?_
  by_cases h1 : isSpaceM l = true
  · rw [h1]
    by_cases h2 : lo ≤ n ∧ n ≤ hi
    · obtain ⟨h2, h3⟩ := h2
      repeat' (first | simp -implicitDefEqProofs (maxSteps := 1000000) (disch := (first | omega | (simp only [go_sem] <;> omega) | fail)) only [go_sem, ints, bools, mat] | ((first | apply goIf_b | apply goG_b | apply goTG_b | apply goOG_b) <;> intro h <;> ((try simp only [Bool.not_eq_true', Bool.not_eq_false'] at h); (try simp only [h]); (try simp only [decide_eq_true_eq, decide_eq_false_iff_not, bne_iff_ne, bne_eq_false_iff_eq, beq_iff_eq, beq_eq_false_iff_ne, ne_eq, Int.not_lt, Int.not_le, Bool.and_eq_true, Bool.and_eq_false_iff, Bool.or_eq_true, Bool.or_eq_false_iff] at h)) <;> (try (exfalso; omega))))
      first | refine goC_call [.r] (d_impl_count l h1) ?_ | refine goOC_call [.r] (d_impl_count l h1) ?_
      by_cases h4 : prodM l ≤ 27
      · rw [scE, if_pos h1, if_pos ⟨h2, h3⟩, if_pos h4]
        repeat' (first | simp -implicitDefEqProofs (maxSteps := 1000000) (disch := (first | omega | (simp only [go_sem] <;> omega) | fail)) only [go_sem, ints, bools, mat] | ((first | apply goIf_b | apply goG_b | apply goTG_b | apply goOG_b) <;> intro h <;> ((try simp only [Bool.not_eq_true', Bool.not_eq_false'] at h); (try simp only [h]); (try simp only [decide_eq_true_eq, decide_eq_false_iff_not, bne_iff_ne, bne_eq_false_iff_eq, beq_iff_eq, beq_eq_false_iff_ne, ne_eq, Int.not_lt, Int.not_le, Bool.and_eq_true, Bool.and_eq_false_iff, Bool.or_eq_true, Bool.or_eq_false_iff] at h)) <;> (try (exfalso; omega))))
      · rw [scE, if_pos h1, if_pos ⟨h2, h3⟩, if_neg h4]
        repeat' (first | simp -implicitDefEqProofs (maxSteps := 1000000) (disch := (first | omega | (simp only [go_sem] <;> omega) | fail)) only [go_sem, ints, bools, mat] | ((first | apply goIf_b | apply goG_b | apply goTG_b | apply goOG_b) <;> intro h <;> ((try simp only [Bool.not_eq_true', Bool.not_eq_false'] at h); (try simp only [h]); (try simp only [decide_eq_true_eq, decide_eq_false_iff_not, bne_iff_ne, bne_eq_false_iff_eq, beq_iff_eq, beq_eq_false_iff_ne, ne_eq, Int.not_lt, Int.not_le, Bool.and_eq_true, Bool.and_eq_false_iff, Bool.or_eq_true, Bool.or_eq_false_iff] at h)) <;> (try (exfalso; omega))))
    · rw [scE, if_pos h1, if_neg h2]
      repeat' (first | simp -implicitDefEqProofs (maxSteps := 1000000) (disch := (first | omega | (simp only [go_sem] <;> omega) | fail)) only [go_sem, ints, bools, mat] | ((first | apply goIf_b | apply goG_b | apply goTG_b | apply goOG_b) <;> intro h <;> ((try simp only [Bool.not_eq_true', Bool.not_eq_false'] at h); (try simp only [h]); (try simp only [decide_eq_true_eq, decide_eq_false_iff_not, bne_iff_ne, bne_eq_false_iff_eq, beq_iff_eq, beq_eq_false_iff_ne, ne_eq, Int.not_lt, Int.not_le, Bool.and_eq_true, Bool.and_eq_false_iff, Bool.or_eq_true, Bool.or_eq_false_iff] at h)) <;> (try (exfalso; omega))))
  · have h2 : isSpaceM l = false := by simpa using h1
    rw [scE, if_neg h1, h2]
    repeat' (first | simp -implicitDefEqProofs (maxSteps := 1000000) (disch := (first | omega | (simp only [go_sem] <;> omega) | fail)) only [go_sem, ints, bools, mat] | ((first | apply goIf_b | apply goG_b | apply goTG_b | apply goOG_b) <;> intro h <;> ((try simp only [Bool.not_eq_true', Bool.not_eq_false'] at h); (try simp only [h]); (try simp only [decide_eq_true_eq, decide_eq_false_iff_not, bne_iff_ne, bne_eq_false_iff_eq, beq_iff_eq, beq_eq_false_iff_ne, ne_eq, Int.not_lt, Int.not_le, Bool.and_eq_true, Bool.and_eq_false_iff, Bool.or_eq_true, Bool.or_eq_false_iff] at h)) <;> (try (exfalso; omega))))
theorem d_spec_l04Sought (l : List Int) (hl : l.length < 1048577) (n lo hi : Int) : Den PA f_spec_l04Sought [.d (.agg [ints l]), .d (di n), .d (di lo), .d (di hi)] [.any, .any, .any, .any] (.d (di (scE l n lo hi))) := by
  refine den_go [] l_spec_l04Sought ?_
  repeat' (first | simp -implicitDefEqProofs (maxSteps := 1000000) (disch := (first | omega | (simp only [go_sem] <;> omega) | fail)) only [go_sem, ints, bools, mat, c_spec_l04Sought] | ((first | apply goIf_b | apply goG_b | apply goTG_b | apply goOG_b) <;> intro h <;> ((try simp only [Bool.not_eq_true', Bool.not_eq_false'] at h); (try simp only [h]); (try simp only [decide_eq_true_eq, decide_eq_false_iff_not, bne_iff_ne, bne_eq_false_iff_eq, beq_iff_eq, beq_eq_false_iff_ne, ne_eq, Int.not_lt, Int.not_le, Bool.and_eq_true, Bool.and_eq_false_iff, Bool.or_eq_true, Bool.or_eq_false_iff] at h)) <;> (try (exfalso; omega))))
  have hc := d_spec_l04Code l hl n lo hi
  by_cases h1 : isSpaceM l = true
  · by_cases h2 : lo ≤ n ∧ n ≤ hi
    · rw [if_pos h1, if_pos h2] at hc
      first | refine goC_call [.r, .r, .r, .r] (hc) ?_ | refine goOC_call [.r, .r, .r, .r] (hc) ?_
      have hn := isSpaceM_n h1
      repeat' (first | simp -implicitDefEqProofs (maxSteps := 1000000) (disch := (first | omega | (simp only [go_sem] <;> omega) | fail)) only [go_sem, ints, bools, mat] | ((first | apply goIf_b | apply goG_b | apply goTG_b | apply goOG_b) <;> intro h <;> ((try simp only [Bool.not_eq_true', Bool.not_eq_false'] at h); (try simp only [h]); (try simp only [decide_eq_true_eq, decide_eq_false_iff_not, bne_iff_ne, bne_eq_false_iff_eq, beq_iff_eq, beq_eq_false_iff_ne, ne_eq, Int.not_lt, Int.not_le, Bool.and_eq_true, Bool.and_eq_false_iff, Bool.or_eq_true, Bool.or_eq_false_iff] at h)) <;> (try (exfalso; omega))))
      first | refine goC_call [.r] (d_spec_l01N l (by omega) (isSpaceM_q h1)) ?_ | refine goOC_call [.r] (d_spec_l01N l (by omega) (isSpaceM_q h1)) ?_
      by_cases h4 : prodM l ≤ 27
      · rw [scE, if_pos h1, if_pos h2, if_pos h4]
        repeat' (first | simp -implicitDefEqProofs (maxSteps := 1000000) (disch := (first | omega | (simp only [go_sem] <;> omega) | fail)) only [go_sem, ints, bools, mat] | ((first | apply goIf_b | apply goG_b | apply goTG_b | apply goOG_b) <;> intro h <;> ((try simp only [Bool.not_eq_true', Bool.not_eq_false'] at h); (try simp only [h]); (try simp only [decide_eq_true_eq, decide_eq_false_iff_not, bne_iff_ne, bne_eq_false_iff_eq, beq_iff_eq, beq_eq_false_iff_ne, ne_eq, Int.not_lt, Int.not_le, Bool.and_eq_true, Bool.and_eq_false_iff, Bool.or_eq_true, Bool.or_eq_false_iff] at h)) <;> (try (exfalso; omega))))
      · rw [scE, if_pos h1, if_pos h2, if_neg h4]
        repeat' (first | simp -implicitDefEqProofs (maxSteps := 1000000) (disch := (first | omega | (simp only [go_sem] <;> omega) | fail)) only [go_sem, ints, bools, mat] | ((first | apply goIf_b | apply goG_b | apply goTG_b | apply goOG_b) <;> intro h <;> ((try simp only [Bool.not_eq_true', Bool.not_eq_false'] at h); (try simp only [h]); (try simp only [decide_eq_true_eq, decide_eq_false_iff_not, bne_iff_ne, bne_eq_false_iff_eq, beq_iff_eq, beq_eq_false_iff_ne, ne_eq, Int.not_lt, Int.not_le, Bool.and_eq_true, Bool.and_eq_false_iff, Bool.or_eq_true, Bool.or_eq_false_iff] at h)) <;> (try (exfalso; omega))))
    · rw [if_pos h1, if_neg h2] at hc
      first | refine goC_call [.r, .r, .r, .r] (hc) ?_ | refine goOC_call [.r, .r, .r, .r] (hc) ?_
      rw [scE, if_pos h1, if_neg h2]
      repeat' (first | simp -implicitDefEqProofs (maxSteps := 1000000) (disch := (first | omega | (simp only [go_sem] <;> omega) | fail)) only [go_sem, ints, bools, mat] | ((first | apply goIf_b | apply goG_b | apply goTG_b | apply goOG_b) <;> intro h <;> ((try simp only [Bool.not_eq_true', Bool.not_eq_false'] at h); (try simp only [h]); (try simp only [decide_eq_true_eq, decide_eq_false_iff_not, bne_iff_ne, bne_eq_false_iff_eq, beq_iff_eq, beq_eq_false_iff_ne, ne_eq, Int.not_lt, Int.not_le, Bool.and_eq_true, Bool.and_eq_false_iff, Bool.or_eq_true, Bool.or_eq_false_iff] at h)) <;> (try (exfalso; omega))))
  · rw [if_neg h1] at hc
    first | refine goC_call [.r, .r, .r, .r] (hc) ?_ | refine goOC_call [.r, .r, .r, .r] (hc) ?_
    rw [scE, if_neg h1]
    repeat' (first | simp -implicitDefEqProofs (maxSteps := 1000000) (disch := (first | omega | (simp only [go_sem] <;> omega) | fail)) only [go_sem, ints, bools, mat] | ((first | apply goIf_b | apply goG_b | apply goTG_b | apply goOG_b) <;> intro h <;> ((try simp only [Bool.not_eq_true', Bool.not_eq_false'] at h); (try simp only [h]); (try simp only [decide_eq_true_eq, decide_eq_false_iff_not, bne_iff_ne, bne_eq_false_iff_eq, beq_iff_eq, beq_eq_false_iff_ne, ne_eq, Int.not_lt, Int.not_le, Bool.and_eq_true, Bool.and_eq_false_iff, Bool.or_eq_true, Bool.or_eq_false_iff] at h)) <;> (try (exfalso; omega))))
def tmX (l X : List Int) : List Int := (allW l).map fun u => (X.count u : Int)
@[go_sem] theorem tmX_len (l X : List Int) : (tmX l X).length = (prodM l).toNat := by simp [tmX, allW_len]
def tzN : Nat → Nat → Nat
  | 0, _ => 0
  | n + 1, x => if x % 2 = 1 then 0 else 1 + tzN n (x / 2)
theorem low_bit : ∀ (w x : Nat), 0 < x → x < 2 ^ w → x &&& (2 ^ w - x) = 2 ^ tzN w x ∧ tzN w x < w
  | 0, x, h0, h1 => by simp at h1; omega
  | w + 1, x, h0, h1 => by
    have a := and_cut 1 x (2 ^ (w + 1) - x)
    rw [Nat.pow_succ] at h1 a ⊢
    rw [Nat.pow_one] at a
    rw [tzN]
    by_cases ho : x % 2 = 1
    · rw [if_pos ho]
      have e1 : (2 ^ w * 2 - x) % 2 = 1 := by omega
      have e2 : (2 ^ w * 2 - x) / 2 = 2 ^ w - (x / 2 + 1) := by omega
      have e3 : x / 2 &&& (2 ^ w - (x / 2 + 1)) = 0 := by
        apply Nat.eq_of_testBit_eq
        intro i
        rw [Nat.testBit_and, Nat.testBit_two_pow_sub_succ (by omega)]
        cases (x / 2).testBit i <;> simp
      rw [ho, e1, e2, e3] at a
      refine ⟨?_, by omega⟩
      rw [a]; decide
    · rw [if_neg ho]
      have e0 : x % 2 = 0 := by omega
      have e2 : (2 ^ w * 2 - x) / 2 = 2 ^ w - x / 2 := by omega
      obtain ⟨i1, i2⟩ := low_bit w (x / 2) (by omega) (by omega)
      rw [e0, e2, i1, Nat.zero_and] at a
      refine ⟨?_, by omega⟩
      rw [a, Nat.zero_add, Nat.add_comm 1, Nat.pow_succ, Nat.mul_comm]
def tzT : List Int := [0,1,56,2,57,49,28,3,61,58,42,50,38,29,17,4,62,47,59,36,45,43,51,22,53,39,33,30,24,18,12,5,63,55,48,27,60,41,37,16,46,35,44,21,52,32,23,11,54,26,40,15,34,20,31,10,25,14,19,9,13,8,7,6]
theorem tzT_all : ∀ k : Nat, k < 64 → 2 ^ k * 285870213051353865 % 18446744073709551616 / 288230376151711744 < 64 ∧ tzT.getD (2 ^ k * 285870213051353865 % 18446744073709551616 / 288230376151711744) 0 = (k : Int) := by decide
theorem nd58 (x : Nat) : (x : Int) / 288230376151711744 = ((x / 288230376151711744 : Nat) : Int) := by omega
abbrev tabR : R := .is (.box (tzT.map dy)) (.pointer (some ⟨g_math_bits_deBruijn64tab, 0, none⟩))
theorem d_TrailingZeros64 (x : Nat) (h0 : 0 < x) (hx : x < 18446744073709551616) : DenG PA f_math_bits_TrailingZeros64 1 [.d (.v (.int .u64 x)), tabR] [.any, .any] (.d (di (tzN 64 x))) := by
  obtain ⟨h1, h2⟩ := low_bit 64 x h0 hx
  generalize tzN 64 x = k at *
  obtain ⟨h3, h4⟩ := tzT_all k h2
  have hand : x &&& (18446744073709551616 - x) = 2 ^ k := h1
  have hneg : IntKind.wrap .u64 (0 - (x : Int)) = ((18446744073709551616 - x : Nat) : Int) := by
    rw [show (0 - (x : Int)) = ((18446744073709551616 - x : Nat) : Int) + (-1) * 18446744073709551616 by omega]
    simp only [IntKind.wrap, IntKind.signed, IntKind.bits, Bool.false_and, Bool.false_eq_true, if_false]
    omega
  have hmul : IntKind.wrap .u64 (((2 ^ k : Nat) : Int) * 285870213051353865) = ((2 ^ k * 285870213051353865 % 18446744073709551616 : Nat) : Int) := by
    generalize 2 ^ k = p
    simp only [IntKind.wrap, IntKind.signed, IntKind.bits, Bool.false_and, Bool.false_eq_true, if_false]
    omega
  have hpw : 2 ^ k < 18446744073709551616 := Nat.pow_lt_pow_right (by omega) h2
  have hget : (tzT.map dy)[2 ^ k * 285870213051353865 % 18446744073709551616 / 288230376151711744]? = some (dy k) := by
    have hl : tzT.length = 64 := by decide
    rw [List.getElem?_map, List.getElem?_eq_getElem (by omega)]
    rw [List.getD_eq_getElem?_getD, List.getElem?_eq_getElem (by omega), Option.getD_some] at h4
    rw [h4]; rfl
  have hm : 2 ^ k * 285870213051353865 % 18446744073709551616 < 18446744073709551616 := Nat.mod_lt _ (by omega)
  clear h1 h4
  generalize 2 ^ k * 285870213051353865 % 18446744073709551616 = m at *
  generalize 2 ^ k = p at *
  refine den_goL [] [(g_math_bits_deBruijn64tab, 1)] l_math_bits_TrailingZeros64 (by simp) (fun q hq => by simp at hq; subst hq; exact ⟨_, rfl⟩) ?_
  repeat' (first | simp -implicitDefEqProofs (maxSteps := 1000000) (disch := (first | omega | (simp only [go_sem] <;> omega) | fail)) only [go_sem, ints, bools, mat, c_math_bits_TrailingZeros64, tabR, g_math_bits_deBruijn64tab, hneg, binA_and_u, hand, hmul, binA_shr_u, nd58, Int.reducePow, Int.reduceToNat, Int.toNat_natCast, hget] | ((first | apply goIf_b | apply goG_b | apply goTG_b | apply goOG_b) <;> intro h <;> ((try simp only [Bool.not_eq_true', Bool.not_eq_false'] at h); (try simp only [h]); (try simp only [decide_eq_true_eq, decide_eq_false_iff_not, bne_iff_ne, bne_eq_false_iff_eq, beq_iff_eq, beq_eq_false_iff_ne, ne_eq, Int.not_lt, Int.not_le, Bool.and_eq_true, Bool.and_eq_false_iff, Bool.or_eq_true, Bool.or_eq_false_iff] at h)) <;> (try (exfalso; omega))))
abbrev awy (l : List Int) (d w : Int) (X : List Int) : List Int := X.filter fun u => decide (d ≤ distM l w u)
theorem awy_len (l : List Int) (d w : Int) (X : List Int) : (awy l d w X).length ≤ X.length := List.length_filter_le _ _
def naC (w : Int) (a b : Option (List Int)) : Option (List Int) :=
  match a with
  | some L => some (w :: L)
  | none => b
def naF (l : List Int) (d : Int) : Nat → Nat → List Int → Option (List Int)
  | _, 0, _ => some []
  | 0, _ + 1, _ => none
  | _ + 1, _ + 1, [] => none
  | n + 1, k + 1, w :: X => naC w (naF l d n k (awy l d w X)) (naF l d n (k + 1) X)
theorem naF_fuel (l : List Int) (d : Int) : ∀ (n m k : Nat) (X : List Int), X.length ≤ n → X.length ≤ m → naF l d n k X = naF l d m k X
  | n, m, 0, X, _, _ => by cases n <;> cases m <;> simp only [naF]
  | 0, 0, k + 1, X, _, _ => rfl
  | 0, m + 1, k + 1, X, h1, _ => by
    have : X = [] := List.eq_nil_of_length_eq_zero (by omega)
    subst this; simp only [naF]
  | n + 1, 0, k + 1, X, _, h2 => by
    have : X = [] := List.eq_nil_of_length_eq_zero (by omega)
    subst this; simp only [naF]
  | n + 1, m + 1, k + 1, [], _, _ => by simp only [naF]
  | n + 1, m + 1, k + 1, w :: X, h1, h2 => by
    have ha := awy_len l d w X
    simp only [List.length_cons] at h1 h2
    rw [naF, naF, naF_fuel l d n m k (awy l d w X) (by omega) (by omega), naF_fuel l d n m (k + 1) X (by omega) (by omega)]
def naX (l : List Int) (d : Int) (k : Nat) (X : List Int) : Option (List Int) := naF l d X.length k X
theorem naX_zero (l : List Int) (d : Int) (X : List Int) : naX l d 0 X = some [] := by unfold naX; cases X.length <;> simp only [naF]
theorem naX_nil (l : List Int) (d : Int) (k : Nat) : naX l d (k + 1) [] = none := rfl
theorem naX_cons (l : List Int) (d : Int) (k : Nat) (w : Int) (X : List Int) : naX l d (k + 1) (w :: X) = naC w (naX l d k (awy l d w X)) (naX l d (k + 1) X) := by
  unfold naX
  rw [List.length_cons, naF, naF_fuel l d X.length (awy l d w X).length k _ (awy_len l d w X) (Nat.le_refl _)]
def mxF (l : List Int) (d : Int) : Nat → List Int → Nat
  | 0, _ => 0
  | _ + 1, [] => 0
  | n + 1, w :: X => max (1 + mxF l d n (awy l d w X)) (mxF l d n X)
theorem mxF_fuel (l : List Int) (d : Int) : ∀ (n m : Nat) (X : List Int), X.length ≤ n → X.length ≤ m → mxF l d n X = mxF l d m X
  | 0, 0, X, _, _ => rfl
  | 0, m + 1, X, h1, _ => by
    have : X = [] := List.eq_nil_of_length_eq_zero (by omega)
    subst this; simp only [mxF]
  | n + 1, 0, X, _, h2 => by
    have : X = [] := List.eq_nil_of_length_eq_zero (by omega)
    subst this; simp only [mxF]
  | n + 1, m + 1, [], _, _ => by simp only [mxF]
  | n + 1, m + 1, w :: X, h1, h2 => by
    have ha := awy_len l d w X
    simp only [List.length_cons] at h1 h2
    rw [mxF, mxF, mxF_fuel l d n m (awy l d w X) (by omega) (by omega), mxF_fuel l d n m X (by omega) (by omega)]
def mxX (l : List Int) (d : Int) (X : List Int) : Nat := mxF l d X.length X
theorem mxX_nil (l : List Int) (d : Int) : mxX l d [] = 0 := rfl
theorem mxX_cons (l : List Int) (d : Int) (w : Int) (X : List Int) : mxX l d (w :: X) = max (1 + mxX l d (awy l d w X)) (mxX l d X) := by
  unfold mxX
  rw [List.length_cons, mxF, mxF_fuel l d X.length (awy l d w X).length _ (awy_len l d w X) (Nat.le_refl _)]
theorem mxX_le (l : List Int) (d : Int) : ∀ (n : Nat) (X : List Int), X.length ≤ n → mxX l d X ≤ X.length
  | 0, X, h => by
    have : X = [] := List.eq_nil_of_length_eq_zero (by omega)
    subst this; exact Nat.le_refl _
  | n + 1, [], _ => Nat.le_refl _
  | n + 1, w :: X, h => by
    have ha := awy_len l d w X
    simp only [List.length_cons] at h ⊢
    have h1 := mxX_le l d n (awy l d w X) (by omega)
    have h2 := mxX_le l d n X (by omega)
    rw [mxX_cons]; omega
theorem naX_ne (l : List Int) (d : Int) : ∀ (n k : Nat) (X : List Int), X.length ≤ n → (naX l d k X ≠ none ↔ k ≤ mxX l d X)
  | n, 0, X, _ => by rw [naX_zero]; simp
  | 0, k + 1, X, h => by
    have : X = [] := List.eq_nil_of_length_eq_zero (by omega)
    subst this; rw [naX_nil, mxX_nil]; simp
  | n + 1, k + 1, [], h => by rw [naX_nil, mxX_nil]; simp
  | n + 1, k + 1, w :: X, h => by
    have ha := awy_len l d w X
    simp only [List.length_cons] at h
    have h1 := naX_ne l d n k (awy l d w X) (by omega)
    have h2 := naX_ne l d n (k + 1) X (by omega)
    rw [naX_cons, mxX_cons]
    cases hx : naX l d k (awy l d w X) with
    | some L =>
      rw [hx] at h1
      have := h1.1 (by intro h; cases h)
      exact ⟨fun _ => by omega, fun _ h => by cases h⟩
    | none =>
      rw [hx] at h1
      have h3 : ¬ k ≤ mxX l d (awy l d w X) := fun h => (h1.2 h) rfl
      show naX l d (k + 1) X ≠ none ↔ _
      rw [h2]; omega
theorem naX_step (l : List Int) (d : Int) (w : Int) (X : List Int) : naX l d (mxX l d (w :: X)) (w :: X) =
    if mxX l d X ≤ 1 + mxX l d (awy l d w X) then (naX l d (mxX l d (awy l d w X)) (awy l d w X)).map (w :: ·) else naX l d (mxX l d X) X := by
  have h1 := naX_ne l d _ (mxX l d (awy l d w X)) (awy l d w X) (Nat.le_refl _)
  rw [mxX_cons]
  split
  · rename_i h
    rw [show max (1 + mxX l d (awy l d w X)) (mxX l d X) = mxX l d (awy l d w X) + 1 by omega, naX_cons]
    cases hx : naX l d (mxX l d (awy l d w X)) (awy l d w X) with
    | some L => rfl
    | none => exact absurd hx (h1.2 (Nat.le_refl _))
  · rename_i h
    obtain ⟨m, hm⟩ : ∃ m, mxX l d X = m + 1 := ⟨mxX l d X - 1, by omega⟩
    rw [show max (1 + mxX l d (awy l d w X)) (mxX l d X) = m + 1 by omega, naX_cons]
    have h2 : naX l d m (awy l d w X) = none := by
      cases hx : naX l d m (awy l d w X) with
      | none => rfl
      | some L =>
        have := (naX_ne l d _ m (awy l d w X) (Nat.le_refl _)).1 (by rw [hx]; intro h; cases h)
        omega
    rw [h2, hm]; rfl
def bsX (l : List Int) (d : Int) (X : List Int) : List Int := (naX l d (mxX l d X) X).getD []
theorem naX_bs (l : List Int) (d : Int) (X : List Int) : naX l d (mxX l d X) X = some (bsX l d X) := by
  have h1 := naX_ne l d _ (mxX l d X) X (Nat.le_refl _)
  unfold bsX
  cases hx : naX l d (mxX l d X) X with
  | some L => rfl
  | none => exact absurd hx (h1.2 (Nat.le_refl _))
theorem bsX_step (l : List Int) (d : Int) (w : Int) (X : List Int) : bsX l d (w :: X) = if mxX l d X ≤ 1 + mxX l d (awy l d w X) then w :: bsX l d (awy l d w X) else bsX l d X := by
  rw [bsX, naX_step]
  split
  · rw [naX_bs]; rfl
  · rfl
theorem naX_sound (l : List Int) (d : Int) : ∀ (n k : Nat) (X L : List Int), X.length ≤ n → naX l d k X = some L → L.length = k ∧ L.Sublist X ∧ L.Pairwise fun a b => d ≤ distM l a b
  | n, 0, X, L, _, h => by
    rw [naX_zero] at h
    injection h with h
    subst h
    exact ⟨rfl, List.nil_sublist _, List.Pairwise.nil⟩
  | 0, k + 1, X, L, hn, h => by
    have : X = [] := List.eq_nil_of_length_eq_zero (by omega)
    subst this; rw [naX_nil] at h; cases h
  | n + 1, k + 1, [], L, hn, h => by rw [naX_nil] at h; cases h
  | n + 1, k + 1, w :: X, L, hn, h => by
    have ha := awy_len l d w X
    simp only [List.length_cons] at hn
    rw [naX_cons] at h
    cases hx : naX l d k (awy l d w X) with
    | some L' =>
      rw [hx] at h
      have h : some (w :: L') = some L := h
      injection h with h
      subst h
      obtain ⟨h1, h2, h3⟩ := naX_sound l d n k (awy l d w X) L' (by omega) hx
      refine ⟨by rw [List.length_cons, h1], (h2.trans List.filter_sublist).cons_cons w, List.pairwise_cons.2 ⟨fun u hu => ?_, h3⟩⟩
      have := h2.subset hu
      rw [List.mem_filter] at this
      simpa using this.2
    | none =>
      rw [hx] at h
      have h : naX l d (k + 1) X = some L := h
      obtain ⟨h1, h2, h3⟩ := naX_sound l d n (k + 1) X L (by omega) h
      exact ⟨h1, h2.cons w, h3⟩
theorem bsX_len (l : List Int) (d : Int) (X : List Int) : (bsX l d X).length = mxX l d X := (naX_sound l d _ _ X _ (Nat.le_refl _) (naX_bs l d X)).1
def mskF {α : Type} : List Bool → List α → List α
  | true :: m, x :: l => x :: mskF m l
  | false :: m, _ :: l => mskF m l
  | _, _ => []
theorem msk_of {α : Type} {a l : List α} (h : a.Sublist l) : ∃ m : List Bool, m.length = l.length ∧ mskF m l = a := by
  induction h with
  | slnil => exact ⟨[], rfl, rfl⟩
  | cons x _ ih => obtain ⟨m, h1, h2⟩ := ih; exact ⟨false :: m, by simp [h1], h2⟩
  | cons_cons x _ ih => obtain ⟨m, h1, h2⟩ := ih; exact ⟨true :: m, by simp [h1], by rw [mskF, h2]⟩
theorem msk_far : ∀ (m : List Bool) (a b : List Int), a.length = m.length → b.length = m.length → mskF m a = mskF m b → farM a b + (mskF m a).length ≤ m.length
  | [], [], [], _, _, _ => by simp [farM, mskF]
  | true :: m, x :: a, y :: b, h1, h2, h => by
    rw [mskF, mskF] at h
    injection h with h3 h4
    have := msk_far m a b (by simpa using h1) (by simpa using h2) h4
    rw [farM, if_pos h3, mskF, List.length_cons, List.length_cons]; omega
  | false :: m, x :: a, y :: b, h1, h2, h => by
    rw [mskF, mskF] at h
    have := msk_far m a b (by simpa using h1) (by simpa using h2) h
    rw [farM, mskF, List.length_cons]
    split <;> omega
theorem msk_vec : ∀ (m : List Bool) (l a : List Int), m.length = l.length → a.length = l.length → (∀ i, i < l.length → 0 ≤ a.getD i 0 ∧ a.getD i 0 < l.getD i 0) → mskF m a ∈ vecs (mskF m l)
  | [], [], [], _, _, _ => by simp [mskF, vecs]
  | true :: m, q :: l, x :: a, h1, h2, h => by
    have h0 := h 0 (by simp)
    simp at h0
    rw [mskF, mskF, vecs, List.mem_flatMap]
    refine ⟨x.toNat, List.mem_range.2 (by omega), List.mem_map.2 ⟨mskF m a, msk_vec m l a (by simpa using h1) (by simpa using h2) (fun i hi => by simpa using h (i + 1) (by simpa using hi)), ?_⟩⟩
    rw [Int.toNat_of_nonneg h0.1]
  | false :: m, q :: l, x :: a, h1, h2, h => by
    rw [mskF, mskF]
    exact msk_vec m l a (by simpa using h1) (by simpa using h2) fun i hi => by simpa using h (i + 1) (by simpa using hi)
theorem vecs_len : ∀ {l : List Int}, szs l → ((vecs l).length : Int) = prodM l
  | l, h => by rw [← vecs_ok h, List.length_map, allW_len]; have := prodM_pos h; omega
theorem sub_lenG {α : Type} [DecidableEq α] : ∀ {Q c : List α}, Q.Nodup → (∀ y, y ∈ Q → y ∈ c) → Q.length ≤ c.length
  | [], c, _, _ => Nat.zero_le _
  | x :: Q, c, hn, h => by
    obtain ⟨h1, h2⟩ := List.nodup_cons.1 hn
    have hx := h x List.mem_cons_self
    have := sub_lenG (c := c.erase x) h2 fun y hy => (List.mem_erase_of_ne (fun e => h1 (by rw [← e]; exact hy))).2 (h y (List.mem_cons_of_mem _ hy))
    rw [List.length_erase_of_mem hx] at this
    have := List.length_pos_of_mem hx
    rw [List.length_cons]; omega
theorem msk_len {α : Type} : ∀ (m : List Bool) (a b : List α), a.length = m.length → b.length = m.length → (mskF m a).length = (mskF m b).length
  | [], [], [], _, _ => rfl
  | true :: m, x :: a, y :: b, h1, h2 => by
    rw [mskF, mskF, List.length_cons, List.length_cons, msk_len m a b (by simpa using h1) (by simpa using h2)]
  | false :: m, x :: a, y :: b, h1, h2 => by
    rw [mskF, mskF]; exact msk_len m a b (by simpa using h1) (by simpa using h2)
theorem perm_sub {α : Type} {a b : List α} (h : a.Perm b) : ∀ c : List α, c.Sublist a → ∃ c' : List α, c'.Perm c ∧ c'.Sublist b := by
  induction h with
  | nil => exact fun c hc => ⟨c, .refl _, hc⟩
  | cons x _ ih =>
    intro c hc
    cases hc with
    | cons _ h => obtain ⟨c', h1, h2⟩ := ih c h; exact ⟨c', h1, h2.cons x⟩
    | cons_cons _ h => obtain ⟨c', h1, h2⟩ := ih _ h; exact ⟨x :: c', h1.cons x, h2.cons_cons x⟩
  | swap x y l =>
    intro c hc
    cases hc with
    | cons _ h =>
      cases h with
      | cons _ h => exact ⟨c, .refl _, (h.cons y).cons x⟩
      | cons_cons _ h => exact ⟨_, .refl _, (h.cons y).cons_cons x⟩
    | cons_cons _ h =>
      cases h with
      | cons _ h => exact ⟨_, .refl _, (h.cons_cons y).cons x⟩
      | cons_cons _ h => exact ⟨_, List.Perm.swap _ _ _, (h.cons_cons y).cons_cons x⟩
  | trans _ _ h1 h2 =>
    intro c hc
    obtain ⟨c1, p1, p2⟩ := h1 c hc
    obtain ⟨c2, p3, p4⟩ := h2 c1 p2
    exact ⟨c2, p3.trans p1, p4⟩
theorem apart_le {l L : List Int} {k : Nat} (hs : isSpaceM l = true) (h : L.Pairwise fun a b => (k : Int) < distM l a b) : (L.length : Int) ≤ divM l k := by
  have hz := isSpaceM_szs hs
  obtain ⟨l', p1, p2⟩ := perm_sub (List.mergeSort_perm l (fun x y => decide (x ≤ y))) _ (List.take_sublist (l.length - k) (sortI l))
  obtain ⟨m, m1, m2⟩ := msk_of p2
  have hl' : l'.length = l.length - k := by rw [p1.length_eq, List.length_take, sortI_len]; omega
  have hz' : szs l' := szs_mem.2 fun x hx => szs_mem.1 hz x (p2.subset hx)
  have hlen : ∀ w, (mskF m (digM l w)).length = l'.length := fun w => by
    rw [← m2]; exact msk_len m _ _ (by rw [digM_len, m1]) (by rw [m1])
  have hnd : (L.map fun w => mskF m (digM l w)).Nodup := by
    rw [List.Nodup, List.pairwise_map]
    refine h.imp fun {a b} hab he => ?_
    have h1 := msk_far m (digM l a) (digM l b) (by rw [digM_len, m1]) (by rw [digM_len, m1]) he
    rw [hlen, hl', m1] at h1
    have h2 := (distM_bnd l a b).2
    have h3 : (k : Int) < farM (digM l a) (digM l b) := hab
    have h4 : farM (digM l a) (digM l b) ≤ l.length := h2
    omega
  have hsub := sub_lenG (c := vecs l') hnd fun y hy => by
    obtain ⟨w, _, rfl⟩ := List.mem_map.1 hy
    rw [← m2]
    exact msk_vec m l _ m1 (digM_len l w) fun i hi => ⟨(digM_bnd w hz i).1, by rw [digM_get l w i hi]; have := hz i hi; exact Int.emod_lt_of_pos _ (by omega)⟩
  rw [List.length_map] at hsub
  have hv := vecs_len hz'
  rw [divM, ← prodM_perm p1, ← hv]
  exact_mod_cast hsub
theorem tzN_bit : ∀ (n k x : Nat), k < n → x.testBit k = true → (∀ j, j < k → x.testBit j = false) → tzN n x = k
  | 0, k, x, h, _, _ => by omega
  | n + 1, 0, x, h, h1, _ => by
    rw [Nat.testBit_zero, decide_eq_true_eq] at h1
    rw [tzN, if_pos h1]
  | n + 1, k + 1, x, h, h1, h2 => by
    have h0 := h2 0 (by omega)
    rw [Nat.testBit_zero, decide_eq_false_iff_not] at h0
    rw [Nat.testBit_succ] at h1
    rw [tzN, if_neg h0, tzN_bit n k (x / 2) (by omega) h1 fun j hj => by rw [← Nat.testBit_succ]; exact h2 (j + 1) (by omega), Nat.add_comm]
theorem wsN_lenX {l X : List Int} (h27 : prodM l ≤ 27) (h : X.Sublist (allW l)) : popN 64 (wsN l X) = X.length := by
  rw [mkL_pop 64 _ (by rw [cvL_len]; omega), cvL, List.filter_map, List.length_map]
  apply List.Perm.length_eq
  apply (List.perm_ext_iff_of_nodup ((allW_nodup l).filter _) (h.nodup (allW_nodup l))).2
  intro u
  rw [List.mem_filter]
  simp only [Function.comp, id_eq, decide_eq_true_eq]
  exact ⟨fun h => h.2, fun hu => ⟨h.subset hu, hu⟩⟩
theorem sub_rng {l X : List Int} {w : Int} (h : X.Sublist (allW l)) (hw : w ∈ X) : 0 ≤ w ∧ w < prodM l := by
  have := (allW_mem l w).1 (h.subset hw)
  omega
theorem wsN_posX {l X : List Int} {w : Int} (hw : 0 ≤ w ∧ w < prodM l) (h : w ∈ X) : 0 < wsN l X := by
  refine Nat.pos_of_ne_zero fun e => ?_
  have h1 := wsN_bit l X w.toNat
  rw [e, Nat.zero_testBit, Int.toNat_of_nonneg hw.1] at h1
  have h2 := of_decide_eq_false h1.symm
  exact h2 ⟨by omega, h⟩
theorem wsN_tz {l X : List Int} {w : Int} (h27 : prodM l ≤ 27) (h : (w :: X).Sublist (allW l)) : (tzN 64 (wsN l (w :: X)) : Int) = w := by
  have hw := sub_rng h List.mem_cons_self
  have hp := List.pairwise_cons.1 ((allW_asc l).sublist h)
  have e : tzN 64 (wsN l (w :: X)) = w.toNat := by
    refine tzN_bit 64 w.toNat _ (by omega) ?_ fun j hj => ?_
    · rw [wsN_bit, decide_eq_true_eq, Int.toNat_of_nonneg hw.1]
      exact ⟨by omega, List.mem_cons_self⟩
    · rw [wsN_bit, decide_eq_false_iff_not]
      rintro ⟨_, hm⟩
      rcases List.mem_cons.1 hm with e | hm
      · omega
      · have := hp.1 _ hm; omega
  rw [e]; omega
theorem wsN_andNot {l X Y Z : List Int} (h27 : prodM l ≤ 27) (hZ : ∀ u, u ∈ Z ↔ u ∈ X ∧ u ∉ Y) : (BitVec.ofInt 64 (wsN l X : Int) &&& ~~~BitVec.ofInt 64 (wsN l Y : Int)).toNat = wsN l Z := by
  apply Nat.eq_of_testBit_eq
  intro i
  have e1 : (BitVec.ofInt 64 (wsN l X : Int)).toNat = wsN l X := by
    have := wsN_lt h27 X
    rw [ofInt_nat_u (by omega) (by omega)]; simp
  have e2 : (BitVec.ofInt 64 (wsN l Y : Int)).toNat = wsN l Y := by
    have := wsN_lt h27 Y
    rw [ofInt_nat_u (by omega) (by omega)]; simp
  rw [BitVec.testBit_toNat, BitVec.getLsbD_and, BitVec.getLsbD_not, ← BitVec.testBit_toNat, ← BitVec.testBit_toNat, e1, e2, wsN_bit, wsN_bit, wsN_bit, Bool.eq_iff_iff]
  simp only [Bool.and_eq_true, decide_eq_true_eq, Bool.not_eq_true', decide_eq_false_iff_not, hZ]
  constructor
  · rintro ⟨⟨h1, h2⟩, h3, h4⟩
    exact ⟨h1, h2, fun h => h4 ⟨h1, h⟩⟩
  · rintro ⟨h1, h2, h3⟩
    exact ⟨⟨h1, h2⟩, by omega, fun h => h3 h.2⟩
theorem andNot_b {l X Y Z : List Int} (h27 : prodM l ≤ 27) (hZ : ∀ u, u ∈ Z ↔ u ∈ X ∧ u ∉ Y) : binA .andNot (.d (.v (.int .u64 (wsN l X : Int)))) (.d (.v (.int .u64 (wsN l Y : Int)))) = some (.d (.v (.int .u64 (wsN l Z : Int)))) := by
  have hl := wsN_lt h27 Z
  have e2 : binI .andNot .u64 (wsN l X : Int) (wsN l Y : Int) = some (.int .u64 (IntKind.wrap .u64 ((BitVec.ofInt 64 (wsN l X : Int) &&& ~~~BitVec.ofInt 64 (wsN l Y : Int)).toNat : Nat))) := rfl
  simp only [binA, e2, BinOp.isShift, or_true, if_true, wsN_andNot h27 hZ, Option.map_some]
  rw [wrap_u64 (by omega) (by omega)]
theorem naX_few {l X : List Int} {d : Int} {k : Nat} (h : X.length < k) : naX l d k X = none := by
  cases hx : naX l d k X with
  | none => rfl
  | some L =>
    have h1 := (naX_ne l d _ k X (Nat.le_refl _)).1 (by rw [hx]; intro h; cases h)
    have := mxX_le l d _ X (Nat.le_refl _)
    omega
theorem awy_ball {l X : List Int} {d w : Int} (hd : 1 ≤ d) (h : (w :: X).Sublist (allW l)) : ∀ u, u ∈ awy l d w X ↔ u ∈ w :: X ∧ u ∉ ballM l w (d - 1) := by
  intro u
  rw [List.mem_filter, List.mem_cons, ballM, List.mem_filter]
  simp only [decide_eq_true_eq, not_and]
  constructor
  · rintro ⟨h1, h2⟩
    exact ⟨.inr h1, fun _ => by rw [distM_comm]; omega⟩
  · rintro ⟨h1, h2⟩
    have h3 : u ∈ allW l := h.subset (List.mem_cons.2 h1)
    have h4 := h2 h3
    rcases h1 with e | h1
    · subst e
      have h5 := ball_self (sub_rng h List.mem_cons_self) (show 0 ≤ d - 1 by omega)
      rw [ballM, List.mem_filter] at h5
      simp only [decide_eq_true_eq] at h5
      exact absurd h5.2 h4
    · rw [distM_comm] at h4
      exact ⟨h1, by omega⟩
theorem tail_one {l X : List Int} {w : Int} (h : (w :: X).Sublist (allW l)) : ∀ u, u ∈ X ↔ u ∈ w :: X ∧ u ∉ [w] := by
  intro u
  have hp := List.pairwise_cons.1 ((allW_asc l).sublist h)
  rw [List.mem_cons, List.mem_singleton]
  constructor
  · intro hu; have := hp.1 u hu; exact ⟨.inr hu, by omega⟩
  · rintro ⟨h1, h2⟩
    rcases h1 with h1 | h1
    · exact absurd h1 h2
    · exact h1
end Go.Proofs.YtgmocipfgfnolaaGreatDoor.Va
