/- Contracts of the functions that FnLeaders reaches (part 1). Condition: none. -/
import Derived.Test.YtfgjfjgkoabfjadGreatDFnLeaders0
set_option linter.all false
set_option linter.unusedSimpArgs false
set_option linter.unusedVariables false
namespace Go.Proofs.YtfgjfjgkoabfjadGreat.Va
open Go
set_option maxHeartbeats 4000000
set_option maxRecDepth 100000
theorem d_spec_l01Put (l : List Int) (x : Int) (hl : l.length < 1048576) : Den PA f_spec_l01Put [.own 1 (l.map di), .d (di x)] [.any, .any] (.own 1 ((putI l x).map di)) := by
  have hle := ptN_le l x l.length
  refine den_go [] l_spec_l01Put ?_
  repeat' (first | simp -implicitDefEqProofs (maxSteps := 1000000) (disch := (first | omega | (simp only [go_sem] <;> omega) | fail)) only [go_sem, ints, bools, mat, c_spec_l01Put] | ((first | refine goIf_b (fun h => ?_) (fun h => ?_) | refine goG_b (fun h => ?_) (fun h => ?_) | refine goTG_b (fun h => ?_) (fun h => ?_) | refine goOG_b (fun h => ?_) (fun h => ?_)) <;> ((try simp only [Bool.not_eq_true', Bool.not_eq_false'] at h); (try simp only [h]); (try simp only [decide_eq_true_eq, decide_eq_false_iff_not, bne_iff_ne, bne_eq_false_iff_eq, beq_iff_eq, beq_eq_false_iff_ne, ne_eq, Int.not_lt, Int.not_le, Bool.and_eq_true, Bool.and_eq_false_iff, Bool.or_eq_true, Bool.or_eq_false_iff] at h))))
  refine go_loop (fun (a : Nat) => ⟨[(0, .sl 0 0 l.length 1), (1, .d (di x)), (5, .d (di a))], [some (.dat 1 (l.map di))]⟩) (fun a => a ≤ l.length ∧ ptN l x l.length = ptN l x a) (fun a => a) l.length ?_ ?_ ?_
  · (simp -implicitDefEqProofs (maxSteps := 1000000) (disch := (first | omega | (simp only [go_sem] <;> omega) | fail)) only [go_sem, ints, bools, mat] <;> rfl)
  · exact ⟨Nat.le_refl _, rfl⟩
  · rintro a ⟨h1, h2⟩ J hJ
    cases a with
    | zero =>
      have e : putI l x = [x] ++ l := by simp [putI, h2, ptN]
      repeat' (first | simp -implicitDefEqProofs (maxSteps := 1000000) (disch := (first | omega | (simp only [go_sem] <;> omega) | fail)) only [go_sem, ints, bools, mat] | ((first | refine goIf_b (fun h => ?_) (fun h => ?_) | refine goG_b (fun h => ?_) (fun h => ?_) | refine goTG_b (fun h => ?_) (fun h => ?_) | refine goOG_b (fun h => ?_) (fun h => ?_)) <;> ((try simp only [Bool.not_eq_true', Bool.not_eq_false'] at h); (try simp only [h]); (try simp only [decide_eq_true_eq, decide_eq_false_iff_not, bne_iff_ne, bne_eq_false_iff_eq, beq_iff_eq, beq_eq_false_iff_ne, ne_eq, Int.not_lt, Int.not_le, Bool.and_eq_true, Bool.and_eq_false_iff, Bool.or_eq_true, Bool.or_eq_false_iff] at h)) <;> (try (exfalso; omega))))
      first | refine goC_call [.r] (d_spec_l01Own [] (by simp)) ?_ | refine goOC_call [.r] (d_spec_l01Own [] (by simp)) ?_
      repeat' (first | simp -implicitDefEqProofs (maxSteps := 1000000) (disch := (first | omega | (simp only [go_sem] <;> omega) | fail)) only [go_sem, ints, bools, mat] | ((first | refine goIf_b (fun h => ?_) (fun h => ?_) | refine goG_b (fun h => ?_) (fun h => ?_) | refine goTG_b (fun h => ?_) (fun h => ?_) | refine goOG_b (fun h => ?_) (fun h => ?_)) <;> ((try simp only [Bool.not_eq_true', Bool.not_eq_false'] at h); (try simp only [h]); (try simp only [decide_eq_true_eq, decide_eq_false_iff_not, bne_iff_ne, bne_eq_false_iff_eq, beq_iff_eq, beq_eq_false_iff_ne, ne_eq, Int.not_lt, Int.not_le, Bool.and_eq_true, Bool.and_eq_false_iff, Bool.or_eq_true, Bool.or_eq_false_iff] at h)) <;> (try (exfalso; omega))))
      rw [e]; rfl
    | succ a =>
      repeat' (first | simp -implicitDefEqProofs (maxSteps := 1000000) (disch := (first | omega | (simp only [go_sem] <;> omega) | fail)) only [go_sem, ints, bools, mat] | ((first | refine goIf_b (fun h => ?_) (fun h => ?_) | refine goG_b (fun h => ?_) (fun h => ?_) | refine goTG_b (fun h => ?_) (fun h => ?_) | refine goOG_b (fun h => ?_) (fun h => ?_)) <;> ((try simp only [Bool.not_eq_true', Bool.not_eq_false'] at h); (try simp only [h]); (try simp only [decide_eq_true_eq, decide_eq_false_iff_not, bne_iff_ne, bne_eq_false_iff_eq, beq_iff_eq, beq_eq_false_iff_ne, ne_eq, Int.not_lt, Int.not_le, Bool.and_eq_true, Bool.and_eq_false_iff, Bool.or_eq_true, Bool.or_eq_false_iff] at h)) <;> (try (exfalso; omega))))
      · refine hJ a ⟨by omega, ?_⟩ (by omega) _ ?_
        · rw [h2, ptN, if_pos (by simpa using h)]
        · (simp -implicitDefEqProofs (maxSteps := 1000000) (disch := (first | omega | (simp only [go_sem] <;> omega) | fail)) only [go_sem, ints, bools, mat] <;> rfl)
      · have hx : ptN l x (a + 1) = a + 1 := by rw [ptN, if_neg (by omega)]
        rw [putI, h2, hx, if_pos ⟨by omega, by simpa using h⟩]
      · have hx : ptN l x (a + 1) = a + 1 := by rw [ptN, if_neg (by omega)]
        first | refine goC_call [.r] (d_spec_l01Own (l.take (a + 1)) (by simp; omega)) ?_ | refine goOC_call [.r] (d_spec_l01Own (l.take (a + 1)) (by simp; omega)) ?_
        repeat' (first | simp -implicitDefEqProofs (maxSteps := 1000000) (disch := (first | omega | (simp only [go_sem] <;> omega) | fail)) only [go_sem, ints, bools, mat] | ((first | refine goIf_b (fun h => ?_) (fun h => ?_) | refine goG_b (fun h => ?_) (fun h => ?_) | refine goTG_b (fun h => ?_) (fun h => ?_) | refine goOG_b (fun h => ?_) (fun h => ?_)) <;> ((try simp only [Bool.not_eq_true', Bool.not_eq_false'] at h); (try simp only [h]); (try simp only [decide_eq_true_eq, decide_eq_false_iff_not, bne_iff_ne, bne_eq_false_iff_eq, beq_iff_eq, beq_eq_false_iff_ne, ne_eq, Int.not_lt, Int.not_le, Bool.and_eq_true, Bool.and_eq_false_iff, Bool.or_eq_true, Bool.or_eq_false_iff] at h)) <;> (try (exfalso; omega))))
        rw [putI, h2, hx, if_neg (fun hc => h (by simpa using hc.2))]
/-- All are words. -/
abbrev inC (l c : List Int) : Prop := ∀ u, u ∈ c → 0 ≤ u ∧ u < prodM l
theorem inC_get {l c : List Int} (h : inC l c) : ∀ j, j < c.length → 0 ≤ c.getD j 0 ∧ c.getD j 0 < prodM l := fun j hj => h _ (mem_getD hj)
theorem inC_big {l c : List Int} (hs : isSpaceM l = true) (h : inC l c) : ∀ j, j < c.length → 0 ≤ c.getD j 0 ∧ c.getD j 0 < 1000000000000 := fun j hj => by
  have := inC_get h j hj; have := isSpaceM_prod hs; omega
theorem inC_code {l c : List Int} (hcc : isCodeM l c = true) : inC l c := fun u hu => code_mem hcc hu
theorem d_impl_shifted_1 (l : List Int) (hs : isSpaceM l = true) (u w : Int) (hu : 0 ≤ u) (hu2 : u < 1000000000000) :
    Den PA f_impl_shifted_1 [.d (di u), .box [ints l], .box ((pad8 (digM l w)).map dy)] [.any, .any, .any] (.d (di (sumW l u w))) := by
  have hn := isSpaceM_n hs
  have hz := isSpaceM_szs hs
  have ea := digM_len l u
  have eb := digM_len l w
  refine den_go [] l_impl_shifted_1 ?_
  repeat' (first | simp -implicitDefEqProofs (maxSteps := 1000000) (disch := (first | omega | (simp only [go_sem] <;> omega) | fail)) only [go_sem, ints, bools, mat, c_impl_shifted_1] | ((first | refine goIf_b (fun h => ?_) (fun h => ?_) | refine goG_b (fun h => ?_) (fun h => ?_) | refine goTG_b (fun h => ?_) (fun h => ?_) | refine goOG_b (fun h => ?_) (fun h => ?_)) <;> ((try simp only [Bool.not_eq_true', Bool.not_eq_false'] at h); (try simp only [h]); (try simp only [decide_eq_true_eq, decide_eq_false_iff_not, bne_iff_ne, bne_eq_false_iff_eq, beq_iff_eq, beq_eq_false_iff_ne, ne_eq, Int.not_lt, Int.not_le, Bool.and_eq_true, Bool.and_eq_false_iff, Bool.or_eq_true, Bool.or_eq_false_iff] at h))))
  first | refine goC_call [.r, .r] (d_impl_digitsOf l hs u hu hu2) ?_ | refine goOC_call [.r, .r] (d_impl_digitsOf l hs u hu hu2) ?_
  repeat' (first | simp -implicitDefEqProofs (maxSteps := 1000000) (disch := (first | omega | (simp only [go_sem] <;> omega) | fail)) only [go_sem, ints, bools, mat] | ((first | refine goIf_b (fun h => ?_) (fun h => ?_) | refine goG_b (fun h => ?_) (fun h => ?_) | refine goTG_b (fun h => ?_) (fun h => ?_) | refine goOG_b (fun h => ?_) (fun h => ?_)) <;> ((try simp only [Bool.not_eq_true', Bool.not_eq_false'] at h); (try simp only [h]); (try simp only [decide_eq_true_eq, decide_eq_false_iff_not, bne_iff_ne, bne_eq_false_iff_eq, beq_iff_eq, beq_eq_false_iff_ne, ne_eq, Int.not_lt, Int.not_le, Bool.and_eq_true, Bool.and_eq_false_iff, Bool.or_eq_true, Bool.or_eq_false_iff] at h))))
  first | refine goC_call [.r, .r, .r] (d_impl_sumOf l (digM l u) (digM l w) hs (by omega) (by omega) (digM_bnd u hz) (digM_bnd w hz)) ?_ | refine goOC_call [.r, .r, .r] (d_impl_sumOf l (digM l u) (digM l w) hs (by omega) (by omega) (digM_bnd u hz) (digM_bnd w hz)) ?_
  repeat' (first | simp -implicitDefEqProofs (maxSteps := 1000000) (disch := (first | omega | (simp only [go_sem] <;> omega) | fail)) only [go_sem, ints, bools, mat] | ((first | refine goIf_b (fun h => ?_) (fun h => ?_) | refine goG_b (fun h => ?_) (fun h => ?_) | refine goTG_b (fun h => ?_) (fun h => ?_) | refine goOG_b (fun h => ?_) (fun h => ?_)) <;> ((try simp only [Bool.not_eq_true', Bool.not_eq_false'] at h); (try simp only [h]); (try simp only [decide_eq_true_eq, decide_eq_false_iff_not, bne_iff_ne, bne_eq_false_iff_eq, beq_iff_eq, beq_eq_false_iff_ne, ne_eq, Int.not_lt, Int.not_le, Bool.and_eq_true, Bool.and_eq_false_iff, Bool.or_eq_true, Bool.or_eq_false_iff] at h))))
  first | refine goC_call [.r, .r] (d_impl_wordOf l (sumM l (digM l u) (digM l w)) hs (by rw [sumM_len]; omega) (sumM_lt hz _ _)) ?_ | refine goOC_call [.r, .r] (d_impl_wordOf l (sumM l (digM l u) (digM l w)) hs (by rw [sumM_len]; omega) (sumM_lt hz _ _)) ?_
  repeat' (first | simp -implicitDefEqProofs (maxSteps := 1000000) (disch := (first | omega | (simp only [go_sem] <;> omega) | fail)) only [go_sem, ints, bools, mat] | ((first | refine goIf_b (fun h => ?_) (fun h => ?_) | refine goG_b (fun h => ?_) (fun h => ?_) | refine goTG_b (fun h => ?_) (fun h => ?_) | refine goOG_b (fun h => ?_) (fun h => ?_)) <;> ((try simp only [Bool.not_eq_true', Bool.not_eq_false'] at h); (try simp only [h]); (try simp only [decide_eq_true_eq, decide_eq_false_iff_not, bne_iff_ne, bne_eq_false_iff_eq, beq_iff_eq, beq_eq_false_iff_ne, ne_eq, Int.not_lt, Int.not_le, Bool.and_eq_true, Bool.and_eq_false_iff, Bool.or_eq_true, Bool.or_eq_false_iff] at h))))
  rfl
/-- A shifted code. -/
abbrev shM (l c : List Int) (w : Int) : List Int := setI (c.map fun u => sumW l u w)
theorem shM_len (l c : List Int) (w : Int) : (shM l c w).length ≤ c.length := Nat.le_trans (setI_len _) (by simp)
theorem shM_in {l : List Int} (hs : isSpaceM l = true) (c : List Int) (w : Int) : inC l (shM l c w) := fun u hu => by
  rw [setI_mem, List.mem_map] at hu
  obtain ⟨v, _, rfl⟩ := hu
  exact sumW_bnd hs v w
theorem d_impl_shifted (l c : List Int) (hs : isSpaceM l = true) (hc : c.length < 1048577) (hcw : inC l c) (w : Int) (hw : 0 ≤ w) (hw2 : w < 1000000000000) :
    Den PA f_impl_shifted [.d (.agg [ints l]), .d (ints c), .d (di w)] [.any, .any, .any] (.own 1 ((shM l c w).map di)) := by
  have hn := isSpaceM_n hs
  have hz := isSpaceM_szs hs
  have hp := isSpaceM_prod hs
  refine den_go [] l_impl_shifted ?_
  repeat' (first | simp -implicitDefEqProofs (maxSteps := 1000000) (disch := (first | omega | (simp only [go_sem] <;> omega) | fail)) only [go_sem, ints, bools, mat, c_impl_shifted] | ((first | refine goIf_b (fun h => ?_) (fun h => ?_) | refine goG_b (fun h => ?_) (fun h => ?_) | refine goTG_b (fun h => ?_) (fun h => ?_) | refine goOG_b (fun h => ?_) (fun h => ?_)) <;> ((try simp only [Bool.not_eq_true', Bool.not_eq_false'] at h); (try simp only [h]); (try simp only [decide_eq_true_eq, decide_eq_false_iff_not, bne_iff_ne, bne_eq_false_iff_eq, beq_iff_eq, beq_eq_false_iff_ne, ne_eq, Int.not_lt, Int.not_le, Bool.and_eq_true, Bool.and_eq_false_iff, Bool.or_eq_true, Bool.or_eq_false_iff] at h))))
  first | refine goC_call [.r, .r] (d_impl_digitsOf l hs w hw hw2) ?_ | refine goOC_call [.r, .r] (d_impl_digitsOf l hs w hw hw2) ?_
  repeat' (first | simp -implicitDefEqProofs (maxSteps := 1000000) (disch := (first | omega | (simp only [go_sem] <;> omega) | fail)) only [go_sem, ints, bools, mat] | ((first | refine goIf_b (fun h => ?_) (fun h => ?_) | refine goG_b (fun h => ?_) (fun h => ?_) | refine goTG_b (fun h => ?_) (fun h => ?_) | refine goOG_b (fun h => ?_) (fun h => ?_)) <;> ((try simp only [Bool.not_eq_true', Bool.not_eq_false'] at h); (try simp only [h]); (try simp only [decide_eq_true_eq, decide_eq_false_iff_not, bne_iff_ne, bne_eq_false_iff_eq, beq_iff_eq, beq_eq_false_iff_ne, ne_eq, Int.not_lt, Int.not_le, Bool.and_eq_true, Bool.and_eq_false_iff, Bool.or_eq_true, Bool.or_eq_false_iff] at h))))
  first | refine goC_call [.r, .g (fnT c fun u => sumW l u w)] (d_impl_mapped c (fun u => sumW l u w) hc) ?_ | refine goOC_call [.r, .g (fnT c fun u => sumW l u w)] (d_impl_mapped c (fun u => sumW l u w) hc) ?_
  repeat' (first | simp -implicitDefEqProofs (maxSteps := 1000000) (disch := (first | omega | (simp only [go_sem] <;> omega) | fail)) only [go_sem, ints, bools, mat] | ((first | refine goIf_b (fun h => ?_) (fun h => ?_) | refine goG_b (fun h => ?_) (fun h => ?_) | refine goTG_b (fun h => ?_) (fun h => ?_) | refine goOG_b (fun h => ?_) (fun h => ?_)) <;> ((try simp only [Bool.not_eq_true', Bool.not_eq_false'] at h); (try simp only [h]); (try simp only [decide_eq_true_eq, decide_eq_false_iff_not, bne_iff_ne, bne_eq_false_iff_eq, beq_iff_eq, beq_eq_false_iff_ne, ne_eq, Int.not_lt, Int.not_le, Bool.and_eq_true, Bool.and_eq_false_iff, Bool.or_eq_true, Bool.or_eq_false_iff] at h))))
  refine chk_intro (fnOK_mk (d_impl_shifted_1 l hs 0 w (by omega) (by omega)).1 [[ints l], (pad8 (digM l w)).map dy] (by simp -implicitDefEqProofs (maxSteps := 1000000) (disch := (first | omega | (simp only [go_sem] <;> omega) | fail)) only [go_sem, ints, bools, mat]) fun ds r hgg => ?_) ?_
  · obtain ⟨u, hu, rfl, rfl⟩ := hgg
    have := hcw u hu
    exact ⟨_, d_impl_shifted_1 l hs u w (by omega) (by omega)⟩
  repeat' (first | simp -implicitDefEqProofs (maxSteps := 1000000) (disch := (first | omega | (simp only [go_sem] <;> omega) | fail)) only [go_sem, ints, bools, mat] | ((first | refine goIf_b (fun h => ?_) (fun h => ?_) | refine goG_b (fun h => ?_) (fun h => ?_) | refine goTG_b (fun h => ?_) (fun h => ?_) | refine goOG_b (fun h => ?_) (fun h => ?_)) <;> ((try simp only [Bool.not_eq_true', Bool.not_eq_false'] at h); (try simp only [h]); (try simp only [decide_eq_true_eq, decide_eq_false_iff_not, bne_iff_ne, bne_eq_false_iff_eq, beq_iff_eq, beq_eq_false_iff_ne, ne_eq, Int.not_lt, Int.not_le, Bool.and_eq_true, Bool.and_eq_false_iff, Bool.or_eq_true, Bool.or_eq_false_iff] at h))))
theorem d_spec_l01Shifted (l c : List Int) (hs : isSpaceM l = true) (hc : c.length < 1048577) (hcw : inC l c) (w : Int) (hw : 0 ≤ w) (hw2 : w < 1000000000000) :
    Den PA f_spec_l01Shifted [.d (.agg [ints l]), .d (ints c), .d (di w)] [.any, .any, .any] (.own 1 ((shM l c w).map di)) := by
  have hb := inC_big hs hcw
  rw [show shM l c w = _ from (putsN_map c fun u => sumW l u w).symm]
  refine den_go [] l_spec_l01Shifted ?_
  repeat' (first | simp -implicitDefEqProofs (maxSteps := 1000000) (disch := (first | omega | (simp only [go_sem] <;> omega) | fail)) only [go_sem, ints, bools, mat, c_spec_l01Shifted] | ((first | refine goIf_b (fun h => ?_) (fun h => ?_) | refine goG_b (fun h => ?_) (fun h => ?_) | refine goTG_b (fun h => ?_) (fun h => ?_) | refine goOG_b (fun h => ?_) (fun h => ?_)) <;> ((try simp only [Bool.not_eq_true', Bool.not_eq_false'] at h); (try simp only [h]); (try simp only [decide_eq_true_eq, decide_eq_false_iff_not, bne_iff_ne, bne_eq_false_iff_eq, beq_iff_eq, beq_eq_false_iff_ne, ne_eq, Int.not_lt, Int.not_le, Bool.and_eq_true, Bool.and_eq_false_iff, Bool.or_eq_true, Bool.or_eq_false_iff] at h))))
  refine go_loop (fun (j : Nat) => ⟨[(1, .d (ints c)), (2, .d (di w)), (3, .ref 0 0), (7, .sl 1 0 (putsN (fun i => sumW l (c.getD i 0) w) j).length 1), (11, .d (di c.length)), (12, .d (di j))], [some (.var [ints l]), some (.dat 1 ((putsN (fun i => sumW l (c.getD i 0) w) j).map di))]⟩) (fun j => j ≤ c.length) (fun j => c.length - j) 0 ?_ ?_ ?_
  · (simp -implicitDefEqProofs (maxSteps := 1000000) (disch := (first | omega | (simp only [go_sem] <;> omega) | fail)) only [go_sem, ints, bools, mat] <;> rfl)
  · simp
  · rintro j hj J hJ
    have hpl := putsN_len (fun i => sumW l (c.getD i 0) w) j
    have hbj := hb j
    repeat' (first | simp -implicitDefEqProofs (maxSteps := 1000000) (disch := (first | omega | (simp only [go_sem] <;> omega) | fail)) only [go_sem, ints, bools, mat] | ((first | refine goIf_b (fun h => ?_) (fun h => ?_) | refine goG_b (fun h => ?_) (fun h => ?_) | refine goTG_b (fun h => ?_) (fun h => ?_) | refine goOG_b (fun h => ?_) (fun h => ?_)) <;> ((try simp only [Bool.not_eq_true', Bool.not_eq_false'] at h); (try simp only [h]); (try simp only [decide_eq_true_eq, decide_eq_false_iff_not, bne_iff_ne, bne_eq_false_iff_eq, beq_iff_eq, beq_eq_false_iff_ne, ne_eq, Int.not_lt, Int.not_le, Bool.and_eq_true, Bool.and_eq_false_iff, Bool.or_eq_true, Bool.or_eq_false_iff] at h))))
    · first | refine goC_call [.r, .r, .r] (d_spec_l01Sum l hs (c.getD j 0) w (by omega) (by omega) hw hw2) ?_ | refine goOC_call [.r, .r, .r] (d_spec_l01Sum l hs (c.getD j 0) w (by omega) (by omega) hw hw2) ?_
      repeat' (first | simp -implicitDefEqProofs (maxSteps := 1000000) (disch := (first | omega | (simp only [go_sem] <;> omega) | fail)) only [go_sem, ints, bools, mat] | ((first | refine goIf_b (fun h => ?_) (fun h => ?_) | refine goG_b (fun h => ?_) (fun h => ?_) | refine goTG_b (fun h => ?_) (fun h => ?_) | refine goOG_b (fun h => ?_) (fun h => ?_)) <;> ((try simp only [Bool.not_eq_true', Bool.not_eq_false'] at h); (try simp only [h]); (try simp only [decide_eq_true_eq, decide_eq_false_iff_not, bne_iff_ne, bne_eq_false_iff_eq, beq_iff_eq, beq_eq_false_iff_ne, ne_eq, Int.not_lt, Int.not_le, Bool.and_eq_true, Bool.and_eq_false_iff, Bool.or_eq_true, Bool.or_eq_false_iff] at h))))
      first | refine goC_call [.o, .r] (d_spec_l01Put (putsN (fun i => sumW l (c.getD i 0) w) j) (sumW l (c.getD j 0) w) (by omega)) ?_ | refine goOC_call [.o, .r] (d_spec_l01Put (putsN (fun i => sumW l (c.getD i 0) w) j) (sumW l (c.getD j 0) w) (by omega)) ?_
      repeat' (first | simp -implicitDefEqProofs (maxSteps := 1000000) (disch := (first | omega | (simp only [go_sem] <;> omega) | fail)) only [go_sem, ints, bools, mat] | ((first | refine goIf_b (fun h => ?_) (fun h => ?_) | refine goG_b (fun h => ?_) (fun h => ?_) | refine goTG_b (fun h => ?_) (fun h => ?_) | refine goOG_b (fun h => ?_) (fun h => ?_)) <;> ((try simp only [Bool.not_eq_true', Bool.not_eq_false'] at h); (try simp only [h]); (try simp only [decide_eq_true_eq, decide_eq_false_iff_not, bne_iff_ne, bne_eq_false_iff_eq, beq_iff_eq, beq_eq_false_iff_ne, ne_eq, Int.not_lt, Int.not_le, Bool.and_eq_true, Bool.and_eq_false_iff, Bool.or_eq_true, Bool.or_eq_false_iff] at h))))
      refine hJ (j + 1) (by omega) (by omega) _ ?_
      simp -implicitDefEqProofs (maxSteps := 1000000) (disch := (first | omega | (simp only [go_sem] <;> omega) | fail)) only [go_sem, ints, bools, mat]
      rfl
    · have : j = c.length := by omega
      subst this
      repeat' (first | simp -implicitDefEqProofs (maxSteps := 1000000) (disch := (first | omega | (simp only [go_sem] <;> omega) | fail)) only [go_sem, ints, bools, mat] | ((first | refine goIf_b (fun h => ?_) (fun h => ?_) | refine goG_b (fun h => ?_) (fun h => ?_) | refine goTG_b (fun h => ?_) (fun h => ?_) | refine goOG_b (fun h => ?_) (fun h => ?_)) <;> ((try simp only [Bool.not_eq_true', Bool.not_eq_false'] at h); (try simp only [h]); (try simp only [decide_eq_true_eq, decide_eq_false_iff_not, bne_iff_ne, bne_eq_false_iff_eq, beq_iff_eq, beq_eq_false_iff_ne, ne_eq, Int.not_lt, Int.not_le, Bool.and_eq_true, Bool.and_eq_false_iff, Bool.or_eq_true, Bool.or_eq_false_iff] at h))))
theorem q_cases {l : List Int} (hz : szs l) {i : Nat} (h : i < l.length) : l.getD i 0 = 2 ∨ l.getD i 0 = 3 ∨ l.getD i 0 = 4 := by
  have := hz i h; omega
theorem sumW_inj {l : List Int} (hs : isSpaceM l = true) {u v : Int} (hu : 0 ≤ u ∧ u < prodM l) (hv : 0 ≤ v ∧ v < prodM l) (w : Int) (h : sumW l u w = sumW l v w) : u = v := by
  have hz := isSpaceM_szs hs
  refine word_eq hz hu hv fun i hi => ?_
  have e := congrArg (fun x => (digM l x).getD i 0) h
  simp only [sumW_dig hz _ _ hi] at e
  have h1 := dig_lt hz u hi
  have h2 := dig_lt hz v hi
  rcases q_cases hz hi with hq | hq | hq <;> rw [hq] at h1 h2 e <;> omega
theorem sumW_assoc {l : List Int} (hs : isSpaceM l = true) (u v w : Int) : sumW l (sumW l u v) w = sumW l u (sumW l v w) := by
  have hz := isSpaceM_szs hs
  refine word_eq hz (sumW_bnd hs _ _) (sumW_bnd hs _ _) fun i hi => ?_
  simp only [sumW_dig hz _ _ hi]
  have h1 := dig_lt hz u hi
  have h2 := dig_lt hz v hi
  have h3 := dig_lt hz w hi
  rcases q_cases hz hi with hq | hq | hq <;> rw [hq] at h1 h2 h3 ⊢ <;> omega
/-- The opposite of a word. -/
def oppD (l a : List Int) : List Int := (List.range l.length).map fun (i : Nat) => (l.getD i 0 - a.getD i 0) % l.getD i 0
@[go_sem] theorem oppD_len (l a : List Int) : (oppD l a).length = l.length := by simp [oppD]
theorem oppD_get {l : List Int} (a : List Int) {i : Nat} (h : i < l.length) : (oppD l a).getD i 0 = (l.getD i 0 - a.getD i 0) % l.getD i 0 := by simp [oppD, h]
theorem oppD_lt {l : List Int} (hz : szs l) (a : List Int) : ∀ i, i < l.length → 0 ≤ (oppD l a).getD i 0 ∧ (oppD l a).getD i 0 < l.getD i 0 := fun i hi => by
  rw [oppD_get a hi]
  have h := hz i hi
  have := mod_bnd (x := l.getD i 0 - a.getD i 0) h
  omega
theorem oppD_bnd {l : List Int} (hz : szs l) (a : List Int) : in4 (oppD l a) := fun i => by
  by_cases h : i < l.length
  · have := oppD_lt hz a i h; have := hz i h; omega
  · rw [List.getD_eq_getElem?_getD, List.getElem?_eq_none (by rw [oppD_len]; omega)]; simp
def oppW (l : List Int) (u : Int) : Int := wordN l (oppD l (digM l u)) l.length
theorem oppW_bnd {l : List Int} (hs : isSpaceM l = true) (u : Int) : 0 ≤ oppW l u ∧ oppW l u < prodM l := by
  have := wordN_bnd (isSpaceM_szs hs) (oppD_lt (isSpaceM_szs hs) (digM l u)) l.length (Nat.le_refl _)
  rwa [List.take_length] at this
theorem oppW_digs {l : List Int} (hz : szs l) (u : Int) : digM l (oppW l u) = oppD l (digM l u) := digM_word hz (oppD_len _ _) (oppD_lt hz _)
theorem oppW_dig {l : List Int} (hz : szs l) (u : Int) {i : Nat} (h : i < l.length) : (digM l (oppW l u)).getD i 0 = (l.getD i 0 - (digM l u).getD i 0) % l.getD i 0 := by
  rw [oppW_digs hz, oppD_get _ h]
/-- u, less w. -/
abbrev difW (l : List Int) (u w : Int) : Int := sumW l u (oppW l w)
theorem difW_bnd {l : List Int} (hs : isSpaceM l = true) (u w : Int) : 0 ≤ difW l u w ∧ difW l u w < prodM l := sumW_bnd hs _ _
theorem dif_sum {l : List Int} (hs : isSpaceM l = true) {u : Int} (hu : 0 ≤ u ∧ u < prodM l) (w : Int) : sumW l (difW l u w) w = u := by
  have hz := isSpaceM_szs hs
  refine word_eq hz (sumW_bnd hs _ _) hu fun i hi => ?_
  simp only [sumW_dig hz _ _ hi, oppW_dig hz _ hi]
  have h1 := dig_lt hz u hi
  have h2 := dig_lt hz w hi
  rcases q_cases hz hi with hq | hq | hq <;> rw [hq] at h1 h2 ⊢ <;> omega
theorem sumW_zero {l : List Int} (hs : isSpaceM l = true) {u : Int} (hu : 0 ≤ u ∧ u < prodM l) : sumW l u 0 = u := by
  have hz := isSpaceM_szs hs
  refine word_eq hz (sumW_bnd hs _ _) hu fun i hi => ?_
  rw [sumW_dig hz _ _ hi, digM_zero]
  have h1 := dig_lt hz u hi
  rw [show (List.replicate l.length (0 : Int)).getD i 0 = 0 by simp [hi], Int.add_zero]; exact Int.emod_eq_of_lt h1.1 h1.2
theorem code_asc {l c : List Int} (hcc : isCodeM l c = true) : Asc c := List.pairwise_iff_getElem.2 fun i k hi hk hik => by
  have := code_nodup hcc i k hik hk
  simpa [hi, hk] using this
theorem map_nodup {c : List Int} {f : Int → Int} (hc : c.Nodup) (hf : ∀ u v, u ∈ c → v ∈ c → f u = f v → u = v) : (c.map f).Nodup := by
  induction c with
  | nil => simp
  | cons x r ih =>
    obtain ⟨h1, h2⟩ := List.nodup_cons.1 hc
    rw [List.map_cons, List.nodup_cons]
    refine ⟨fun hm => ?_, ih h2 fun u v hu hv => hf u v (by simp [hu]) (by simp [hv])⟩
    obtain ⟨y, hy, e⟩ := List.mem_map.1 hm
    have := hf y x (by simp [hy]) (by simp) e
    subst this; exact h1 hy
theorem setI_len_nodup {l : List Int} (h : l.Nodup) : (setI l).length = l.length := by rw [← sortI_nodup h]; exact List.length_mergeSort l
theorem shM_count {l c : List Int} (hs : isSpaceM l = true) (hc : Asc c) (hcw : inC l c) (w : Int) : (shM l c w).length = c.length := by
  rw [shM, setI_len_nodup (map_nodup (asc_nodup hc) fun u v hu hv h => sumW_inj hs (hcw u hu) (hcw v hv) w h), List.length_map]
theorem shM_mem {l c : List Int} {w x : Int} : x ∈ shM l c w ↔ ∃ u, u ∈ c ∧ sumW l u w = x := by rw [setI_mem, List.mem_map]
theorem shM_asc (l c : List Int) (w : Int) : Asc (shM l c w) := setI_asc _
theorem setN_congr {N : Nat} {a b : List Int} : ∀ j, (∀ i, i < j → a.getD i 0 = b.getD i 0) → setN N a j = setN N b j
  | 0, _ => rfl
  | j + 1, h => by rw [setN, setN, setN_congr j (fun i hi => h i (by omega)), h j (by omega)]
theorem setM_snoc (l c : List Int) (u : Int) : setM l (c ++ [u]) = (setM l c).set u.toNat true := by
  show setN _ (c ++ [u]) (c ++ [u]).length = _
  rw [List.length_append, List.length_singleton, setN, setN_congr (b := c) c.length fun i hi => by simp [List.getD_eq_getElem?_getD, List.getElem?_append, hi]]
  congr 2
  simp
theorem setM_get {l c : List Int} (hc : inC l c) {i : Nat} (hi : i < (prodM l).toNat) : (setM l c).getD i false = decide ((i : Int) ∈ c) := by
  have h := setN_get (prodM l).toNat c (fun j hj => (inC_get hc j hj).1) hi c.length (Nat.le_refl _)
  rw [Bool.eq_iff_iff, h, decide_eq_true_eq]
  constructor
  · rintro ⟨k, hk, e⟩; rw [← e]; exact mem_getD hk
  · intro hm
    obtain ⟨k, hk, e⟩ := List.mem_iff_getElem.1 hm
    exact ⟨k, hk, by simp [hk, e]⟩
theorem inC_app {l a b : List Int} (ha : inC l a) (hb : inC l b) : inC l (a ++ b) := fun u hu => by
  rcases List.mem_append.1 hu with h | h
  · exact ha u h
  · exact hb u h
theorem allW_asc (l : List Int) : Asc (allW l) := by
  unfold allW
  exact List.Pairwise.map _ (fun a b h => by omega) List.pairwise_lt_range
theorem allW_mem' {l : List Int} (hs : isSpaceM l = true) (u : Int) : u ∈ allW l ↔ 0 ≤ u ∧ u < prodM l := by
  have := prodM_pos (isSpaceM_szs hs)
  rw [allW_mem]; omega
/-- A set of words is the words that lie in it. -/
theorem setI_filter {l c : List Int} (hs : isSpaceM l = true) (hc : inC l c) : setI c = (allW l).filter fun u => decide (u ∈ c) := by
  refine setI_eq ((allW_asc l).filter _) fun x => ?_
  rw [List.mem_filter, allW_mem' hs, decide_eq_true_eq]
  exact ⟨fun h => h.2, fun h => ⟨hc x h, h⟩⟩
theorem nodup_small {l c : List Int} (hs : isSpaceM l = true) (hc : inC l c) (hn : c.Nodup) : c.length ≤ (prodM l).toNat := by
  have e : c.length = ((allW l).filter fun u => decide (u ∈ c)).length := by rw [← setI_filter hs hc, setI_len_nodup hn]
  rw [e, ← allW_len l]; exact List.length_filter_le _ _
/-- A group of words of a plain space. -/
structure Grp (l c : List Int) : Prop where
  asc : Asc c
  inc : inC l c
  zer : (0 : Int) ∈ c
  clo : ∀ u v, u ∈ c → v ∈ c → sumW l u v ∈ c
/-- w, i times. -/
abbrev mulW (l : List Int) (w : Int) (i : Nat) : Int := addW l 0 w i
theorem mulW_dig {l : List Int} (hz : szs l) (w : Int) (i : Nat) {k : Nat} (h : k < l.length) : (digM l (mulW l w i)).getD k 0 = (i * (digM l w).getD k 0) % l.getD k 0 := by
  rw [mulW, addW_dig hz _ _ h, digM_zero, show (List.replicate l.length (0 : Int)).getD k 0 = 0 by simp [h], Int.zero_add]
theorem mulW_bnd {l : List Int} (hs : isSpaceM l = true) (w : Int) : ∀ i, 0 ≤ mulW l w i ∧ mulW l w i < prodM l
  | 0 => ⟨Int.le_refl _, by have := prodM_pos (isSpaceM_szs hs); show (0 : Int) < prodM l; omega⟩
  | i + 1 => sumW_bnd hs _ _
/-- The code and the first shifted codes, one behind another. -/
def ccN (l c : List Int) (w : Int) : Nat → List Int
  | 0 => c
  | m + 1 => ccN l c w m ++ shM l c (mulW l w (m + 1))
def spS (l c : List Int) (w : Int) : List Int := if w ∈ c then c else setI (ccN l c w (l.getD 0 0 - 1).toNat)
def spN (l ws : List Int) : Nat → List Int
  | 0 => [0]
  | j + 1 => spS l (spN l ws j) (ws.getD j 0)
theorem ccN_in {l c : List Int} (hs : isSpaceM l = true) (hc : inC l c) (w : Int) : ∀ m, inC l (ccN l c w m)
  | 0 => hc
  | m + 1 => inC_app (ccN_in hs hc w m) (shM_in hs _ _)
theorem ccN_mem {l c : List Int} (hs : isSpaceM l = true) (hc : inC l c) (w x : Int) : ∀ m, x ∈ ccN l c w m ↔ ∃ i, i ≤ m ∧ ∃ u, u ∈ c ∧ sumW l u (mulW l w i) = x
  | 0 => by
    constructor
    · intro h; exact ⟨0, Nat.le_refl _, x, h, sumW_zero hs (hc x h)⟩
    · rintro ⟨i, hi, u, hu, e⟩
      have : i = 0 := by omega
      subst this
      rw [show mulW l w 0 = 0 from rfl, sumW_zero hs (hc u hu)] at e
      rw [← e]; exact hu
  | m + 1 => by
    rw [ccN, List.mem_append, ccN_mem hs hc w x m, shM_mem]
    constructor
    · rintro (⟨i, h1, h2⟩ | h)
      · exact ⟨i, by omega, h2⟩
      · exact ⟨m + 1, Nat.le_refl _, h⟩
    · rintro ⟨i, h1, h2⟩
      by_cases e : i = m + 1
      · subst e; exact .inr h2
      · exact .inl ⟨i, by omega, h2⟩
theorem q23 {l : List Int} (hs : isSpaceM l = true) (hp : plainM l = true) {k : Nat} (h : k < l.length) : l.getD k 0 = l.getD 0 0 ∧ (l.getD 0 0 = 2 ∨ l.getD 0 0 = 3) := by
  have h1 := (plainM_ok l).1 hp k h
  have h2 := isSpaceM_szs hs k h
  omega
/-- Two multiples that lie apart by a word of the group: then w is in the group. -/
theorem coset_in {l c : List Int} (hs : isSpaceM l = true) (hp : plainM l = true) (g : Grp l c) {w : Int} (hw : 0 ≤ w ∧ w < prodM l) {i j : Nat} (hij : i < j) (hj : (j : Int) < l.getD 0 0) {u v : Int} (hu : u ∈ c) (hv : v ∈ c) (e : sumW l u (mulW l w i) = sumW l v (mulW l w j)) : w ∈ c := by
  have hz := isSpaceM_szs hs
  have hn := isSpaceM_n hs
  have hd : ∀ k, k < l.length → ((digM l u).getD k 0 + (i * (digM l w).getD k 0) % l.getD k 0) % l.getD k 0 = ((digM l v).getD k 0 + (j * (digM l w).getD k 0) % l.getD k 0) % l.getD k 0 := fun k hk => by
    have := congrArg (fun x => (digM l x).getD k 0) e
    simpa only [sumW_dig hz _ _ hk, mulW_dig hz _ _ hk] using this
  have h0 := (q23 hs hp (k := 0) (by omega)).2
  have one : ∀ x, x ∈ c → (∀ k, k < l.length → (digM l x).getD k 0 = (digM l w).getD k 0) → w ∈ c := fun x hx h => by
    rw [← word_eq hz (g.inc x hx) hw h]; exact hx
  have b3 : ∀ k, k < l.length → _ := fun k hk => And.intro (dig_lt hz u hk) (And.intro (dig_lt hz v hk) (dig_lt hz w hk))
  rcases h0 with hq | hq
  · have : i = 0 := by omega
    have : j = 1 := by omega
    subst i j
    refine one _ (g.clo _ _ hu hv) fun k hk => ?_
    have hk1 := (q23 hs hp hk).1
    have h1 := hd k hk
    have h2 := b3 k hk
    rw [sumW_dig hz _ _ hk]
    rw [hk1, hq] at h1 h2 ⊢
    omega
  · by_cases hd1 : j = i + 1
    · refine one _ (g.clo _ _ (g.clo _ _ hu hv) hv) fun k hk => ?_
      have hk1 := (q23 hs hp hk).1
      have h1 := hd k hk
      have h2 := b3 k hk
      rw [sumW_dig hz _ _ hk, sumW_dig hz _ _ hk]
      rw [hk1, hq] at h1 h2 ⊢
      have hi : i = 0 ∨ i = 1 := by omega
      rcases hi with rfl | rfl
      · subst hd1; simp only [Int.natCast_zero, Int.zero_mul, Int.natCast_one, Int.one_mul, Nat.zero_add] at h1; omega
      · subst hd1
        rw [show ((1 + 1 : Nat) : Int) = 2 from rfl, Int.natCast_one, Int.one_mul] at h1; omega
    · have : i = 0 := by omega
      have : j = 2 := by omega
      subst i j
      refine one _ (g.clo _ _ (g.clo _ _ hu hu) hv) fun k hk => ?_
      have hk1 := (q23 hs hp hk).1
      have h1 := hd k hk
      have h2 := b3 k hk
      rw [sumW_dig hz _ _ hk, sumW_dig hz _ _ hk]
      rw [hk1, hq] at h1 h2 ⊢
      rw [show ((2 : Nat) : Int) = 2 from rfl] at h1
      simp only [Int.natCast_zero, Int.zero_mul] at h1; omega
theorem ccN_nodup {l c : List Int} (hs : isSpaceM l = true) (hp : plainM l = true) (g : Grp l c) {w : Int} (hw : 0 ≤ w ∧ w < prodM l) (hn : w ∉ c) : ∀ m : Nat, (m : Int) < l.getD 0 0 → (ccN l c w m).Nodup
  | 0, _ => asc_nodup g.asc
  | m + 1, h => by
    rw [ccN]
    refine List.nodup_append.2 ⟨ccN_nodup hs hp g hw hn m (by omega), asc_nodup (shM_asc _ _ _), fun a ha b hb e => ?_⟩
    subst e
    obtain ⟨i, hi, u, hu, e1⟩ := (ccN_mem hs g.inc w a m).1 ha
    obtain ⟨v, hv, e2⟩ := shM_mem.1 hb
    exact hn (coset_in hs hp g hw (i := i) (j := m + 1) (by omega) h hu hv (e1.trans e2.symm))
theorem sum4 {l : List Int} (hs : isSpaceM l = true) (hp : plainM l = true) (u v w : Int) (i j : Nat) : sumW l (sumW l u (mulW l w i)) (sumW l v (mulW l w j)) = sumW l (sumW l u v) (mulW l w ((i + j) % (l.getD 0 0).toNat)) := by
  have hz := isSpaceM_szs hs
  refine word_eq hz (sumW_bnd hs _ _) (sumW_bnd hs _ _) fun k hk => ?_
  simp only [sumW_dig hz _ _ hk, mulW_dig hz _ _ hk]
  have h1 := q23 hs hp hk
  rw [h1.1]
  generalize (digM l u).getD k 0 = a
  generalize (digM l v).getD k 0 = b
  generalize (digM l w).getD k 0 = x
  have e : (((i + j) % (l.getD 0 0).toNat : Nat) : Int) = ((i : Int) + j) % l.getD 0 0 := by
    rw [Int.natCast_emod, Int.natCast_add, Int.toNat_of_nonneg (by omega)]
  rw [e]
  generalize l.getD 0 0 = q
  rw [Int.emod_add_emod, Int.add_emod_emod, mul_mod_l]
  have e1 : a + i * x % q + (b + j * x % q) = (a + b) + (i * x % q + j * x % q) := by omega
  rw [Int.add_emod_emod, Int.emod_add_emod, e1, Int.add_emod (a + b) (i * x % q + j * x % q), ← Int.add_emod (i * x) (j * x), ← Int.add_emod (a + b), Int.add_mul]
theorem spS_grp {l c : List Int} (hs : isSpaceM l = true) (hp : plainM l = true) (g : Grp l c) {w : Int} (hw : 0 ≤ w ∧ w < prodM l) : Grp l (spS l c w) := by
  have hn := isSpaceM_n hs
  have hq := (q23 hs hp (k := 0) (by omega)).2
  unfold spS
  split
  · exact g
  · refine ⟨setI_asc _, fun u hu => ?_, ?_, fun u v hu hv => ?_⟩
    · rw [setI_mem] at hu; exact ccN_in hs g.inc w _ u hu
    · rw [setI_mem, ccN_mem hs g.inc]; exact ⟨0, Nat.zero_le _, 0, g.zer, sumW_zero hs (g.inc 0 g.zer)⟩
    · rw [setI_mem, ccN_mem hs g.inc] at hu hv ⊢
      obtain ⟨i, hi, a, ha, rfl⟩ := hu
      obtain ⟨j, hj, b, hb, rfl⟩ := hv
      refine ⟨(i + j) % (l.getD 0 0).toNat, ?_, _, g.clo _ _ ha hb, (sum4 hs hp a b w i j).symm⟩
      have := Nat.mod_lt (i + j) (y := (l.getD 0 0).toNat) (by omega)
      omega
theorem spN_grp {l ws : List Int} (hs : isSpaceM l = true) (hp : plainM l = true) (hw : inC l ws) : ∀ j, j ≤ ws.length → Grp l (spN l ws j)
  | 0, _ => by
    have hp1 := prodM_pos (isSpaceM_szs hs)
    refine ⟨by simp [spN, Asc], fun u hu => ?_, by simp [spN], fun u v hu hv => ?_⟩
    · simp [spN] at hu; subst hu; omega
    · simp [spN] at hu hv ⊢; subst hu hv; exact sumW_zero hs (by omega)
  | j + 1, h => spS_grp hs hp (spN_grp hs hp hw j (by omega)) (hw _ (mem_getD (by omega)))
theorem grp_len {l c : List Int} (hs : isSpaceM l = true) (g : Grp l c) : c.length ≤ (prodM l).toNat := nodup_small hs g.inc (asc_nodup g.asc)
@[go_sem] theorem binA_shru1 {a : Int} (h : 0 ≤ a) (h' : a < 18446744073709551616) : binA .shr (.d (.v (.int .u64 a))) (.d (.v (.int .u64 1))) = some (.d (.v (.int .u64 (a / 2)))) := by
  have e : min (1 : Int).toNat 64 = 1 := rfl
  have h1 : (0 : Int) ≤ 2 ^ 1 := by decide
  simp only [binA, binI, BinOp.isShift, true_or, if_true, if_neg (show ¬ (1 : Int) < 0 by omega), IntKind.bits, e, Option.map_some, Int.fdiv_eq_ediv_of_nonneg _ h1]
  rfl
theorem asc_lt {c : List Int} (h : Asc c) {i k : Nat} (hik : i < k) (hk : k < c.length) : c.getD i 0 < c.getD k 0 := by
  have := List.pairwise_iff_getElem.1 h i k (by omega) hk hik
  simpa [show i < c.length by omega, hk] using this
@[go_sem] theorem capA_nil : capA (.d nil) = some (.d (di 0)) := rfl
@[go_sem] theorem capA_nil' : capA (.d (.v (.slice none 0 0))) = some (.d (di 0)) := rfl
theorem areW_inC {l ws : List Int} (h : areW l ws = true) : inC l ws := fun u hu => by
  obtain ⟨i, hi, e⟩ := List.mem_iff_getElem.1 hu
  have := (areW_ok l ws).1 h i hi
  rw [← e]; simpa [hi] using this
theorem d_spec_l05Span (l ws : List Int) (hs : isSpaceM l = true) (hp : plainM l = true) (hww : inC l ws) (hw20 : ws.length ≤ 20) : Den PA f_spec_l05Span [.d (.agg [ints l]), .d (ints ws)] [.any, .any] (.own 1 ((spN l ws ws.length).map di)) := by
  have hn := isSpaceM_n hs
  have hpr := isSpaceM_prod hs
  have hp1 := prodM_pos (isSpaceM_szs hs)
  have hq := (q23 hs hp (k := 0) (by omega)).2
  refine den_go [] l_spec_l05Span ?_
  repeat' (first | simp -implicitDefEqProofs (maxSteps := 1000000) (disch := (first | omega | (simp only [go_sem] <;> omega) | fail)) only [go_sem, ints, bools, mat, c_spec_l05Span] | ((first | refine goIf_b (fun h => ?_) (fun h => ?_) | refine goG_b (fun h => ?_) (fun h => ?_) | refine goTG_b (fun h => ?_) (fun h => ?_) | refine goOG_b (fun h => ?_) (fun h => ?_)) <;> ((try simp only [Bool.not_eq_true', Bool.not_eq_false'] at h); (try simp only [h]); (try simp only [decide_eq_true_eq, decide_eq_false_iff_not, bne_iff_ne, bne_eq_false_iff_eq, beq_iff_eq, beq_eq_false_iff_ne, ne_eq, Int.not_lt, Int.not_le, Bool.and_eq_true, Bool.and_eq_false_iff, Bool.or_eq_true, Bool.or_eq_false_iff] at h)) <;> (try (exfalso; omega))))
  refine go_loop (fun (j : Nat) => ⟨[(1, .d (ints ws)), (2, .ref 0 0), (5, .sl 1 0 (spN l ws j).length 1), (14, .d (di ws.length)), (15, .d (di j))], [some (.var [ints l]), some (.dat 1 ((spN l ws j).map di))]⟩) (fun j => j ≤ ws.length) (fun j => ws.length - j) 0 ?_ ?_ ?_
  · (simp -implicitDefEqProofs (maxSteps := 1000000) (disch := (first | omega | (simp only [go_sem] <;> omega) | fail)) only [go_sem, ints, bools, mat] <;> rfl)
  · simp
  · rintro j hj J hJ
    have g := spN_grp hs hp hww j hj
    have hgl := grp_len hs g
    by_cases hjl : j < ws.length
    · have hwj := inC_get hww j hjl
      repeat' (first | simp -implicitDefEqProofs (maxSteps := 1000000) (disch := (first | omega | (simp only [go_sem] <;> omega) | fail)) only [go_sem, ints, bools, mat] | ((first | refine goIf_b (fun h => ?_) (fun h => ?_) | refine goG_b (fun h => ?_) (fun h => ?_) | refine goTG_b (fun h => ?_) (fun h => ?_) | refine goOG_b (fun h => ?_) (fun h => ?_)) <;> ((try simp only [Bool.not_eq_true', Bool.not_eq_false'] at h); (try simp only [h]); (try simp only [decide_eq_true_eq, decide_eq_false_iff_not, bne_iff_ne, bne_eq_false_iff_eq, beq_iff_eq, beq_eq_false_iff_ne, ne_eq, Int.not_lt, Int.not_le, Bool.and_eq_true, Bool.and_eq_false_iff, Bool.or_eq_true, Bool.or_eq_false_iff] at h)) <;> (try (exfalso; omega))))
      first | refine goC_call [.r, .r] (d_spec_l01Has (spN l ws j) (ws.getD j 0) (by omega)) ?_ | refine goOC_call [.r, .r] (d_spec_l01Has (spN l ws j) (ws.getD j 0) (by omega)) ?_
      by_cases hm : ws.getD j 0 ∈ spN l ws j
      · rw [show ((spN l ws j).any fun y => y == ws.getD j 0) = true by rw [List.any_eq_true]; exact ⟨_, hm, by simp⟩]
        repeat' (first | simp -implicitDefEqProofs (maxSteps := 1000000) (disch := (first | omega | (simp only [go_sem] <;> omega) | fail)) only [go_sem, ints, bools, mat] | ((first | refine goIf_b (fun h => ?_) (fun h => ?_) | refine goG_b (fun h => ?_) (fun h => ?_) | refine goTG_b (fun h => ?_) (fun h => ?_) | refine goOG_b (fun h => ?_) (fun h => ?_)) <;> ((try simp only [Bool.not_eq_true', Bool.not_eq_false'] at h); (try simp only [h]); (try simp only [decide_eq_true_eq, decide_eq_false_iff_not, bne_iff_ne, bne_eq_false_iff_eq, beq_iff_eq, beq_eq_false_iff_ne, ne_eq, Int.not_lt, Int.not_le, Bool.and_eq_true, Bool.and_eq_false_iff, Bool.or_eq_true, Bool.or_eq_false_iff] at h)) <;> (try (exfalso; omega))))
        refine hJ (j + 1) (by omega) (by omega) _ ?_
        simp -implicitDefEqProofs (maxSteps := 1000000) (disch := (first | omega | (simp only [go_sem] <;> omega) | fail)) only [go_sem, ints, bools, mat]
        rw [spN, spS, if_pos hm]; rfl
      · rw [show ((spN l ws j).any fun y => y == ws.getD j 0) = false by rw [List.any_eq_false]; intro y hy e; simp at e; rw [e] at hy; exact hm hy]
        have hC := g.inc
        have hsp : spS l (spN l ws j) (ws.getD j 0) = setI (ccN l (spN l ws j) (ws.getD j 0) (l.getD 0 0 - 1).toNat) := by rw [spS, if_neg hm]
        have hcl : ∀ i : Nat, (i : Int) < l.getD 0 0 → (ccN l (spN l ws j) (ws.getD j 0) i).length ≤ (prodM l).toNat := fun i hi => nodup_small hs (ccN_in hs hC _ i) (ccN_nodup hs hp g hwj hm i hi)
        repeat' (first | simp -implicitDefEqProofs (maxSteps := 1000000) (disch := (first | omega | (simp only [go_sem] <;> omega) | fail)) only [go_sem, ints, bools, mat] | ((first | refine goIf_b (fun h => ?_) (fun h => ?_) | refine goG_b (fun h => ?_) (fun h => ?_) | refine goTG_b (fun h => ?_) (fun h => ?_) | refine goOG_b (fun h => ?_) (fun h => ?_)) <;> ((try simp only [Bool.not_eq_true', Bool.not_eq_false'] at h); (try simp only [h]); (try simp only [decide_eq_true_eq, decide_eq_false_iff_not, bne_iff_ne, bne_eq_false_iff_eq, beq_iff_eq, beq_eq_false_iff_ne, ne_eq, Int.not_lt, Int.not_le, Bool.and_eq_true, Bool.and_eq_false_iff, Bool.or_eq_true, Bool.or_eq_false_iff] at h)) <;> (try (exfalso; omega))))
        first | refine goC_call [.r] (d_spec_l01Own (spN l ws j) (by omega)) ?_ | refine goOC_call [.r] (d_spec_l01Own (spN l ws j) (by omega)) ?_
        repeat' (first | simp -implicitDefEqProofs (maxSteps := 1000000) (disch := (first | omega | (simp only [go_sem] <;> omega) | fail)) only [go_sem, ints, bools, mat] | ((first | refine goIf_b (fun h => ?_) (fun h => ?_) | refine goG_b (fun h => ?_) (fun h => ?_) | refine goTG_b (fun h => ?_) (fun h => ?_) | refine goOG_b (fun h => ?_) (fun h => ?_)) <;> ((try simp only [Bool.not_eq_true', Bool.not_eq_false'] at h); (try simp only [h]); (try simp only [decide_eq_true_eq, decide_eq_false_iff_not, bne_iff_ne, bne_eq_false_iff_eq, beq_iff_eq, beq_eq_false_iff_ne, ne_eq, Int.not_lt, Int.not_le, Bool.and_eq_true, Bool.and_eq_false_iff, Bool.or_eq_true, Bool.or_eq_false_iff] at h)) <;> (try (exfalso; omega))))
        refine go_loop (fun (i : Nat) => ⟨[(1, .d (ints ws)), (2, .ref 0 0), (5, .sl 1 0 (spN l ws j).length 1), (6, .d (di j)), (7, .sl 2 0 (ccN l (spN l ws j) (ws.getD j 0) i).length 1), (8, .d (di (mulW l (ws.getD j 0) i))), (9, .d (di ((i + 1 : Nat) : Int))), (14, .d (di ws.length)), (15, .d (di j))], [some (.var [ints l]), some (.dat 1 ((spN l ws j).map di)), some (.dat 1 ((ccN l (spN l ws j) (ws.getD j 0) i).map di))]⟩) (fun i => (i : Int) ≤ l.getD 0 0 - 1) (fun i => (l.getD 0 0 - 1).toNat - i) 0 ?_ ?_ ?_
        · (simp -implicitDefEqProofs (maxSteps := 1000000) (disch := (first | omega | (simp only [go_sem] <;> omega) | fail)) only [go_sem, ints, bools, mat] <;> rfl)
        · omega
        · rintro i hi J' hJ'
          have hmb := mulW_bnd hs (ws.getD j 0) i
          have hmb2 := mulW_bnd hs (ws.getD j 0) (i + 1)
          have hli := hcl i (by omega)
          by_cases hil : (i : Int) < l.getD 0 0 - 1
          · have hli2 := hcl (i + 1) (by omega)
            rw [ccN, List.length_append] at hli2
            repeat' (first | simp -implicitDefEqProofs (maxSteps := 1000000) (disch := (first | omega | (simp only [go_sem] <;> omega) | fail)) only [go_sem, ints, bools, mat] | ((first | refine goIf_b (fun h => ?_) (fun h => ?_) | refine goG_b (fun h => ?_) (fun h => ?_) | refine goTG_b (fun h => ?_) (fun h => ?_) | refine goOG_b (fun h => ?_) (fun h => ?_)) <;> ((try simp only [Bool.not_eq_true', Bool.not_eq_false'] at h); (try simp only [h]); (try simp only [decide_eq_true_eq, decide_eq_false_iff_not, bne_iff_ne, bne_eq_false_iff_eq, beq_iff_eq, beq_eq_false_iff_ne, ne_eq, Int.not_lt, Int.not_le, Bool.and_eq_true, Bool.and_eq_false_iff, Bool.or_eq_true, Bool.or_eq_false_iff] at h)) <;> (try (exfalso; omega))))
            first | refine goC_call [.r, .r, .r] (d_spec_l01Sum l hs (mulW l (ws.getD j 0) i) (ws.getD j 0) (by omega) (by omega) (by omega) (by omega)) ?_ | refine goOC_call [.r, .r, .r] (d_spec_l01Sum l hs (mulW l (ws.getD j 0) i) (ws.getD j 0) (by omega) (by omega) (by omega) (by omega)) ?_
            rw [show sumW l (mulW l (ws.getD j 0) i) (ws.getD j 0) = mulW l (ws.getD j 0) (i + 1) from rfl]
            repeat' (first | simp -implicitDefEqProofs (maxSteps := 1000000) (disch := (first | omega | (simp only [go_sem] <;> omega) | fail)) only [go_sem, ints, bools, mat] | ((first | refine goIf_b (fun h => ?_) (fun h => ?_) | refine goG_b (fun h => ?_) (fun h => ?_) | refine goTG_b (fun h => ?_) (fun h => ?_) | refine goOG_b (fun h => ?_) (fun h => ?_)) <;> ((try simp only [Bool.not_eq_true', Bool.not_eq_false'] at h); (try simp only [h]); (try simp only [decide_eq_true_eq, decide_eq_false_iff_not, bne_iff_ne, bne_eq_false_iff_eq, beq_iff_eq, beq_eq_false_iff_ne, ne_eq, Int.not_lt, Int.not_le, Bool.and_eq_true, Bool.and_eq_false_iff, Bool.or_eq_true, Bool.or_eq_false_iff] at h)) <;> (try (exfalso; omega))))
            first | refine goC_call [.r, .r, .r] (d_spec_l01Shifted l (spN l ws j) hs (by omega) hC (mulW l (ws.getD j 0) (i + 1)) (by omega) (by omega)) ?_ | refine goOC_call [.r, .r, .r] (d_spec_l01Shifted l (spN l ws j) hs (by omega) hC (mulW l (ws.getD j 0) (i + 1)) (by omega) (by omega)) ?_
            repeat' (first | simp -implicitDefEqProofs (maxSteps := 1000000) (disch := (first | omega | (simp only [go_sem] <;> omega) | fail)) only [go_sem, ints, bools, mat] | ((first | refine goIf_b (fun h => ?_) (fun h => ?_) | refine goG_b (fun h => ?_) (fun h => ?_) | refine goTG_b (fun h => ?_) (fun h => ?_) | refine goOG_b (fun h => ?_) (fun h => ?_)) <;> ((try simp only [Bool.not_eq_true', Bool.not_eq_false'] at h); (try simp only [h]); (try simp only [decide_eq_true_eq, decide_eq_false_iff_not, bne_iff_ne, bne_eq_false_iff_eq, beq_iff_eq, beq_eq_false_iff_ne, ne_eq, Int.not_lt, Int.not_le, Bool.and_eq_true, Bool.and_eq_false_iff, Bool.or_eq_true, Bool.or_eq_false_iff] at h)) <;> (try (exfalso; omega))))
            refine hJ' (i + 1) (by omega) (by omega) _ ?_
            simp -implicitDefEqProofs (maxSteps := 1000000) (disch := (first | omega | (simp only [go_sem] <;> omega) | fail)) only [go_sem, ints, bools, mat]
            rw [ccN, List.length_append]; rfl
          · have hie : (l.getD 0 0 - 1).toNat = i := by omega
            rw [hie] at hsp
            repeat' (first | simp -implicitDefEqProofs (maxSteps := 1000000) (disch := (first | omega | (simp only [go_sem] <;> omega) | fail)) only [go_sem, ints, bools, mat] | ((first | refine goIf_b (fun h => ?_) (fun h => ?_) | refine goG_b (fun h => ?_) (fun h => ?_) | refine goTG_b (fun h => ?_) (fun h => ?_) | refine goOG_b (fun h => ?_) (fun h => ?_)) <;> ((try simp only [Bool.not_eq_true', Bool.not_eq_false'] at h); (try simp only [h]); (try simp only [decide_eq_true_eq, decide_eq_false_iff_not, bne_iff_ne, bne_eq_false_iff_eq, beq_iff_eq, beq_eq_false_iff_ne, ne_eq, Int.not_lt, Int.not_le, Bool.and_eq_true, Bool.and_eq_false_iff, Bool.or_eq_true, Bool.or_eq_false_iff] at h)) <;> (try (exfalso; omega))))
            first | refine goC_call [.r, .r] (d_spec_l05Set l (ccN l (spN l ws j) (ws.getD j 0) i) hs (by omega) (inC_get (ccN_in hs hC _ i))) ?_ | refine goOC_call [.r, .r] (d_spec_l05Set l (ccN l (spN l ws j) (ws.getD j 0) i) hs (by omega) (inC_get (ccN_in hs hC _ i))) ?_
            repeat' (first | simp -implicitDefEqProofs (maxSteps := 1000000) (disch := (first | omega | (simp only [go_sem] <;> omega) | fail)) only [go_sem, ints, bools, mat] | ((first | refine goIf_b (fun h => ?_) (fun h => ?_) | refine goG_b (fun h => ?_) (fun h => ?_) | refine goTG_b (fun h => ?_) (fun h => ?_) | refine goOG_b (fun h => ?_) (fun h => ?_)) <;> ((try simp only [Bool.not_eq_true', Bool.not_eq_false'] at h); (try simp only [h]); (try simp only [decide_eq_true_eq, decide_eq_false_iff_not, bne_iff_ne, bne_eq_false_iff_eq, beq_iff_eq, beq_eq_false_iff_ne, ne_eq, Int.not_lt, Int.not_le, Bool.and_eq_true, Bool.and_eq_false_iff, Bool.or_eq_true, Bool.or_eq_false_iff] at h)) <;> (try (exfalso; omega))))
            have hgs := fun (k : Nat) h => setM_get (ccN_in hs hC (ws.getD j 0) i) (i := k) h
            refine go_loop (fun (k : Nat) => ⟨[(1, .d (ints ws)), (2, .ref 0 0), (5, .sl 1 0 (((allW l).take k).filter fun u => decide (u ∈ ccN l (spN l ws j) (ws.getD j 0) i)).length 1), (10, .sl 2 0 (prodM l).toNat 1), (14, .d (di ws.length)), (15, .d (di j)), (52, .d (di (prodM l).toNat)), (53, .d (di k))], [some (.var [ints l]), some (.dat 1 ((((allW l).take k).filter fun u => decide (u ∈ ccN l (spN l ws j) (ws.getD j 0) i)).map di)), some (.dat 1 ((setM l (ccN l (spN l ws j) (ws.getD j 0) i)).map db))]⟩) (fun k => k ≤ (prodM l).toNat) (fun k => (prodM l).toNat - k) 0 ?_ ?_ ?_
            · (simp -implicitDefEqProofs (maxSteps := 1000000) (disch := (first | omega | (simp only [go_sem] <;> omega) | fail)) only [go_sem, ints, bools, mat] <;> rfl)
            · omega
            · rintro k hk J2 hJ2
              have hgk := hgs k
              have hfl := filter_len_le (fun u => decide (u ∈ ccN l (spN l ws j) (ws.getD j 0) i)) ((allW l).take k) k (by simp; omega)
              repeat' (first | simp -implicitDefEqProofs (maxSteps := 1000000) (disch := (first | omega | (simp only [go_sem] <;> omega) | fail)) only [go_sem, ints, bools, mat] | ((first | refine goIf_b (fun h => ?_) (fun h => ?_) | refine goG_b (fun h => ?_) (fun h => ?_) | refine goTG_b (fun h => ?_) (fun h => ?_) | refine goOG_b (fun h => ?_) (fun h => ?_)) <;> ((try simp only [Bool.not_eq_true', Bool.not_eq_false'] at h); (try simp only [h]); (try simp only [decide_eq_true_eq, decide_eq_false_iff_not, bne_iff_ne, bne_eq_false_iff_eq, beq_iff_eq, beq_eq_false_iff_ne, ne_eq, Int.not_lt, Int.not_le, Bool.and_eq_true, Bool.and_eq_false_iff, Bool.or_eq_true, Bool.or_eq_false_iff] at h)) <;> (try (exfalso; omega))))
              · rw [hgk (by omega)] at h
                refine hJ2 (k + 1) (by omega) (by omega) _ ?_
                simp -implicitDefEqProofs (maxSteps := 1000000) (disch := (first | omega | (simp only [go_sem] <;> omega) | fail)) only [go_sem, ints, bools, mat]
                rw [take_allW l (by omega), List.filter_append, show [(k : Int)].filter (fun u => decide (u ∈ ccN l (spN l ws j) (ws.getD j 0) i)) = [(k : Int)] from by rw [List.filter_cons, if_pos h, List.filter_nil], List.length_append]; rfl
              · rw [hgk (by omega)] at h
                refine hJ2 (k + 1) (by omega) (by omega) _ ?_
                simp -implicitDefEqProofs (maxSteps := 1000000) (disch := (first | omega | (simp only [go_sem] <;> omega) | fail)) only [go_sem, ints, bools, mat]
                rw [take_allW l (by omega), List.filter_append, show [(k : Int)].filter (fun u => decide (u ∈ ccN l (spN l ws j) (ws.getD j 0) i)) = [] from by rw [List.filter_cons, if_neg (by rw [h]; simp), List.filter_nil], List.append_nil]; rfl
              · have : k = (prodM l).toNat := by omega
                subst this
                refine hJ (j + 1) (by omega) (by omega) _ ?_
                simp -implicitDefEqProofs (maxSteps := 1000000) (disch := (first | omega | (simp only [go_sem] <;> omega) | fail)) only [go_sem, ints, bools, mat]
                rw [spN, hsp, setI_filter hs (ccN_in hs hC _ i)]; rfl
    · have : j = ws.length := by omega
      subst this
      repeat' (first | simp -implicitDefEqProofs (maxSteps := 1000000) (disch := (first | omega | (simp only [go_sem] <;> omega) | fail)) only [go_sem, ints, bools, mat] | ((first | refine goIf_b (fun h => ?_) (fun h => ?_) | refine goG_b (fun h => ?_) (fun h => ?_) | refine goTG_b (fun h => ?_) (fun h => ?_) | refine goOG_b (fun h => ?_) (fun h => ?_)) <;> ((try simp only [Bool.not_eq_true', Bool.not_eq_false'] at h); (try simp only [h]); (try simp only [decide_eq_true_eq, decide_eq_false_iff_not, bne_iff_ne, bne_eq_false_iff_eq, beq_iff_eq, beq_eq_false_iff_ne, ne_eq, Int.not_lt, Int.not_le, Bool.and_eq_true, Bool.and_eq_false_iff, Bool.or_eq_true, Bool.or_eq_false_iff] at h)) <;> (try (exfalso; omega))))
theorem lin_grp {l c : List Int} (hs : isSpaceM l = true) (hcc : isCodeM l c = true) (hl : linB l c = true) : Grp l c := by
  refine ⟨code_asc hcc, inC_code hcc, ?_, fun u v hu hv => lin_clo hs hcc hl hu hv⟩
  have h0 : (setM l c).getD 0 false = true := by
    unfold linB at hl; simp only [Bool.and_eq_true] at hl; exact hl.1.2
  obtain ⟨h1, h2⟩ := (zero_in hs hcc).1 h0
  rw [← h2]; exact mem_getD (by omega)
theorem grp_opp {l c : List Int} (hs : isSpaceM l = true) (hp : plainM l = true) (g : Grp l c) {u : Int} (hu : u ∈ c) : oppW l u ∈ c := by
  have hz := isSpaceM_szs hs
  have hn := isSpaceM_n hs
  rcases (q23 hs hp (k := 0) (by omega)).2 with hq | hq
  · have e : oppW l u = u := word_eq hz (oppW_bnd hs u) (g.inc u hu) fun i hi => by
      rw [oppW_dig hz _ hi]
      have h1 := dig_lt hz u hi
      rw [(q23 hs hp hi).1, hq] at h1 ⊢
      omega
    rw [e]; exact hu
  · have e : oppW l u = sumW l u u := word_eq hz (oppW_bnd hs u) (sumW_bnd hs _ _) fun i hi => by
      rw [oppW_dig hz _ hi, sumW_dig hz _ _ hi]
      have h1 := dig_lt hz u hi
      rw [(q23 hs hp hi).1, hq] at h1 ⊢
      omega
    rw [e]; exact g.clo _ _ hu hu
theorem sh_self {l c : List Int} (hs : isSpaceM l = true) (g : Grp l c) {w : Int} (hw : 0 ≤ w ∧ w < prodM l) : w ∈ shM l c w :=
  shM_mem.2 ⟨0, g.zer, by rw [sumW_comm, sumW_zero hs hw]⟩
theorem sum_cancel {l : List Int} (hs : isSpaceM l = true) (b a w : Int) : sumW l (sumW l b (oppW l a)) (sumW l a w) = sumW l b w := by
  have hz := isSpaceM_szs hs
  refine word_eq hz (sumW_bnd hs _ _) (sumW_bnd hs _ _) fun i hi => ?_
  simp only [sumW_dig hz _ _ hi, oppW_dig hz _ hi]
  have h1 := dig_lt hz b hi
  have h2 := dig_lt hz a hi
  have h3 := dig_lt hz w hi
  rcases q_cases hz hi with hq | hq | hq <;> rw [hq] at h1 h2 h3 ⊢ <;> omega
theorem sh_cls {l c : List Int} (hs : isSpaceM l = true) (hp : plainM l = true) (g : Grp l c) {u w : Int} (hu : u ∈ shM l c w) : shM l c u = shM l c w := by
  obtain ⟨a, ha, rfl⟩ := shM_mem.1 hu
  refine asc_ext (shM_asc _ _ _) (shM_asc _ _ _) fun x => ?_
  rw [shM_mem, shM_mem]
  constructor
  · rintro ⟨b, hb, rfl⟩; exact ⟨sumW l b a, g.clo _ _ hb ha, sumW_assoc hs b a w⟩
  · rintro ⟨b, hb, rfl⟩; exact ⟨sumW l b (oppW l a), g.clo _ _ hb (grp_opp hs hp g ha), sum_cancel hs b a w⟩
/-- The weight of a word. -/
abbrev wtM (l : List Int) (x : Int) : Int := distM l 0 x
/-- The best of the first words of a list. -/
def bstN (l L : List Int) : Nat → Int
  | 0 => L.getD 0 0
  | k + 1 => if wtM l (L.getD k 0) < wtM l (bstN l L k) then L.getD k 0 else bstN l L k
theorem bstN_ok (l : List Int) {L : List Int} (hL : 0 < L.length) : ∀ k, k ≤ L.length → ∃ i, i < L.length ∧ (i < k ∨ i = 0) ∧ bstN l L k = L.getD i 0 ∧ ∀ j, j < k → wtM l (L.getD i 0) ≤ wtM l (L.getD j 0) ∧ (wtM l (L.getD i 0) = wtM l (L.getD j 0) → i ≤ j)
  | 0, _ => ⟨0, hL, .inr rfl, rfl, fun j h => by omega⟩
  | k + 1, hk => by
    obtain ⟨i, h1, h2, h3, h4⟩ := bstN_ok l hL k (by omega)
    rw [bstN, h3]
    by_cases h : wtM l (L.getD k 0) < wtM l (L.getD i 0)
    · rw [if_pos h]
      refine ⟨k, by omega, .inl (by omega), rfl, fun j hj => ?_⟩
      by_cases e : j = k
      · subst e; exact ⟨Int.le_refl _, fun _ => Nat.le_refl _⟩
      · have := h4 j (by omega)
        exact ⟨by omega, fun e => by omega⟩
    · rw [if_neg h]
      refine ⟨i, h1, by omega, rfl, fun j hj => ?_⟩
      by_cases e : j = k
      · subst e; exact ⟨by omega, fun _ => by omega⟩
      · exact h4 j (by omega)
/-- The leader of the class of a word. -/
def ldW (l c : List Int) (w : Int) : Int := bstN l (shM l c w) (shM l c w).length
theorem ld_ok {l c : List Int} (hs : isSpaceM l = true) (g : Grp l c) {w : Int} (hw : 0 ≤ w ∧ w < prodM l) :
    ldW l c w ∈ shM l c w ∧ ∀ x, x ∈ shM l c w → wtM l (ldW l c w) ≤ wtM l x ∧ (wtM l (ldW l c w) = wtM l x → ldW l c w ≤ x) := by
  have h0 := List.length_pos_of_mem (sh_self hs g hw)
  obtain ⟨i, h1, _, h3, h4⟩ := bstN_ok l h0 (shM l c w).length (Nat.le_refl _)
  rw [ldW, h3]
  refine ⟨mem_getD h1, fun x hx => ?_⟩
  obtain ⟨j, hj, rfl⟩ := List.mem_iff_getElem.1 hx
  have e : (shM l c w)[j] = (shM l c w).getD j 0 := by simp [hj]
  rw [e]
  refine ⟨(h4 j hj).1, fun h => ?_⟩
  have := (h4 j hj).2 h
  rcases Nat.lt_or_ge i j with q | q
  · exact Int.le_of_lt (asc_lt (shM_asc _ _ _) q hj)
  · have : i = j := by omega
    rw [this]; exact Int.le_refl _
theorem ld_bnd {l c : List Int} (hs : isSpaceM l = true) (g : Grp l c) {w : Int} (hw : 0 ≤ w ∧ w < prodM l) : 0 ≤ ldW l c w ∧ ldW l c w < prodM l := shM_in hs _ _ _ (ld_ok hs g hw).1
theorem ld_cls {l c : List Int} (hs : isSpaceM l = true) (hp : plainM l = true) (g : Grp l c) {u w : Int} (hu : u ∈ shM l c w) : ldW l c u = ldW l c w := by
  unfold ldW; rw [sh_cls hs hp g hu]
theorem ld_fix {l c : List Int} (hs : isSpaceM l = true) (hp : plainM l = true) (g : Grp l c) {w : Int} (hw : 0 ≤ w ∧ w < prodM l) : ldW l c (ldW l c w) = ldW l c w := ld_cls hs hp g (ld_ok hs g hw).1
theorem sh_symm {l c : List Int} (hs : isSpaceM l = true) (hp : plainM l = true) (g : Grp l c) {u w : Int} (hu : 0 ≤ u ∧ u < prodM l) (hw : 0 ≤ w ∧ w < prodM l) (h : u ∈ shM l c w) : w ∈ shM l c u := by
  rw [sh_cls hs hp g h]; exact sh_self hs g hw
def kltB (l : List Int) (t w : Int) (x : Int) : Bool := decide (wtM l x < t ∨ (wtM l x = t ∧ x < w))
def ldL (l c : List Int) (t w : Int) : List Int := (allW l).map fun u => if kltB l t w (ldW l c u) then ldW l c u else -1
@[go_sem] theorem ldL_len (l c : List Int) (t w : Int) : (ldL l c t w).length = (prodM l).toNat := by simp [ldL, allW_len]
theorem ldL_get (l c : List Int) (t w : Int) {i : Nat} (hi : i < (prodM l).toNat) : (ldL l c t w).getD i 0 = if kltB l t w (ldW l c i) then ldW l c i else -1 := by
  have h := allW_get l hi
  have h2 : i < (allW l).length := by rw [allW_len]; exact hi
  have h3 : (allW l)[i] = (i : Int) := by simpa [h2] using h
  simp [ldL, List.getD_eq_getElem?_getD, h2, h3]
theorem wt_bnd (l : List Int) (x : Int) : 0 ≤ wtM l x ∧ wtM l x ≤ l.length := by
  have := distM_bnd l 0 x; omega
theorem ldL_first {l c : List Int} (hs : isSpaceM l = true) (g : Grp l c) : ldL l c 0 0 = List.replicate (prodM l).toNat (-1) := by
  refine eq_getD (by simp [ldL_len]) fun j hj => ?_
  rw [ldL_len] at hj
  rw [ldL_get _ _ _ _ hj]
  have h1 := wt_bnd l (ldW l c j)
  have h2 := ld_bnd hs g (w := j) (by omega)
  rw [if_neg]
  · simp [hj]
  · unfold kltB; simp only [decide_eq_true_eq]; omega
theorem ldL_next {l c : List Int} (hs : isSpaceM l = true) (g : Grp l c) (t : Int) : ldL l c t (prodM l) = ldL l c (t + 1) 0 := by
  refine eq_getD (by simp [ldL_len]) fun j hj => ?_
  rw [ldL_len] at hj
  rw [ldL_get _ _ _ _ hj, ldL_get _ _ _ _ hj]
  have h1 := ld_bnd hs g (w := j) (by omega)
  have e : kltB l t (prodM l) (ldW l c j) = kltB l (t + 1) 0 (ldW l c j) := by
    unfold kltB; exact decide_eq_decide.2 (by omega)
  rw [e]
theorem ldL_last {l c : List Int} {t : Int} (ht : l.length < t) : ldL l c t 0 = (allW l).map (ldW l c) := by
  unfold ldL
  refine List.map_congr_left fun u _ => ?_
  rw [if_pos]
  have := wt_bnd l (ldW l c u)
  exact decide_eq_true (.inl (by omega))
/-- A word that is no leader of its weight changes nothing. -/
theorem ldL_skip {l c : List Int} (hs : isSpaceM l = true) (hp : plainM l = true) (g : Grp l c) {t : Int} {w : Nat} (hw : w < (prodM l).toNat) (h : 0 ≤ (ldL l c t w).getD w 0 ∨ wtM l w ≠ t) : ldL l c t (w + 1 : Nat) = ldL l c t w := by
  refine eq_getD (by simp [ldL_len]) fun j hj => ?_
  rw [ldL_len] at hj
  rw [ldL_get _ _ _ _ hj, ldL_get _ _ _ _ hj]
  have hwb : (0 : Int) ≤ w ∧ (w : Int) < prodM l := by omega
  have e : kltB l t (w + 1 : Nat) (ldW l c j) = kltB l t w (ldW l c j) := by
    unfold kltB
    refine decide_eq_decide.2 ⟨?_, by omega⟩
    rintro (h1 | ⟨h1, h2⟩)
    · exact .inl h1
    · by_cases e : ldW l c j = w
      · exfalso
        have h3 : ldW l c w = w := by
          rw [← e]; exact ld_fix hs hp g (by omega)
        rcases h with h | h
        · rw [ldL_get _ _ _ _ hw, h3] at h
          unfold kltB at h
          rw [if_neg] at h
          · omega
          · rw [e] at h1; simp; omega
        · rw [e] at h1; exact h h1
      · exact .inr ⟨h1, by omega⟩
  rw [e]
/-- Places of a list set to v. -/
def stN (X L : List Int) (v : Int) : Nat → List Int
  | 0 => X
  | k + 1 => (stN X L v k).set (L.getD k 0).toNat v
@[go_sem] theorem stN_len (X L : List Int) (v : Int) : ∀ k, (stN X L v k).length = X.length
  | 0 => rfl
  | k + 1 => by rw [stN, List.length_set, stN_len X L v k]
theorem stN_get {X L : List Int} (v : Int) (hL : ∀ k, k < L.length → 0 ≤ L.getD k 0) {i : Nat} (hi : i < X.length) : ∀ k, k ≤ L.length → (stN X L v k).getD i 0 = if (i : Int) ∈ L.take k then v else X.getD i 0
  | 0, _ => by simp [stN]
  | k + 1, hk => by
    have h0 := hL k (by omega)
    have ht : L.take (k + 1) = L.take k ++ [L.getD k 0] := take_one L (by omega)
    rw [stN, ht, List.getD_eq_getElem?_getD, List.getElem?_set]
    by_cases h : (L.getD k 0).toNat = i
    · rw [if_pos h, if_pos (by rw [stN_len]; omega), if_pos (List.mem_append.2 (.inr (List.mem_singleton.2 (by omega))))]; rfl
    · rw [if_neg h, ← List.getD_eq_getElem?_getD, stN_get v hL hi k (by omega)]
      have e : ((i : Int) ∈ L.take k ++ [L.getD k 0]) ↔ (i : Int) ∈ L.take k := by
        rw [List.mem_append]
        exact ⟨fun h2 => h2.elim id fun h3 => by simp only [List.mem_singleton] at h3; omega, .inl⟩
      by_cases h2 : (i : Int) ∈ L.take k
      · rw [if_pos h2, if_pos (e.2 h2)]
      · rw [if_neg h2, if_neg fun h3 => h2 (e.1 h3)]
theorem ldL_set {l c : List Int} (hs : isSpaceM l = true) (hp : plainM l = true) (g : Grp l c) {t : Int} {w : Nat} (hw : w < (prodM l).toNat) (h : (ldL l c t w).getD w 0 < 0) (ht : wtM l w = t) :
    stN (ldL l c t w) (shM l c w) w (shM l c w).length = ldL l c t (w + 1 : Nat) := by
  have hwb : (0 : Int) ≤ w ∧ (w : Int) < prodM l := by omega
  have hin := inC_get (shM_in hs c w)
  have hok := ld_ok hs g hwb
  have hself := hok.2 w (sh_self hs g hwb)
  have hlb := ld_bnd hs g hwb
  have hlw : ldW l c w = w := by
    rw [ldL_get _ _ _ _ hw] at h
    by_cases hk : kltB l t w (ldW l c w) = true
    · rw [if_pos hk] at h; omega
    · unfold kltB at hk
      simp at hk
      have h1 := hk.1
      have h3 : wtM l (ldW l c w) = t := by omega
      have h4 := hk.2 h3
      have h5 := hself.2 (by omega)
      omega
  refine eq_getD (by simp [ldL_len, stN_len]) fun j hj => ?_
  rw [stN_len, ldL_len] at hj
  rw [stN_get _ (fun k hk => (hin k hk).1) (by rw [ldL_len]; exact hj) _ (Nat.le_refl _), List.take_length, ldL_get _ _ _ _ hj, ldL_get _ _ _ _ hj]
  have hjb : (0 : Int) ≤ j ∧ (j : Int) < prodM l := by omega
  by_cases hm : (j : Int) ∈ shM l c w
  · rw [if_pos hm, ld_cls hs hp g hm, hlw, if_pos]
    exact decide_eq_true (.inr ⟨ht, by omega⟩)
  · rw [if_neg hm]
    have hne : ldW l c j ≠ w := fun e => hm (by
      have h6 := (ld_ok hs g hjb).1
      rw [e] at h6
      exact sh_symm hs hp g hwb hjb h6)
    have e : kltB l t (w + 1 : Nat) (ldW l c j) = kltB l t w (ldW l c j) := by
      unfold kltB; exact decide_eq_decide.2 (by omega)
    rw [e]
theorem d_impl_leaders (l c : List Int) (hs : isSpaceM l = true) (hp : plainM l = true) (g : Grp l c) : Den PA f_impl_leaders [.d (.agg [ints l]), .d (ints c)] [.any, .any] (.own 1 (((allW l).map (ldW l c)).map di)) := by
  have hn := isSpaceM_n hs
  have hz := isSpaceM_szs hs
  have hpr := isSpaceM_prod hs
  have hp1 := prodM_pos hz
  have hal := allW_len l
  have hgl := grp_len hs g
  refine den_go [] l_impl_leaders ?_
  repeat' (first | simp -implicitDefEqProofs (maxSteps := 1000000) (disch := (first | omega | (simp only [go_sem] <;> omega) | fail)) only [go_sem, ints, bools, mat, c_impl_leaders] | ((first | refine goIf_b (fun h => ?_) (fun h => ?_) | refine goG_b (fun h => ?_) (fun h => ?_) | refine goTG_b (fun h => ?_) (fun h => ?_) | refine goOG_b (fun h => ?_) (fun h => ?_)) <;> ((try simp only [Bool.not_eq_true', Bool.not_eq_false'] at h); (try simp only [h]); (try simp only [decide_eq_true_eq, decide_eq_false_iff_not, bne_iff_ne, bne_eq_false_iff_eq, beq_iff_eq, beq_eq_false_iff_ne, ne_eq, Int.not_lt, Int.not_le, Bool.and_eq_true, Bool.and_eq_false_iff, Bool.or_eq_true, Bool.or_eq_false_iff] at h))))
  first | refine goC_call [.r] (d_impl_count l hs) ?_ | refine goOC_call [.r] (d_impl_count l hs) ?_
  repeat' (first | simp -implicitDefEqProofs (maxSteps := 1000000) (disch := (first | omega | (simp only [go_sem] <;> omega) | fail)) only [go_sem, ints, bools, mat] | ((first | refine goIf_b (fun h => ?_) (fun h => ?_) | refine goG_b (fun h => ?_) (fun h => ?_) | refine goTG_b (fun h => ?_) (fun h => ?_) | refine goOG_b (fun h => ?_) (fun h => ?_)) <;> ((try simp only [Bool.not_eq_true', Bool.not_eq_false'] at h); (try simp only [h]); (try simp only [decide_eq_true_eq, decide_eq_false_iff_not, bne_iff_ne, bne_eq_false_iff_eq, beq_iff_eq, beq_eq_false_iff_ne, ne_eq, Int.not_lt, Int.not_le, Bool.and_eq_true, Bool.and_eq_false_iff, Bool.or_eq_true, Bool.or_eq_false_iff] at h))))
  have hrep := d_slices_Repeat (-1) (prodM l).toNat (by omega) (by omega)
  rw [show (((prodM l).toNat : Nat) : Int) = prodM l by omega] at hrep
  first | refine goC_call [.r, .r] (hrep) ?_ | refine goOC_call [.r, .r] (hrep) ?_
  repeat' (first | simp -implicitDefEqProofs (maxSteps := 1000000) (disch := (first | omega | (simp only [go_sem] <;> omega) | fail)) only [go_sem, ints, bools, mat] | ((first | refine goIf_b (fun h => ?_) (fun h => ?_) | refine goG_b (fun h => ?_) (fun h => ?_) | refine goTG_b (fun h => ?_) (fun h => ?_) | refine goOG_b (fun h => ?_) (fun h => ?_)) <;> ((try simp only [Bool.not_eq_true', Bool.not_eq_false'] at h); (try simp only [h]); (try simp only [decide_eq_true_eq, decide_eq_false_iff_not, bne_iff_ne, bne_eq_false_iff_eq, beq_iff_eq, beq_eq_false_iff_ne, ne_eq, Int.not_lt, Int.not_le, Bool.and_eq_true, Bool.and_eq_false_iff, Bool.or_eq_true, Bool.or_eq_false_iff] at h))))
  first | refine goC_call [.r] (d_impl_allDigits l hs) ?_ | refine goOC_call [.r] (d_impl_allDigits l hs) ?_
  repeat' (first | simp -implicitDefEqProofs (maxSteps := 1000000) (disch := (first | omega | (simp only [go_sem] <;> omega) | fail)) only [go_sem, ints, bools, mat] | ((first | refine goIf_b (fun h => ?_) (fun h => ?_) | refine goG_b (fun h => ?_) (fun h => ?_) | refine goTG_b (fun h => ?_) (fun h => ?_) | refine goOG_b (fun h => ?_) (fun h => ?_)) <;> ((try simp only [Bool.not_eq_true', Bool.not_eq_false'] at h); (try simp only [h]); (try simp only [decide_eq_true_eq, decide_eq_false_iff_not, bne_iff_ne, bne_eq_false_iff_eq, beq_iff_eq, beq_eq_false_iff_ne, ne_eq, Int.not_lt, Int.not_le, Bool.and_eq_true, Bool.and_eq_false_iff, Bool.or_eq_true, Bool.or_eq_false_iff] at h))))
  first | refine goC_call [.r] (d_impl_places l (by omega)) ?_ | refine goOC_call [.r] (d_impl_places l (by omega)) ?_
  repeat' (first | simp -implicitDefEqProofs (maxSteps := 1000000) (disch := (first | omega | (simp only [go_sem] <;> omega) | fail)) only [go_sem, ints, bools, mat] | ((first | refine goIf_b (fun h => ?_) (fun h => ?_) | refine goG_b (fun h => ?_) (fun h => ?_) | refine goTG_b (fun h => ?_) (fun h => ?_) | refine goOG_b (fun h => ?_) (fun h => ?_)) <;> ((try simp only [Bool.not_eq_true', Bool.not_eq_false'] at h); (try simp only [h]); (try simp only [decide_eq_true_eq, decide_eq_false_iff_not, bne_iff_ne, bne_eq_false_iff_eq, beq_iff_eq, beq_eq_false_iff_ne, ne_eq, Int.not_lt, Int.not_le, Bool.and_eq_true, Bool.and_eq_false_iff, Bool.or_eq_true, Bool.or_eq_false_iff] at h))))
  refine go_loop (fun (t : Nat) => ⟨[(1, .d (ints c)), (2, .ref 0 0), (5, .sl 1 0 (prodM l).toNat 1), (6, .sl 2 0 (prodM l).toNat 8), (20, .d (di (l.length + 1))), (21, .d (di t))], [some (.var [ints l]), some (.dat 1 ((ldL l c t 0).map di)), some (.dat 8 (digs (digsM l (allW l))))]⟩) (fun t => t ≤ l.length + 1) (fun t => l.length + 1 - t) 0 ?_ ?_ ?_
  · simp -implicitDefEqProofs (maxSteps := 1000000) (disch := (first | omega | (simp only [go_sem] <;> omega) | fail)) only [go_sem, ints, bools, mat]
    rw [ldL_first hs g]
  · simp
  · rintro t ht J hJ
    by_cases htl : t < l.length + 1
    · repeat' (first | simp -implicitDefEqProofs (maxSteps := 1000000) (disch := (first | omega | (simp only [go_sem] <;> omega) | fail)) only [go_sem, ints, bools, mat] | ((first | refine goIf_b (fun h => ?_) (fun h => ?_) | refine goG_b (fun h => ?_) (fun h => ?_) | refine goTG_b (fun h => ?_) (fun h => ?_) | refine goOG_b (fun h => ?_) (fun h => ?_)) <;> ((try simp only [Bool.not_eq_true', Bool.not_eq_false'] at h); (try simp only [h]); (try simp only [decide_eq_true_eq, decide_eq_false_iff_not, bne_iff_ne, bne_eq_false_iff_eq, beq_iff_eq, beq_eq_false_iff_ne, ne_eq, Int.not_lt, Int.not_le, Bool.and_eq_true, Bool.and_eq_false_iff, Bool.or_eq_true, Bool.or_eq_false_iff] at h)) <;> (try (exfalso; omega))))
      refine go_loop (fun (w : Nat) => ⟨[(1, .d (ints c)), (2, .ref 0 0), (5, .sl 1 0 (prodM l).toNat 1), (6, .sl 2 0 (prodM l).toNat 8), (7, .d (di t)), (20, .d (di (l.length + 1))), (21, .d (di t)), (24, .sl 2 0 (prodM l).toNat 8), (25, .d (di (prodM l).toNat)), (26, .d (di w))], [some (.var [ints l]), some (.dat 1 ((ldL l c t w).map di)), some (.dat 8 (digs (digsM l (allW l))))]⟩) (fun w => w ≤ (prodM l).toNat) (fun w => (prodM l).toNat - w) 0 ?_ ?_ ?_
      · (simp -implicitDefEqProofs (maxSteps := 1000000) (disch := (first | omega | (simp only [go_sem] <;> omega) | fail)) only [go_sem, ints, bools, mat] <;> rfl)
      · simp
      · rintro w hw J2 hJ2
        have hgd := fun h => digsM_get l (allW l) (i := w) h
        have hww := fun h => allW_get l (i := w) h
        have hsk := fun h => ldL_skip hs hp g (t := t) (w := w) h
        have hst := fun h => ldL_set hs hp g (t := t) (w := w) h
        by_cases hwl : w < (prodM l).toNat
        · have hsl := shM_len l c w
          have hin := inC_get (shM_in hs c w)
          repeat' (first | simp -implicitDefEqProofs (maxSteps := 1000000) (disch := (first | omega | (simp only [go_sem] <;> omega) | fail)) only [go_sem, ints, bools, mat] | ((first | refine goIf_b (fun h => ?_) (fun h => ?_) | refine goG_b (fun h => ?_) (fun h => ?_) | refine goTG_b (fun h => ?_) (fun h => ?_) | refine goOG_b (fun h => ?_) (fun h => ?_)) <;> ((try simp only [Bool.not_eq_true', Bool.not_eq_false'] at h); (try simp only [h]); (try simp only [decide_eq_true_eq, decide_eq_false_iff_not, bne_iff_ne, bne_eq_false_iff_eq, beq_iff_eq, beq_eq_false_iff_ne, ne_eq, Int.not_lt, Int.not_le, Bool.and_eq_true, Bool.and_eq_false_iff, Bool.or_eq_true, Bool.or_eq_false_iff] at h)) <;> (try (exfalso; omega))))
          · rw [hgd (by omega), hww hwl]
            first | refine goC_call [.r, .r] (d_impl_far0 l w (by omega)) ?_ | refine goOC_call [.r, .r] (d_impl_far0 l w (by omega)) ?_
            repeat' (first | simp -implicitDefEqProofs (maxSteps := 1000000) (disch := (first | omega | (simp only [go_sem] <;> omega) | fail)) only [go_sem, ints, bools, mat] | ((first | refine goIf_b (fun h => ?_) (fun h => ?_) | refine goG_b (fun h => ?_) (fun h => ?_) | refine goTG_b (fun h => ?_) (fun h => ?_) | refine goOG_b (fun h => ?_) (fun h => ?_)) <;> ((try simp only [Bool.not_eq_true', Bool.not_eq_false'] at h); (try simp only [h]); (try simp only [decide_eq_true_eq, decide_eq_false_iff_not, bne_iff_ne, bne_eq_false_iff_eq, beq_iff_eq, beq_eq_false_iff_ne, ne_eq, Int.not_lt, Int.not_le, Bool.and_eq_true, Bool.and_eq_false_iff, Bool.or_eq_true, Bool.or_eq_false_iff] at h)) <;> (try (exfalso; omega))))
            · refine hJ2 (w + 1) (by omega) (by omega) _ ?_
              simp -implicitDefEqProofs (maxSteps := 1000000) (disch := (first | omega | (simp only [go_sem] <;> omega) | fail)) only [go_sem, ints, bools, mat]
              rw [hsk hwl (.inr (by assumption))]; rfl
            · first | refine goC_call [.r, .r, .r] (d_impl_shifted l c hs (by omega) g.inc w (by omega) (by omega)) ?_ | refine goOC_call [.r, .r, .r] (d_impl_shifted l c hs (by omega) g.inc w (by omega) (by omega)) ?_
              repeat' (first | simp -implicitDefEqProofs (maxSteps := 1000000) (disch := (first | omega | (simp only [go_sem] <;> omega) | fail)) only [go_sem, ints, bools, mat] | ((first | refine goIf_b (fun h => ?_) (fun h => ?_) | refine goG_b (fun h => ?_) (fun h => ?_) | refine goTG_b (fun h => ?_) (fun h => ?_) | refine goOG_b (fun h => ?_) (fun h => ?_)) <;> ((try simp only [Bool.not_eq_true', Bool.not_eq_false'] at h); (try simp only [h]); (try simp only [decide_eq_true_eq, decide_eq_false_iff_not, bne_iff_ne, bne_eq_false_iff_eq, beq_iff_eq, beq_eq_false_iff_ne, ne_eq, Int.not_lt, Int.not_le, Bool.and_eq_true, Bool.and_eq_false_iff, Bool.or_eq_true, Bool.or_eq_false_iff] at h)) <;> (try (exfalso; omega))))
              have hstl := stN_len (ldL l c t w) (shM l c w) w
              refine go_loop (fun (k : Nat) => ⟨[(1, .d (ints c)), (2, .ref 0 0), (5, .sl 1 0 (prodM l).toNat 1), (6, .sl 2 0 (prodM l).toNat 8), (7, .d (di t)), (8, .d (di w)), (20, .d (di (l.length + 1))), (21, .d (di t)), (24, .sl 2 0 (prodM l).toNat 8), (25, .d (di (prodM l).toNat)), (26, .d (di w)), (46, .sl 3 0 (shM l c w).length 1), (47, .d (di (shM l c w).length)), (48, .d (di k))], [some (.var [ints l]), some (.dat 1 ((stN (ldL l c t w) (shM l c w) w k).map di)), some (.dat 8 (digs (digsM l (allW l)))), some (.dat 1 ((shM l c w).map di))]⟩) (fun k => k ≤ (shM l c w).length) (fun k => (shM l c w).length - k) 0 ?_ ?_ ?_
              · (simp -implicitDefEqProofs (maxSteps := 1000000) (disch := (first | omega | (simp only [go_sem] <;> omega) | fail)) only [go_sem, ints, bools, mat] <;> rfl)
              · simp
              · rintro k hk J3 hJ3
                have hink := hin k
                have hlk := hstl k
                rw [ldL_len] at hlk
                by_cases hkl : k < (shM l c w).length
                · repeat' (first | simp -implicitDefEqProofs (maxSteps := 1000000) (disch := (first | omega | (simp only [go_sem] <;> omega) | fail)) only [go_sem, ints, bools, mat] | ((first | refine goIf_b (fun h => ?_) (fun h => ?_) | refine goG_b (fun h => ?_) (fun h => ?_) | refine goTG_b (fun h => ?_) (fun h => ?_) | refine goOG_b (fun h => ?_) (fun h => ?_)) <;> ((try simp only [Bool.not_eq_true', Bool.not_eq_false'] at h); (try simp only [h]); (try simp only [decide_eq_true_eq, decide_eq_false_iff_not, bne_iff_ne, bne_eq_false_iff_eq, beq_iff_eq, beq_eq_false_iff_ne, ne_eq, Int.not_lt, Int.not_le, Bool.and_eq_true, Bool.and_eq_false_iff, Bool.or_eq_true, Bool.or_eq_false_iff] at h)) <;> (try (exfalso; omega))))
                  refine hJ3 (k + 1) (by omega) (by omega) _ ?_
                  simp -implicitDefEqProofs (maxSteps := 1000000) (disch := (first | omega | (simp only [go_sem] <;> omega) | fail)) only [go_sem, ints, bools, mat]
                  rfl
                · have : k = (shM l c w).length := by omega
                  subst this
                  repeat' (first | simp -implicitDefEqProofs (maxSteps := 1000000) (disch := (first | omega | (simp only [go_sem] <;> omega) | fail)) only [go_sem, ints, bools, mat] | ((first | refine goIf_b (fun h => ?_) (fun h => ?_) | refine goG_b (fun h => ?_) (fun h => ?_) | refine goTG_b (fun h => ?_) (fun h => ?_) | refine goOG_b (fun h => ?_) (fun h => ?_)) <;> ((try simp only [Bool.not_eq_true', Bool.not_eq_false'] at h); (try simp only [h]); (try simp only [decide_eq_true_eq, decide_eq_false_iff_not, bne_iff_ne, bne_eq_false_iff_eq, beq_iff_eq, beq_eq_false_iff_ne, ne_eq, Int.not_lt, Int.not_le, Bool.and_eq_true, Bool.and_eq_false_iff, Bool.or_eq_true, Bool.or_eq_false_iff] at h)) <;> (try (exfalso; omega))))
                  refine hJ2 (w + 1) (by omega) (by omega) _ ?_
                  simp -implicitDefEqProofs (maxSteps := 1000000) (disch := (first | omega | (simp only [go_sem] <;> omega) | fail)) only [go_sem, ints, bools, mat]
                  rw [hst hwl (by omega) (by assumption)]; rfl
          · refine hJ2 (w + 1) (by omega) (by omega) _ ?_
            simp -implicitDefEqProofs (maxSteps := 1000000) (disch := (first | omega | (simp only [go_sem] <;> omega) | fail)) only [go_sem, ints, bools, mat]
            rw [hsk hwl (.inl (by assumption))]; rfl
        · have : w = (prodM l).toNat := by omega
          subst this
          repeat' (first | simp -implicitDefEqProofs (maxSteps := 1000000) (disch := (first | omega | (simp only [go_sem] <;> omega) | fail)) only [go_sem, ints, bools, mat] | ((first | refine goIf_b (fun h => ?_) (fun h => ?_) | refine goG_b (fun h => ?_) (fun h => ?_) | refine goTG_b (fun h => ?_) (fun h => ?_) | refine goOG_b (fun h => ?_) (fun h => ?_)) <;> ((try simp only [Bool.not_eq_true', Bool.not_eq_false'] at h); (try simp only [h]); (try simp only [decide_eq_true_eq, decide_eq_false_iff_not, bne_iff_ne, bne_eq_false_iff_eq, beq_iff_eq, beq_eq_false_iff_ne, ne_eq, Int.not_lt, Int.not_le, Bool.and_eq_true, Bool.and_eq_false_iff, Bool.or_eq_true, Bool.or_eq_false_iff] at h)) <;> (try (exfalso; omega))))
          refine hJ (t + 1) (by omega) (by omega) _ ?_
          simp -implicitDefEqProofs (maxSteps := 1000000) (disch := (first | omega | (simp only [go_sem] <;> omega) | fail)) only [go_sem, ints, bools, mat]
          rw [show (((prodM l).toNat : Nat) : Int) = prodM l by omega, ldL_next hs g]; rfl
    · have : t = l.length + 1 := by omega
      subst this
      have e := ldL_last (c := c) (show (l.length : Int) < (l.length + 1 : Nat) by omega)
      rw [e]
      repeat' (first | simp -implicitDefEqProofs (maxSteps := 1000000) (disch := (first | omega | (simp only [go_sem] <;> omega) | fail)) only [go_sem, ints, bools, mat] | ((first | refine goIf_b (fun h => ?_) (fun h => ?_) | refine goG_b (fun h => ?_) (fun h => ?_) | refine goTG_b (fun h => ?_) (fun h => ?_) | refine goOG_b (fun h => ?_) (fun h => ?_)) <;> ((try simp only [Bool.not_eq_true', Bool.not_eq_false'] at h); (try simp only [h]); (try simp only [decide_eq_true_eq, decide_eq_false_iff_not, bne_iff_ne, bne_eq_false_iff_eq, beq_iff_eq, beq_eq_false_iff_ne, ne_eq, Int.not_lt, Int.not_le, Bool.and_eq_true, Bool.and_eq_false_iff, Bool.or_eq_true, Bool.or_eq_false_iff] at h)) <;> (try (exfalso; omega))))
theorem d_spec_l05Leader (l c : List Int) (hs : isSpaceM l = true) (g : Grp l c) (w : Int) (hw : 0 ≤ w ∧ w < prodM l) : Den PA f_spec_l05Leader [.d (.agg [ints l]), .d (ints c), .d (di w)] [.any, .any, .any] (.d (di (ldW l c w))) := by
  have hn := isSpaceM_n hs
  have hz := isSpaceM_szs hs
  have hpr := isSpaceM_prod hs
  have hp1 := prodM_pos hz
  have hgl := grp_len hs g
  have hin := inC_get (shM_in hs c w)
  have hsl := shM_len l c w
  have h0 := List.length_pos_of_mem (sh_self hs g hw)
  have hbn : ∀ k, k ≤ (shM l c w).length → 0 ≤ bstN l (shM l c w) k ∧ bstN l (shM l c w) k < prodM l := fun k hk => by
    obtain ⟨i, h1, _, h3, _⟩ := bstN_ok l h0 k hk
    rw [h3]; exact hin i h1
  refine den_go [] l_spec_l05Leader ?_
  repeat' (first | simp -implicitDefEqProofs (maxSteps := 1000000) (disch := (first | omega | (simp only [go_sem] <;> omega) | fail)) only [go_sem, ints, bools, mat, c_spec_l05Leader] | ((first | refine goIf_b (fun h => ?_) (fun h => ?_) | refine goG_b (fun h => ?_) (fun h => ?_) | refine goTG_b (fun h => ?_) (fun h => ?_) | refine goOG_b (fun h => ?_) (fun h => ?_)) <;> ((try simp only [Bool.not_eq_true', Bool.not_eq_false'] at h); (try simp only [h]); (try simp only [decide_eq_true_eq, decide_eq_false_iff_not, bne_iff_ne, bne_eq_false_iff_eq, beq_iff_eq, beq_eq_false_iff_ne, ne_eq, Int.not_lt, Int.not_le, Bool.and_eq_true, Bool.and_eq_false_iff, Bool.or_eq_true, Bool.or_eq_false_iff] at h)) <;> (try (exfalso; omega))))
  first | refine goC_call [.r, .r, .r] (d_spec_l01Shifted l c hs (by omega) g.inc w hw.1 (by omega)) ?_ | refine goOC_call [.r, .r, .r] (d_spec_l01Shifted l c hs (by omega) g.inc w hw.1 (by omega)) ?_
  repeat' (first | simp -implicitDefEqProofs (maxSteps := 1000000) (disch := (first | omega | (simp only [go_sem] <;> omega) | fail)) only [go_sem, ints, bools, mat] | ((first | refine goIf_b (fun h => ?_) (fun h => ?_) | refine goG_b (fun h => ?_) (fun h => ?_) | refine goTG_b (fun h => ?_) (fun h => ?_) | refine goOG_b (fun h => ?_) (fun h => ?_)) <;> ((try simp only [Bool.not_eq_true', Bool.not_eq_false'] at h); (try simp only [h]); (try simp only [decide_eq_true_eq, decide_eq_false_iff_not, bne_iff_ne, bne_eq_false_iff_eq, beq_iff_eq, beq_eq_false_iff_ne, ne_eq, Int.not_lt, Int.not_le, Bool.and_eq_true, Bool.and_eq_false_iff, Bool.or_eq_true, Bool.or_eq_false_iff] at h)) <;> (try (exfalso; omega))))
  refine go_loop (fun (k : Nat) => ⟨[(3, .ref 0 0), (7, .sl 1 0 (shM l c w).length 1), (8, .d (di (bstN l (shM l c w) k))), (18, .d (di (shM l c w).length)), (19, .d (di k))], [some (.var [ints l]), some (.dat 1 ((shM l c w).map di))]⟩) (fun k => k ≤ (shM l c w).length) (fun k => (shM l c w).length - k) 0 ?_ ?_ ?_
  · (simp -implicitDefEqProofs (maxSteps := 1000000) (disch := (first | omega | (simp only [go_sem] <;> omega) | fail)) only [go_sem, ints, bools, mat, bstN] <;> rfl)
  · simp
  · rintro k hk J hJ
    have hbk := hbn k hk
    have hink := hin k
    by_cases hkl : k < (shM l c w).length
    · repeat' (first | simp -implicitDefEqProofs (maxSteps := 1000000) (disch := (first | omega | (simp only [go_sem] <;> omega) | fail)) only [go_sem, ints, bools, mat] | ((first | refine goIf_b (fun h => ?_) (fun h => ?_) | refine goG_b (fun h => ?_) (fun h => ?_) | refine goTG_b (fun h => ?_) (fun h => ?_) | refine goOG_b (fun h => ?_) (fun h => ?_)) <;> ((try simp only [Bool.not_eq_true', Bool.not_eq_false'] at h); (try simp only [h]); (try simp only [decide_eq_true_eq, decide_eq_false_iff_not, bne_iff_ne, bne_eq_false_iff_eq, beq_iff_eq, beq_eq_false_iff_ne, ne_eq, Int.not_lt, Int.not_le, Bool.and_eq_true, Bool.and_eq_false_iff, Bool.or_eq_true, Bool.or_eq_false_iff] at h)) <;> (try (exfalso; omega))))
      first | refine goC_call [.r, .r, .r] (d_spec_l01Distance l hs 0 ((shM l c w).getD k 0) (by omega) (by omega) (by omega) (by omega)) ?_ | refine goOC_call [.r, .r, .r] (d_spec_l01Distance l hs 0 ((shM l c w).getD k 0) (by omega) (by omega) (by omega) (by omega)) ?_
      repeat' (first | simp -implicitDefEqProofs (maxSteps := 1000000) (disch := (first | omega | (simp only [go_sem] <;> omega) | fail)) only [go_sem, ints, bools, mat] | ((first | refine goIf_b (fun h => ?_) (fun h => ?_) | refine goG_b (fun h => ?_) (fun h => ?_) | refine goTG_b (fun h => ?_) (fun h => ?_) | refine goOG_b (fun h => ?_) (fun h => ?_)) <;> ((try simp only [Bool.not_eq_true', Bool.not_eq_false'] at h); (try simp only [h]); (try simp only [decide_eq_true_eq, decide_eq_false_iff_not, bne_iff_ne, bne_eq_false_iff_eq, beq_iff_eq, beq_eq_false_iff_ne, ne_eq, Int.not_lt, Int.not_le, Bool.and_eq_true, Bool.and_eq_false_iff, Bool.or_eq_true, Bool.or_eq_false_iff] at h)) <;> (try (exfalso; omega))))
      first | refine goC_call [.r, .r, .r] (d_spec_l01Distance l hs 0 (bstN l (shM l c w) k) (by omega) (by omega) (by omega) (by omega)) ?_ | refine goOC_call [.r, .r, .r] (d_spec_l01Distance l hs 0 (bstN l (shM l c w) k) (by omega) (by omega) (by omega) (by omega)) ?_
      repeat' (first | simp -implicitDefEqProofs (maxSteps := 1000000) (disch := (first | omega | (simp only [go_sem] <;> omega) | fail)) only [go_sem, ints, bools, mat] | ((first | refine goIf_b (fun h => ?_) (fun h => ?_) | refine goG_b (fun h => ?_) (fun h => ?_) | refine goTG_b (fun h => ?_) (fun h => ?_) | refine goOG_b (fun h => ?_) (fun h => ?_)) <;> ((try simp only [Bool.not_eq_true', Bool.not_eq_false'] at h); (try simp only [h]); (try simp only [decide_eq_true_eq, decide_eq_false_iff_not, bne_iff_ne, bne_eq_false_iff_eq, beq_iff_eq, beq_eq_false_iff_ne, ne_eq, Int.not_lt, Int.not_le, Bool.and_eq_true, Bool.and_eq_false_iff, Bool.or_eq_true, Bool.or_eq_false_iff] at h)) <;> (try (exfalso; omega))))
      · refine hJ (k + 1) (by omega) (by omega) _ ?_
        simp -implicitDefEqProofs (maxSteps := 1000000) (disch := (first | omega | (simp only [go_sem] <;> omega) | fail)) only [go_sem, ints, bools, mat]
        rw [bstN, if_pos (show wtM l ((shM l c w).getD k 0) < wtM l (bstN l (shM l c w) k) by assumption)]; rfl
      · refine hJ (k + 1) (by omega) (by omega) _ ?_
        simp -implicitDefEqProofs (maxSteps := 1000000) (disch := (first | omega | (simp only [go_sem] <;> omega) | fail)) only [go_sem, ints, bools, mat]
        rw [bstN, if_neg (show ¬ wtM l ((shM l c w).getD k 0) < wtM l (bstN l (shM l c w) k) from by show ¬ distM l 0 _ < distM l 0 _; omega)]; rfl
    · have : k = (shM l c w).length := by omega
      subst this
      repeat' (first | simp -implicitDefEqProofs (maxSteps := 1000000) (disch := (first | omega | (simp only [go_sem] <;> omega) | fail)) only [go_sem, ints, bools, mat] | ((first | refine goIf_b (fun h => ?_) (fun h => ?_) | refine goG_b (fun h => ?_) (fun h => ?_) | refine goTG_b (fun h => ?_) (fun h => ?_) | refine goOG_b (fun h => ?_) (fun h => ?_)) <;> ((try simp only [Bool.not_eq_true', Bool.not_eq_false'] at h); (try simp only [h]); (try simp only [decide_eq_true_eq, decide_eq_false_iff_not, bne_iff_ne, bne_eq_false_iff_eq, beq_iff_eq, beq_eq_false_iff_ne, ne_eq, Int.not_lt, Int.not_le, Bool.and_eq_true, Bool.and_eq_false_iff, Bool.or_eq_true, Bool.or_eq_false_iff] at h)) <;> (try (exfalso; omega))))
      rfl
/-- The leaders of all words. -/
abbrev lesM (l c : List Int) : List Int := (allW l).map (ldW l c)
theorem d_spec_l05Leaders (l c : List Int) (hs : isSpaceM l = true) (hp : plainM l = true) (g : Grp l c) : Den PA f_spec_l05Leaders [.d (.agg [ints l]), .d (ints c)] [.any, .any] (.own 1 ((setI (lesM l c)).map di)) := by
  have hn := isSpaceM_n hs
  have hz := isSpaceM_szs hs
  have hpr := isSpaceM_prod hs
  have hp1 := prodM_pos hz
  have hgl := grp_len hs g
  refine den_go [] l_spec_l05Leaders ?_
  repeat' (first | simp -implicitDefEqProofs (maxSteps := 1000000) (disch := (first | omega | (simp only [go_sem] <;> omega) | fail)) only [go_sem, ints, bools, mat, c_spec_l05Leaders] | ((first | refine goIf_b (fun h => ?_) (fun h => ?_) | refine goG_b (fun h => ?_) (fun h => ?_) | refine goTG_b (fun h => ?_) (fun h => ?_) | refine goOG_b (fun h => ?_) (fun h => ?_)) <;> ((try simp only [Bool.not_eq_true', Bool.not_eq_false'] at h); (try simp only [h]); (try simp only [decide_eq_true_eq, decide_eq_false_iff_not, bne_iff_ne, bne_eq_false_iff_eq, beq_iff_eq, beq_eq_false_iff_ne, ne_eq, Int.not_lt, Int.not_le, Bool.and_eq_true, Bool.and_eq_false_iff, Bool.or_eq_true, Bool.or_eq_false_iff] at h)) <;> (try (exfalso; omega))))
  first | refine goC_call [.r] (d_spec_l01N l (by omega) (isSpaceM_q hs)) ?_ | refine goOC_call [.r] (d_spec_l01N l (by omega) (isSpaceM_q hs)) ?_
  repeat' (first | simp -implicitDefEqProofs (maxSteps := 1000000) (disch := (first | omega | (simp only [go_sem] <;> omega) | fail)) only [go_sem, ints, bools, mat] | ((first | refine goIf_b (fun h => ?_) (fun h => ?_) | refine goG_b (fun h => ?_) (fun h => ?_) | refine goTG_b (fun h => ?_) (fun h => ?_) | refine goOG_b (fun h => ?_) (fun h => ?_)) <;> ((try simp only [Bool.not_eq_true', Bool.not_eq_false'] at h); (try simp only [h]); (try simp only [decide_eq_true_eq, decide_eq_false_iff_not, bne_iff_ne, bne_eq_false_iff_eq, beq_iff_eq, beq_eq_false_iff_ne, ne_eq, Int.not_lt, Int.not_le, Bool.and_eq_true, Bool.and_eq_false_iff, Bool.or_eq_true, Bool.or_eq_false_iff] at h)) <;> (try (exfalso; omega))))
  refine go_loop (fun (p : Nat × List Int × List Int) => ⟨[(1, .d (ints c)), (2, .ref 0 0), (5, .sl 1 0 (prodM l).toNat 1), (6, .sl 2 0 p.2.2.length 1), (7, .d (di p.1))], [some (.var [ints l]), some (.dat 1 ((setM l p.2.1).map db)), some (.dat 1 (p.2.2.map di))]⟩)
    (fun p => p.1 ≤ (prodM l).toNat ∧ inC l p.2.1 ∧ (∀ u, u ∈ p.2.1 ↔ ∃ i : Nat, i < p.1 ∧ u ∈ shM l c i) ∧ Asc p.2.2 ∧ p.2.2.length ≤ p.1 ∧ ∀ x, x ∈ p.2.2 ↔ ∃ i : Nat, i < p.1 ∧ x = ldW l c i) (fun p => (prodM l).toNat - p.1) (0, [], []) ?_ ?_ ?_
  · (simp -implicitDefEqProofs (maxSteps := 1000000) (disch := (first | omega | (simp only [go_sem] <;> omega) | fail)) only [go_sem, ints, bools, mat] <;> rfl)
  · exact ⟨Nat.zero_le _, fun u hu => by simp at hu, fun u => by simp, by simp [Asc], Nat.le_refl _, fun x => by simp⟩
  · rintro ⟨w, X, O⟩ ⟨h1, h2, h3, h4, h5, h6⟩ J hJ
    dsimp only at h1 h2 h3 h4 h5 h6 ⊢
    repeat' (first | simp -implicitDefEqProofs (maxSteps := 1000000) (disch := (first | omega | (simp only [go_sem] <;> omega) | fail)) only [go_sem, ints, bools, mat] | ((first | refine goIf_b (fun h => ?_) (fun h => ?_) | refine goG_b (fun h => ?_) (fun h => ?_) | refine goTG_b (fun h => ?_) (fun h => ?_) | refine goOG_b (fun h => ?_) (fun h => ?_)) <;> ((try simp only [Bool.not_eq_true', Bool.not_eq_false'] at h); (try simp only [h]); (try simp only [decide_eq_true_eq, decide_eq_false_iff_not, bne_iff_ne, bne_eq_false_iff_eq, beq_iff_eq, beq_eq_false_iff_ne, ne_eq, Int.not_lt, Int.not_le, Bool.and_eq_true, Bool.and_eq_false_iff, Bool.or_eq_true, Bool.or_eq_false_iff] at h)) <;> (try (exfalso; omega))))
    first | refine goC_call [.r] (d_spec_l01N l (by omega) (isSpaceM_q hs)) ?_ | refine goOC_call [.r] (d_spec_l01N l (by omega) (isSpaceM_q hs)) ?_
    by_cases hwl : w < (prodM l).toNat
    · have hgt := setM_get h2 hwl
      have hwb : (0 : Int) ≤ w ∧ (w : Int) < prodM l := by omega
      have hlb := ld_bnd hs g hwb
      have hsl := shM_len l c w
      have hin := inC_get (shM_in hs c w)
      by_cases hm : (w : Int) ∈ X
      · rw [decide_eq_true hm] at hgt
        repeat' (first | simp -implicitDefEqProofs (maxSteps := 1000000) (disch := (first | omega | (simp only [go_sem] <;> omega) | fail)) only [go_sem, ints, bools, mat, hgt] | ((first | refine goIf_b (fun h => ?_) (fun h => ?_) | refine goG_b (fun h => ?_) (fun h => ?_) | refine goTG_b (fun h => ?_) (fun h => ?_) | refine goOG_b (fun h => ?_) (fun h => ?_)) <;> ((try simp only [Bool.not_eq_true', Bool.not_eq_false'] at h); (try simp only [h]); (try simp only [decide_eq_true_eq, decide_eq_false_iff_not, bne_iff_ne, bne_eq_false_iff_eq, beq_iff_eq, beq_eq_false_iff_ne, ne_eq, Int.not_lt, Int.not_le, Bool.and_eq_true, Bool.and_eq_false_iff, Bool.or_eq_true, Bool.or_eq_false_iff] at h)) <;> (try (exfalso; omega))))
        refine hJ (w + 1, X, O) ⟨by dsimp only; omega, h2, fun u => ?_, h4, by dsimp only; omega, fun x => ?_⟩ (by dsimp only; omega) _ (by (simp -implicitDefEqProofs (maxSteps := 1000000) (disch := (first | omega | (simp only [go_sem] <;> omega) | fail)) only [go_sem, ints, bools, mat] <;> rfl))
        · obtain ⟨i, hi, hi2⟩ := (h3 w).1 hm
          dsimp only
          rw [h3]
          constructor
          · rintro ⟨k, a, b⟩; exact ⟨k, by omega, b⟩
          · rintro ⟨k, a, b⟩
            by_cases e : k = w
            · subst e
              exact ⟨i, hi, by rw [← sh_cls hs hp g hi2]; exact b⟩
            · exact ⟨k, by omega, b⟩
        · obtain ⟨i, hi, hi2⟩ := (h3 w).1 hm
          dsimp only
          rw [h6]
          constructor
          · rintro ⟨k, a, b⟩; exact ⟨k, by omega, b⟩
          · rintro ⟨k, a, b⟩
            by_cases e : k = w
            · subst e
              exact ⟨i, hi, by rw [b, ld_cls hs hp g hi2]⟩
            · exact ⟨k, by omega, b⟩
      · rw [decide_eq_false hm] at hgt
        repeat' (first | simp -implicitDefEqProofs (maxSteps := 1000000) (disch := (first | omega | (simp only [go_sem] <;> omega) | fail)) only [go_sem, ints, bools, mat, hgt] | ((first | refine goIf_b (fun h => ?_) (fun h => ?_) | refine goG_b (fun h => ?_) (fun h => ?_) | refine goTG_b (fun h => ?_) (fun h => ?_) | refine goOG_b (fun h => ?_) (fun h => ?_)) <;> ((try simp only [Bool.not_eq_true', Bool.not_eq_false'] at h); (try simp only [h]); (try simp only [decide_eq_true_eq, decide_eq_false_iff_not, bne_iff_ne, bne_eq_false_iff_eq, beq_iff_eq, beq_eq_false_iff_ne, ne_eq, Int.not_lt, Int.not_le, Bool.and_eq_true, Bool.and_eq_false_iff, Bool.or_eq_true, Bool.or_eq_false_iff] at h)) <;> (try (exfalso; omega))))
        first | refine goC_call [.r, .r, .r] (d_spec_l01Shifted l c hs (by omega) g.inc w (by omega) (by omega)) ?_ | refine goOC_call [.r, .r, .r] (d_spec_l01Shifted l c hs (by omega) g.inc w (by omega) (by omega)) ?_
        repeat' (first | simp -implicitDefEqProofs (maxSteps := 1000000) (disch := (first | omega | (simp only [go_sem] <;> omega) | fail)) only [go_sem, ints, bools, mat] | ((first | refine goIf_b (fun h => ?_) (fun h => ?_) | refine goG_b (fun h => ?_) (fun h => ?_) | refine goTG_b (fun h => ?_) (fun h => ?_) | refine goOG_b (fun h => ?_) (fun h => ?_)) <;> ((try simp only [Bool.not_eq_true', Bool.not_eq_false'] at h); (try simp only [h]); (try simp only [decide_eq_true_eq, decide_eq_false_iff_not, bne_iff_ne, bne_eq_false_iff_eq, beq_iff_eq, beq_eq_false_iff_ne, ne_eq, Int.not_lt, Int.not_le, Bool.and_eq_true, Bool.and_eq_false_iff, Bool.or_eq_true, Bool.or_eq_false_iff] at h)) <;> (try (exfalso; omega))))
        refine go_loop (fun (k : Nat) => ⟨[(1, .d (ints c)), (2, .ref 0 0), (5, .sl 1 0 (prodM l).toNat 1), (6, .sl 2 0 O.length 1), (7, .d (di w)), (8, .sl 3 0 (shM l c w).length 1), (29, .d (di (shM l c w).length)), (30, .d (di k))], [some (.var [ints l]), some (.dat 1 ((setM l (X ++ (shM l c w).take k)).map db)), some (.dat 1 (O.map di)), some (.dat 1 ((shM l c w).map di))]⟩) (fun k => k ≤ (shM l c w).length) (fun k => (shM l c w).length - k) 0 ?_ ?_ ?_
        · (simp -implicitDefEqProofs (maxSteps := 1000000) (disch := (first | omega | (simp only [go_sem] <;> omega) | fail)) only [go_sem, ints, bools, mat, List.append_nil] <;> rfl)
        · simp
        · rintro k hk J2 hJ2
          have hink := hin k
          by_cases hkl : k < (shM l c w).length
          · repeat' (first | simp -implicitDefEqProofs (maxSteps := 1000000) (disch := (first | omega | (simp only [go_sem] <;> omega) | fail)) only [go_sem, ints, bools, mat] | ((first | refine goIf_b (fun h => ?_) (fun h => ?_) | refine goG_b (fun h => ?_) (fun h => ?_) | refine goTG_b (fun h => ?_) (fun h => ?_) | refine goOG_b (fun h => ?_) (fun h => ?_)) <;> ((try simp only [Bool.not_eq_true', Bool.not_eq_false'] at h); (try simp only [h]); (try simp only [decide_eq_true_eq, decide_eq_false_iff_not, bne_iff_ne, bne_eq_false_iff_eq, beq_iff_eq, beq_eq_false_iff_ne, ne_eq, Int.not_lt, Int.not_le, Bool.and_eq_true, Bool.and_eq_false_iff, Bool.or_eq_true, Bool.or_eq_false_iff] at h)) <;> (try (exfalso; omega))))
            refine hJ2 (k + 1) (by omega) (by omega) _ ?_
            simp -implicitDefEqProofs (maxSteps := 1000000) (disch := (first | omega | (simp only [go_sem] <;> omega) | fail)) only [go_sem, ints, bools, mat]
            rw [take_one _ hkl, ← List.append_assoc, setM_snoc]; rfl
          · have : k = (shM l c w).length := by omega
            subst this
            repeat' (first | simp -implicitDefEqProofs (maxSteps := 1000000) (disch := (first | omega | (simp only [go_sem] <;> omega) | fail)) only [go_sem, ints, bools, mat] | ((first | refine goIf_b (fun h => ?_) (fun h => ?_) | refine goG_b (fun h => ?_) (fun h => ?_) | refine goTG_b (fun h => ?_) (fun h => ?_) | refine goOG_b (fun h => ?_) (fun h => ?_)) <;> ((try simp only [Bool.not_eq_true', Bool.not_eq_false'] at h); (try simp only [h]); (try simp only [decide_eq_true_eq, decide_eq_false_iff_not, bne_iff_ne, bne_eq_false_iff_eq, beq_iff_eq, beq_eq_false_iff_ne, ne_eq, Int.not_lt, Int.not_le, Bool.and_eq_true, Bool.and_eq_false_iff, Bool.or_eq_true, Bool.or_eq_false_iff] at h)) <;> (try (exfalso; omega))))
            first | refine goC_call [.r, .r, .r] (d_spec_l05Leader l c hs g w hwb) ?_ | refine goOC_call [.r, .r, .r] (d_spec_l05Leader l c hs g w hwb) ?_
            repeat' (first | simp -implicitDefEqProofs (maxSteps := 1000000) (disch := (first | omega | (simp only [go_sem] <;> omega) | fail)) only [go_sem, ints, bools, mat] | ((first | refine goIf_b (fun h => ?_) (fun h => ?_) | refine goG_b (fun h => ?_) (fun h => ?_) | refine goTG_b (fun h => ?_) (fun h => ?_) | refine goOG_b (fun h => ?_) (fun h => ?_)) <;> ((try simp only [Bool.not_eq_true', Bool.not_eq_false'] at h); (try simp only [h]); (try simp only [decide_eq_true_eq, decide_eq_false_iff_not, bne_iff_ne, bne_eq_false_iff_eq, beq_iff_eq, beq_eq_false_iff_ne, ne_eq, Int.not_lt, Int.not_le, Bool.and_eq_true, Bool.and_eq_false_iff, Bool.or_eq_true, Bool.or_eq_false_iff] at h)) <;> (try (exfalso; omega))))
            first | refine goC_call [.o, .r] (d_spec_l01Put O (ldW l c w) (by omega)) ?_ | refine goOC_call [.o, .r] (d_spec_l01Put O (ldW l c w) (by omega)) ?_
            repeat' (first | simp -implicitDefEqProofs (maxSteps := 1000000) (disch := (first | omega | (simp only [go_sem] <;> omega) | fail)) only [go_sem, ints, bools, mat] | ((first | refine goIf_b (fun h => ?_) (fun h => ?_) | refine goG_b (fun h => ?_) (fun h => ?_) | refine goTG_b (fun h => ?_) (fun h => ?_) | refine goOG_b (fun h => ?_) (fun h => ?_)) <;> ((try simp only [Bool.not_eq_true', Bool.not_eq_false'] at h); (try simp only [h]); (try simp only [decide_eq_true_eq, decide_eq_false_iff_not, bne_iff_ne, bne_eq_false_iff_eq, beq_iff_eq, beq_eq_false_iff_ne, ne_eq, Int.not_lt, Int.not_le, Bool.and_eq_true, Bool.and_eq_false_iff, Bool.or_eq_true, Bool.or_eq_false_iff] at h)) <;> (try (exfalso; omega))))
            have hpl := putI_len O (ldW l c w)
            refine hJ (w + 1, X ++ shM l c w, putI O (ldW l c w)) ⟨by dsimp only; omega, inC_app h2 (shM_in hs c w), fun u => ?_, putI_asc h4 _, by dsimp only; omega, fun x => ?_⟩ (by dsimp only; omega) _ (by (simp -implicitDefEqProofs (maxSteps := 1000000) (disch := (first | omega | (simp only [go_sem] <;> omega) | fail)) only [go_sem, ints, bools, mat] <;> rfl))
            · dsimp only
              rw [List.mem_append, h3]
              constructor
              · rintro (⟨i, a, b⟩ | h)
                · exact ⟨i, by omega, b⟩
                · exact ⟨w, by omega, h⟩
              · rintro ⟨i, a, b⟩
                by_cases e : i = w
                · subst e; exact .inr b
                · exact .inl ⟨i, by omega, b⟩
            · dsimp only
              rw [putI_mem, h6]
              constructor
              · rintro (⟨i, a, b⟩ | h)
                · exact ⟨i, by omega, b⟩
                · exact ⟨w, by omega, h⟩
              · rintro ⟨i, a, b⟩
                by_cases e : i = w
                · subst e; exact .inr b
                · exact .inl ⟨i, by omega, b⟩
    · have : w = (prodM l).toNat := by omega
      subst this
      have e : O = setI (lesM l c) := (setI_eq h4 fun x => by
        rw [h6, List.mem_map]
        constructor
        · rintro ⟨i, a, b⟩; exact ⟨i, (allW_mem l _).2 ⟨by omega, by omega⟩, b.symm⟩
        · rintro ⟨u, a, b⟩
          have := (allW_mem l u).1 a
          exact ⟨u.toNat, by omega, by rw [Int.toNat_of_nonneg this.1]; exact b.symm⟩).symm
      repeat' (first | simp -implicitDefEqProofs (maxSteps := 1000000) (disch := (first | omega | (simp only [go_sem] <;> omega) | fail)) only [go_sem, ints, bools, mat] | ((first | refine goIf_b (fun h => ?_) (fun h => ?_) | refine goG_b (fun h => ?_) (fun h => ?_) | refine goTG_b (fun h => ?_) (fun h => ?_) | refine goOG_b (fun h => ?_) (fun h => ?_)) <;> ((try simp only [Bool.not_eq_true', Bool.not_eq_false'] at h); (try simp only [h]); (try simp only [decide_eq_true_eq, decide_eq_false_iff_not, bne_iff_ne, bne_eq_false_iff_eq, beq_iff_eq, beq_eq_false_iff_ne, ne_eq, Int.not_lt, Int.not_le, Bool.and_eq_true, Bool.and_eq_false_iff, Bool.or_eq_true, Bool.or_eq_false_iff] at h)) <;> (try (exfalso; omega))))
      rw [e]
theorem d_impl_oppositeOf (l a : List Int) (hs : isSpaceM l = true) (ha8 : a.length ≤ 8) (ha : in4 a) (hd : ∀ i, i < l.length → a.getD i 0 < l.getD i 0) :
    Den PA f_impl_oppositeOf [.d (.agg [ints l]), .d (dig a)] [.any, .any] (.d (dig (oppD l a))) := by
  have hn := isSpaceM_n hs
  have hz := isSpaceM_szs hs
  have ea := pad8_len a
  refine den_go [] l_impl_oppositeOf ?_
  repeat' (first | simp -implicitDefEqProofs (maxSteps := 1000000) (disch := (first | omega | (simp only [go_sem] <;> omega) | fail)) only [go_sem, ints, bools, mat, c_impl_oppositeOf] | ((first | refine goIf_b (fun h => ?_) (fun h => ?_) | refine goG_b (fun h => ?_) (fun h => ?_) | refine goTG_b (fun h => ?_) (fun h => ?_) | refine goOG_b (fun h => ?_) (fun h => ?_)) <;> ((try simp only [Bool.not_eq_true', Bool.not_eq_false'] at h); (try simp only [h]); (try simp only [decide_eq_true_eq, decide_eq_false_iff_not, bne_iff_ne, bne_eq_false_iff_eq, beq_iff_eq, beq_eq_false_iff_ne, ne_eq, Int.not_lt, Int.not_le, Bool.and_eq_true, Bool.and_eq_false_iff, Bool.or_eq_true, Bool.or_eq_false_iff] at h))))
  refine go_loop (fun (j : Nat) => ⟨[(3, .ref 0 0), (4, .ref 1 0), (5, .ref 2 0), (10, .d (ints l)), (11, .d (di l.length)), (12, .d (di j))], [some (.var ((pad8 a).map dy)), some (.var [dy 0, dy 0, dy 0, dy 0, dy 0, dy 0, dy 0, dy 0]), some (.var ((pad8 ((oppD l a).take j)).map dy))]⟩) (fun j => j ≤ l.length) (fun j => l.length - j) 0 ?_ ?_ ?_
  · (simp -implicitDefEqProofs (maxSteps := 1000000) (disch := (first | omega | (simp only [go_sem] <;> omega) | fail)) only [go_sem, ints, bools, mat] <;> rfl)
  · simp
  · rintro j hj J hJ
    have hx := in4_pad ha8 ha j
    have hq := hz j
    have hm := fun h => mod_bnd (x := l.getD j 0 - (pad8 a).getD j 0) (hz j h)
    have hst := fun h => pad8_set (S := oppD l a) (j := j) (by rw [oppD_len]; omega) h
    have hsg := fun h => oppD_get (l := l) a (i := j) h
    by_cases hjl : j < l.length
    · have hdj := hd j hjl
      have hpg : (pad8 a).getD j 0 = a.getD j 0 := pad8_get ha8 j
      repeat' (first | simp -implicitDefEqProofs (maxSteps := 1000000) (disch := (first | omega | (simp only [go_sem] <;> omega) | fail)) only [go_sem, ints, bools, mat] | ((first | refine goIf_b (fun h => ?_) (fun h => ?_) | refine goG_b (fun h => ?_) (fun h => ?_) | refine goTG_b (fun h => ?_) (fun h => ?_) | refine goOG_b (fun h => ?_) (fun h => ?_)) <;> ((try simp only [Bool.not_eq_true', Bool.not_eq_false'] at h); (try simp only [h]); (try simp only [decide_eq_true_eq, decide_eq_false_iff_not, bne_iff_ne, bne_eq_false_iff_eq, beq_iff_eq, beq_eq_false_iff_ne, ne_eq, Int.not_lt, Int.not_le, Bool.and_eq_true, Bool.and_eq_false_iff, Bool.or_eq_true, Bool.or_eq_false_iff] at h)) <;> (try (exfalso; omega))))
      refine hJ (j + 1) (by omega) (by omega) _ ?_
      simp -implicitDefEqProofs (maxSteps := 1000000) (disch := (first | omega | (simp only [go_sem] <;> omega) | fail)) only [go_sem, ints, bools, mat]
      rw [← hst (by rw [oppD_len]; omega), hsg (by omega), hpg]; rfl
    · have : j = l.length := by omega
      subst this
      repeat' (first | simp -implicitDefEqProofs (maxSteps := 1000000) (disch := (first | omega | (simp only [go_sem] <;> omega) | fail)) only [go_sem, ints, bools, mat] | ((first | refine goIf_b (fun h => ?_) (fun h => ?_) | refine goG_b (fun h => ?_) (fun h => ?_) | refine goTG_b (fun h => ?_) (fun h => ?_) | refine goOG_b (fun h => ?_) (fun h => ?_)) <;> ((try simp only [Bool.not_eq_true', Bool.not_eq_false'] at h); (try simp only [h]); (try simp only [decide_eq_true_eq, decide_eq_false_iff_not, bne_iff_ne, bne_eq_false_iff_eq, beq_iff_eq, beq_eq_false_iff_ne, ne_eq, Int.not_lt, Int.not_le, Bool.and_eq_true, Bool.and_eq_false_iff, Bool.or_eq_true, Bool.or_eq_false_iff] at h)) <;> (try (exfalso; omega))))
abbrev lnW (l c ws : List Int) : Int := if gcM l c ws = 0 then (if linB l c = true then 0 else 5) else gcM l c ws
theorem lnW_ok {l c ws : List Int} (h : lnW l c ws = 0) : isSpaceM l = true ∧ isCodeM l c = true ∧ linB l c = true ∧ inC l ws := by
  unfold lnW at h
  split at h
  · rename_i hg
    obtain ⟨a, b, d⟩ := gcM_ok hg
    split at h
    · rename_i hb; exact ⟨a, d, hb, areW_inC b⟩
    · cases h
  · rename_i hg; exact (hg h).elim
theorem lnW_eq (l c ws : List Int) : lnW l c ws = if wcM l ws = 0 then lnM l c else wcM l ws := by
  unfold lnW lnM gcM ggM
  by_cases hw : wcM l ws = 0
  · have hs := (wcM_space hw).1
    simp only [hw, hs, if_true]
  · simp only [if_neg hw]
theorem d_impl_linearCode (l c ws : List Int) (hl : l.length < 1048577) (hc : c.length < 1048577) (hw : ws.length < 1048577) : Den PA f_impl_linearCode [.d (.agg [ints l]), .d (ints c), .d (ints ws)] [.any, .any, .any] (.d (di (lnW l c ws))) := by
  refine den_go [] l_impl_linearCode ?_
  repeat' (first | simp -implicitDefEqProofs (maxSteps := 1000000) (disch := (first | omega | (simp only [go_sem] <;> omega) | fail)) only [go_sem, ints, bools, mat, c_impl_linearCode] | ((first | refine goIf_b (fun h => ?_) (fun h => ?_) | refine goG_b (fun h => ?_) (fun h => ?_) | refine goTG_b (fun h => ?_) (fun h => ?_) | refine goOG_b (fun h => ?_) (fun h => ?_)) <;> ((try simp only [Bool.not_eq_true', Bool.not_eq_false'] at h); (try simp only [h]); (try simp only [decide_eq_true_eq, decide_eq_false_iff_not, bne_iff_ne, bne_eq_false_iff_eq, beq_iff_eq, beq_eq_false_iff_ne, ne_eq, Int.not_lt, Int.not_le, Bool.and_eq_true, Bool.and_eq_false_iff, Bool.or_eq_true, Bool.or_eq_false_iff] at h))))
  first | refine goC_call [.r, .r, .r] (d_impl_codeCode l hl c hc _ ws (.inl rfl) hw) ?_ | refine goOC_call [.r, .r, .r] (d_impl_codeCode l hl c hc _ ws (.inl rfl) hw) ?_
  by_cases h : gcM l c ws = 0
  · obtain ⟨hs, _, hcc⟩ := gcM_ok h
    rw [lnW, if_pos h, h]
    repeat' (first | simp -implicitDefEqProofs (maxSteps := 1000000) (disch := (first | omega | (simp only [go_sem] <;> omega) | fail)) only [go_sem, ints, bools, mat] | ((first | refine goIf_b (fun h => ?_) (fun h => ?_) | refine goG_b (fun h => ?_) (fun h => ?_) | refine goTG_b (fun h => ?_) (fun h => ?_) | refine goOG_b (fun h => ?_) (fun h => ?_)) <;> ((try simp only [Bool.not_eq_true', Bool.not_eq_false'] at h); (try simp only [h]); (try simp only [decide_eq_true_eq, decide_eq_false_iff_not, bne_iff_ne, bne_eq_false_iff_eq, beq_iff_eq, beq_eq_false_iff_ne, ne_eq, Int.not_lt, Int.not_le, Bool.and_eq_true, Bool.and_eq_false_iff, Bool.or_eq_true, Bool.or_eq_false_iff] at h))))
    first | refine goC_call [.r, .r] (d_impl_isLinear l c hs hcc hc) ?_ | refine goOC_call [.r, .r] (d_impl_isLinear l c hs hcc hc) ?_
    cases hq : linB l c with
    | true =>
      repeat' (first | simp -implicitDefEqProofs (maxSteps := 1000000) (disch := (first | omega | (simp only [go_sem] <;> omega) | fail)) only [go_sem, ints, bools, mat] | ((first | refine goIf_b (fun h => ?_) (fun h => ?_) | refine goG_b (fun h => ?_) (fun h => ?_) | refine goTG_b (fun h => ?_) (fun h => ?_) | refine goOG_b (fun h => ?_) (fun h => ?_)) <;> ((try simp only [Bool.not_eq_true', Bool.not_eq_false'] at h); (try simp only [h]); (try simp only [decide_eq_true_eq, decide_eq_false_iff_not, bne_iff_ne, bne_eq_false_iff_eq, beq_iff_eq, beq_eq_false_iff_ne, ne_eq, Int.not_lt, Int.not_le, Bool.and_eq_true, Bool.and_eq_false_iff, Bool.or_eq_true, Bool.or_eq_false_iff] at h))))
    | false =>
      repeat' (first | simp -implicitDefEqProofs (maxSteps := 1000000) (disch := (first | omega | (simp only [go_sem] <;> omega) | fail)) only [go_sem, ints, bools, mat] | ((first | refine goIf_b (fun h => ?_) (fun h => ?_) | refine goG_b (fun h => ?_) (fun h => ?_) | refine goTG_b (fun h => ?_) (fun h => ?_) | refine goOG_b (fun h => ?_) (fun h => ?_)) <;> ((try simp only [Bool.not_eq_true', Bool.not_eq_false'] at h); (try simp only [h]); (try simp only [decide_eq_true_eq, decide_eq_false_iff_not, bne_iff_ne, bne_eq_false_iff_eq, beq_iff_eq, beq_eq_false_iff_ne, ne_eq, Int.not_lt, Int.not_le, Bool.and_eq_true, Bool.and_eq_false_iff, Bool.or_eq_true, Bool.or_eq_false_iff] at h))))
  · rw [lnW, if_neg h]
    generalize gcM l c ws = b at h
    repeat' (first | simp -implicitDefEqProofs (maxSteps := 1000000) (disch := (first | omega | (simp only [go_sem] <;> omega) | fail)) only [go_sem, ints, bools, mat] | ((first | refine goIf_b (fun h => ?_) (fun h => ?_) | refine goG_b (fun h => ?_) (fun h => ?_) | refine goTG_b (fun h => ?_) (fun h => ?_) | refine goOG_b (fun h => ?_) (fun h => ?_)) <;> ((try simp only [Bool.not_eq_true', Bool.not_eq_false'] at h); (try simp only [h]); (try simp only [decide_eq_true_eq, decide_eq_false_iff_not, bne_iff_ne, bne_eq_false_iff_eq, beq_iff_eq, beq_eq_false_iff_ne, ne_eq, Int.not_lt, Int.not_le, Bool.and_eq_true, Bool.and_eq_false_iff, Bool.or_eq_true, Bool.or_eq_false_iff] at h))))
    all_goals (exfalso; omega)
theorem d_impl_LeadersOf (l c : List Int) (hl : l.length < 1048577) (hc : c.length < 1048577) : Den PA f_impl_LeadersOf [.d (.agg [ints l]), .d (ints c)] [.any, .any] (lstR (lnM l c) (setI (lesM l c))) := by
  refine den_go [] l_impl_LeadersOf ?_
  repeat' (first | simp -implicitDefEqProofs (maxSteps := 1000000) (disch := (first | omega | (simp only [go_sem] <;> omega) | fail)) only [go_sem, ints, bools, mat, c_impl_LeadersOf] | ((first | refine goIf_b (fun h => ?_) (fun h => ?_) | refine goG_b (fun h => ?_) (fun h => ?_) | refine goTG_b (fun h => ?_) (fun h => ?_) | refine goOG_b (fun h => ?_) (fun h => ?_)) <;> ((try simp only [Bool.not_eq_true', Bool.not_eq_false'] at h); (try simp only [h]); (try simp only [decide_eq_true_eq, decide_eq_false_iff_not, bne_iff_ne, bne_eq_false_iff_eq, beq_iff_eq, beq_eq_false_iff_ne, ne_eq, Int.not_lt, Int.not_le, Bool.and_eq_true, Bool.and_eq_false_iff, Bool.or_eq_true, Bool.or_eq_false_iff] at h))))
  first | refine goC_call [.r, .r, .r] (d_impl_linearCode0 l c hl hc) ?_ | refine goOC_call [.r, .r, .r] (d_impl_linearCode0 l c hl hc) ?_
  by_cases h : lnM l c = 0
  · rw [lstR_ok h, h]
    obtain ⟨hs, hcc, hlin⟩ := lnM_ok h
    have hpr := isSpaceM_prod hs
    have hal : (lesM l c).length = (prodM l).toNat := by rw [List.length_map, allW_len]
    repeat' (first | simp -implicitDefEqProofs (maxSteps := 1000000) (disch := (first | omega | (simp only [go_sem] <;> omega) | fail)) only [go_sem, ints, bools, mat] | ((first | refine goIf_b (fun h => ?_) (fun h => ?_) | refine goG_b (fun h => ?_) (fun h => ?_) | refine goTG_b (fun h => ?_) (fun h => ?_) | refine goOG_b (fun h => ?_) (fun h => ?_)) <;> ((try simp only [Bool.not_eq_true', Bool.not_eq_false'] at h); (try simp only [h]); (try simp only [decide_eq_true_eq, decide_eq_false_iff_not, bne_iff_ne, bne_eq_false_iff_eq, beq_iff_eq, beq_eq_false_iff_ne, ne_eq, Int.not_lt, Int.not_le, Bool.and_eq_true, Bool.and_eq_false_iff, Bool.or_eq_true, Bool.or_eq_false_iff] at h))))
    first | refine goC_call [.r, .r] (d_impl_leaders l c hs (lin_plain hlin) (lin_grp hs hcc hlin)) ?_ | refine goOC_call [.r, .r] (d_impl_leaders l c hs (lin_plain hlin) (lin_grp hs hcc hlin)) ?_
    repeat' (first | simp -implicitDefEqProofs (maxSteps := 1000000) (disch := (first | omega | (simp only [go_sem] <;> omega) | fail)) only [go_sem, ints, bools, mat] | ((first | refine goIf_b (fun h => ?_) (fun h => ?_) | refine goG_b (fun h => ?_) (fun h => ?_) | refine goTG_b (fun h => ?_) (fun h => ?_) | refine goOG_b (fun h => ?_) (fun h => ?_)) <;> ((try simp only [Bool.not_eq_true', Bool.not_eq_false'] at h); (try simp only [h]); (try simp only [decide_eq_true_eq, decide_eq_false_iff_not, bne_iff_ne, bne_eq_false_iff_eq, beq_iff_eq, beq_eq_false_iff_ne, ne_eq, Int.not_lt, Int.not_le, Bool.and_eq_true, Bool.and_eq_false_iff, Bool.or_eq_true, Bool.or_eq_false_iff] at h))))
    first | refine goC_call [.o] (d_slices_Sort (lesM l c) (by omega)) ?_ | refine goOC_call [.o] (d_slices_Sort (lesM l c) (by omega)) ?_
    repeat' (first | simp -implicitDefEqProofs (maxSteps := 1000000) (disch := (first | omega | (simp only [go_sem] <;> omega) | fail)) only [go_sem, ints, bools, mat] | ((first | refine goIf_b (fun h => ?_) (fun h => ?_) | refine goG_b (fun h => ?_) (fun h => ?_) | refine goTG_b (fun h => ?_) (fun h => ?_) | refine goOG_b (fun h => ?_) (fun h => ?_)) <;> ((try simp only [Bool.not_eq_true', Bool.not_eq_false'] at h); (try simp only [h]); (try simp only [decide_eq_true_eq, decide_eq_false_iff_not, bne_iff_ne, bne_eq_false_iff_eq, beq_iff_eq, beq_eq_false_iff_ne, ne_eq, Int.not_lt, Int.not_le, Bool.and_eq_true, Bool.and_eq_false_iff, Bool.or_eq_true, Bool.or_eq_false_iff] at h))))
    first | refine goC_call [.o] (d_slices_Compact (sortI (lesM l c)) (by rw [setI_len_le]; omega)) ?_ | refine goOC_call [.o] (d_slices_Compact (sortI (lesM l c)) (by rw [setI_len_le]; omega)) ?_
    repeat' (first | simp -implicitDefEqProofs (maxSteps := 1000000) (disch := (first | omega | (simp only [go_sem] <;> omega) | fail)) only [go_sem, ints, bools, mat] | ((first | refine goIf_b (fun h => ?_) (fun h => ?_) | refine goG_b (fun h => ?_) (fun h => ?_) | refine goTG_b (fun h => ?_) (fun h => ?_) | refine goOG_b (fun h => ?_) (fun h => ?_)) <;> ((try simp only [Bool.not_eq_true', Bool.not_eq_false'] at h); (try simp only [h]); (try simp only [decide_eq_true_eq, decide_eq_false_iff_not, bne_iff_ne, bne_eq_false_iff_eq, beq_iff_eq, beq_eq_false_iff_ne, ne_eq, Int.not_lt, Int.not_le, Bool.and_eq_true, Bool.and_eq_false_iff, Bool.or_eq_true, Bool.or_eq_false_iff] at h))))
  · rw [lstR_no h]
    generalize lnM l c = b at h
    repeat' (first | simp -implicitDefEqProofs (maxSteps := 1000000) (disch := (first | omega | (simp only [go_sem] <;> omega) | fail)) only [go_sem, ints, bools, mat] | ((first | refine goIf_b (fun h => ?_) (fun h => ?_) | refine goG_b (fun h => ?_) (fun h => ?_) | refine goTG_b (fun h => ?_) (fun h => ?_) | refine goOG_b (fun h => ?_) (fun h => ?_)) <;> ((try simp only [Bool.not_eq_true', Bool.not_eq_false'] at h); (try simp only [h]); (try simp only [decide_eq_true_eq, decide_eq_false_iff_not, bne_iff_ne, bne_eq_false_iff_eq, beq_iff_eq, beq_eq_false_iff_ne, ne_eq, Int.not_lt, Int.not_le, Bool.and_eq_true, Bool.and_eq_false_iff, Bool.or_eq_true, Bool.or_eq_false_iff] at h))))
    all_goals (exfalso; omega)
theorem d_spec_LeadersOf (l c : List Int) (hl : l.length < 1048577) (hc : c.length < 1048577) : Den PA f_spec_LeadersOf [.d (.agg [ints l]), .d (ints c)] [.any, .any] (lstR (lnM l c) (setI (lesM l c))) := by
  refine den_go [] l_spec_LeadersOf ?_
  repeat' (first | simp -implicitDefEqProofs (maxSteps := 1000000) (disch := (first | omega | (simp only [go_sem] <;> omega) | fail)) only [go_sem, ints, bools, mat, c_spec_LeadersOf] | ((first | refine goIf_b (fun h => ?_) (fun h => ?_) | refine goG_b (fun h => ?_) (fun h => ?_) | refine goTG_b (fun h => ?_) (fun h => ?_) | refine goOG_b (fun h => ?_) (fun h => ?_)) <;> ((try simp only [Bool.not_eq_true', Bool.not_eq_false'] at h); (try simp only [h]); (try simp only [decide_eq_true_eq, decide_eq_false_iff_not, bne_iff_ne, bne_eq_false_iff_eq, beq_iff_eq, beq_eq_false_iff_ne, ne_eq, Int.not_lt, Int.not_le, Bool.and_eq_true, Bool.and_eq_false_iff, Bool.or_eq_true, Bool.or_eq_false_iff] at h))))
  first | refine goC_call [.r, .r] (d_spec_l05Given l c hl hc) ?_ | refine goOC_call [.r, .r] (d_spec_l05Given l c hl hc) ?_
  by_cases h : lnM l c = 0
  · rw [lstR_ok h, h]
    obtain ⟨hs, hcc, hlin⟩ := lnM_ok h
    repeat' (first | simp -implicitDefEqProofs (maxSteps := 1000000) (disch := (first | omega | (simp only [go_sem] <;> omega) | fail)) only [go_sem, ints, bools, mat] | ((first | refine goIf_b (fun h => ?_) (fun h => ?_) | refine goG_b (fun h => ?_) (fun h => ?_) | refine goTG_b (fun h => ?_) (fun h => ?_) | refine goOG_b (fun h => ?_) (fun h => ?_)) <;> ((try simp only [Bool.not_eq_true', Bool.not_eq_false'] at h); (try simp only [h]); (try simp only [decide_eq_true_eq, decide_eq_false_iff_not, bne_iff_ne, bne_eq_false_iff_eq, beq_iff_eq, beq_eq_false_iff_ne, ne_eq, Int.not_lt, Int.not_le, Bool.and_eq_true, Bool.and_eq_false_iff, Bool.or_eq_true, Bool.or_eq_false_iff] at h))))
    first | refine goC_call [.r, .r] (d_spec_l05Leaders l c hs (lin_plain hlin) (lin_grp hs hcc hlin)) ?_ | refine goOC_call [.r, .r] (d_spec_l05Leaders l c hs (lin_plain hlin) (lin_grp hs hcc hlin)) ?_
    repeat' (first | simp -implicitDefEqProofs (maxSteps := 1000000) (disch := (first | omega | (simp only [go_sem] <;> omega) | fail)) only [go_sem, ints, bools, mat] | ((first | refine goIf_b (fun h => ?_) (fun h => ?_) | refine goG_b (fun h => ?_) (fun h => ?_) | refine goTG_b (fun h => ?_) (fun h => ?_) | refine goOG_b (fun h => ?_) (fun h => ?_)) <;> ((try simp only [Bool.not_eq_true', Bool.not_eq_false'] at h); (try simp only [h]); (try simp only [decide_eq_true_eq, decide_eq_false_iff_not, bne_iff_ne, bne_eq_false_iff_eq, beq_iff_eq, beq_eq_false_iff_ne, ne_eq, Int.not_lt, Int.not_le, Bool.and_eq_true, Bool.and_eq_false_iff, Bool.or_eq_true, Bool.or_eq_false_iff] at h))))
  · rw [lstR_no h]
    generalize lnM l c = b at h
    repeat' (first | simp -implicitDefEqProofs (maxSteps := 1000000) (disch := (first | omega | (simp only [go_sem] <;> omega) | fail)) only [go_sem, ints, bools, mat] | ((first | refine goIf_b (fun h => ?_) (fun h => ?_) | refine goG_b (fun h => ?_) (fun h => ?_) | refine goTG_b (fun h => ?_) (fun h => ?_) | refine goOG_b (fun h => ?_) (fun h => ?_)) <;> ((try simp only [Bool.not_eq_true', Bool.not_eq_false'] at h); (try simp only [h]); (try simp only [decide_eq_true_eq, decide_eq_false_iff_not, bne_iff_ne, bne_eq_false_iff_eq, beq_iff_eq, beq_eq_false_iff_ne, ne_eq, Int.not_lt, Int.not_le, Bool.and_eq_true, Bool.and_eq_false_iff, Bool.or_eq_true, Bool.or_eq_false_iff] at h))))
    all_goals (exfalso; omega)
/-- The greatest weight of the first words of a list. -/
def mxN (l L : List Int) : Nat → Int
  | 0 => 0
  | k + 1 => if mxN l L k < wtM l (L.getD k 0) then wtM l (L.getD k 0) else mxN l L k
theorem mxN_bnd (l L : List Int) : ∀ k, 0 ≤ mxN l L k ∧ mxN l L k ≤ l.length
  | 0 => by simp [mxN]
  | k + 1 => by
    have h1 := mxN_bnd l L k
    have h2 := wt_bnd l (L.getD k 0)
    rw [mxN]; split <;> omega
theorem mxN_ge (l L : List Int) (m : Int) : ∀ k, k ≤ L.length → (mxN l L k ≤ m ↔ 0 ≤ m ∧ ∀ i, i < k → wtM l (L.getD i 0) ≤ m)
  | 0, _ => by simp [mxN]
  | k + 1, hk => by
    have ih := mxN_ge l L m k (by omega)
    have e1 : mxN l L (k + 1) ≤ m ↔ mxN l L k ≤ m ∧ wtM l (L.getD k 0) ≤ m := by
      rw [mxN]; split <;> omega
    rw [e1]
    constructor
    · intro h
      obtain ⟨a, b⟩ := ih.1 (by omega)
      exact ⟨a, fun i hi => by
        by_cases e : i = k
        · subst e; omega
        · exact b i (by omega)⟩
    · rintro ⟨a, b⟩
      have h1 := ih.2 ⟨a, fun i hi => b i (by omega)⟩
      have h2 := b k (by omega)
      omega
theorem mxN_eq {l A B : List Int} (h : ∀ x, x ∈ A ↔ x ∈ B) : mxN l A A.length = mxN l B B.length := by
  have key : ∀ m, mxN l A A.length ≤ m ↔ mxN l B B.length ≤ m := fun m => by
    rw [mxN_ge l A m _ (Nat.le_refl _), mxN_ge l B m _ (Nat.le_refl _)]
    have e : (∀ i, i < A.length → wtM l (A.getD i 0) ≤ m) ↔ ∀ i, i < B.length → wtM l (B.getD i 0) ≤ m := by
      constructor
      · intro h1 i hi
        have := (h _).2 (mem_getD hi)
        obtain ⟨j, hj, e⟩ := List.mem_iff_getElem.1 this
        have h2 := h1 j hj
        rw [show A.getD j 0 = B.getD i 0 by rw [← e]; simp [hj]] at h2
        exact h2
      · intro h1 i hi
        have := (h _).1 (mem_getD hi)
        obtain ⟨j, hj, e⟩ := List.mem_iff_getElem.1 this
        have h2 := h1 j hj
        rw [show B.getD j 0 = A.getD i 0 by rw [← e]; simp [hj]] at h2
        exact h2
    rw [e]
  have h1 := (key _).1 (Int.le_refl _)
  have h2 := (key _).2 (Int.le_refl _)
  omega
abbrev rblR (l c : List Int) : R := .tup [.d (di (if lnM l c = 0 then mxN l (lesM l c) (lesM l c).length else 0)), .d (di (lnM l c))]
theorem les_get (l c : List Int) {k : Nat} (h : k < (prodM l).toNat) : (lesM l c).getD k 0 = ldW l c k := by
  have h2 : k < (allW l).length := by rw [allW_len]; exact h
  have h3 : (allW l)[k] = (k : Int) := by simpa [h2] using allW_get l h
  simp [List.getD_eq_getElem?_getD, h2, h3]
theorem d_impl_RadiusByLeaders (l c : List Int) (hl : l.length < 1048577) (hc : c.length < 1048577) : Den PA f_impl_RadiusByLeaders [.d (.agg [ints l]), .d (ints c)] [.any, .any] (rblR l c) := by
  refine den_go [] l_impl_RadiusByLeaders ?_
  repeat' (first | simp -implicitDefEqProofs (maxSteps := 1000000) (disch := (first | omega | (simp only [go_sem] <;> omega) | fail)) only [go_sem, ints, bools, mat, c_impl_RadiusByLeaders] | ((first | refine goIf_b (fun h => ?_) (fun h => ?_) | refine goG_b (fun h => ?_) (fun h => ?_) | refine goTG_b (fun h => ?_) (fun h => ?_) | refine goOG_b (fun h => ?_) (fun h => ?_)) <;> ((try simp only [Bool.not_eq_true', Bool.not_eq_false'] at h); (try simp only [h]); (try simp only [decide_eq_true_eq, decide_eq_false_iff_not, bne_iff_ne, bne_eq_false_iff_eq, beq_iff_eq, beq_eq_false_iff_ne, ne_eq, Int.not_lt, Int.not_le, Bool.and_eq_true, Bool.and_eq_false_iff, Bool.or_eq_true, Bool.or_eq_false_iff] at h))))
  first | refine goC_call [.r, .r, .r] (d_impl_linearCode0 l c hl hc) ?_ | refine goOC_call [.r, .r, .r] (d_impl_linearCode0 l c hl hc) ?_
  by_cases h : lnM l c = 0
  · rw [rblR, if_pos h, h]
    obtain ⟨hs, hcc, hlin⟩ := lnM_ok h
    have g := lin_grp hs hcc hlin
    have hn := isSpaceM_n hs
    have hpr := isSpaceM_prod hs
    have hal : (lesM l c).length = (prodM l).toNat := by rw [List.length_map, allW_len]
    repeat' (first | simp -implicitDefEqProofs (maxSteps := 1000000) (disch := (first | omega | (simp only [go_sem] <;> omega) | fail)) only [go_sem, ints, bools, mat] | ((first | refine goIf_b (fun h => ?_) (fun h => ?_) | refine goG_b (fun h => ?_) (fun h => ?_) | refine goTG_b (fun h => ?_) (fun h => ?_) | refine goOG_b (fun h => ?_) (fun h => ?_)) <;> ((try simp only [Bool.not_eq_true', Bool.not_eq_false'] at h); (try simp only [h]); (try simp only [decide_eq_true_eq, decide_eq_false_iff_not, bne_iff_ne, bne_eq_false_iff_eq, beq_iff_eq, beq_eq_false_iff_ne, ne_eq, Int.not_lt, Int.not_le, Bool.and_eq_true, Bool.and_eq_false_iff, Bool.or_eq_true, Bool.or_eq_false_iff] at h)) <;> (try (exfalso; omega))))
    first | refine goC_call [.r, .r] (d_impl_leaders l c hs (lin_plain hlin) (lin_grp hs hcc hlin)) ?_ | refine goOC_call [.r, .r] (d_impl_leaders l c hs (lin_plain hlin) (lin_grp hs hcc hlin)) ?_
    repeat' (first | simp -implicitDefEqProofs (maxSteps := 1000000) (disch := (first | omega | (simp only [go_sem] <;> omega) | fail)) only [go_sem, ints, bools, mat] | ((first | refine goIf_b (fun h => ?_) (fun h => ?_) | refine goG_b (fun h => ?_) (fun h => ?_) | refine goTG_b (fun h => ?_) (fun h => ?_) | refine goOG_b (fun h => ?_) (fun h => ?_)) <;> ((try simp only [Bool.not_eq_true', Bool.not_eq_false'] at h); (try simp only [h]); (try simp only [decide_eq_true_eq, decide_eq_false_iff_not, bne_iff_ne, bne_eq_false_iff_eq, beq_iff_eq, beq_eq_false_iff_ne, ne_eq, Int.not_lt, Int.not_le, Bool.and_eq_true, Bool.and_eq_false_iff, Bool.or_eq_true, Bool.or_eq_false_iff] at h)) <;> (try (exfalso; omega))))
    refine go_loop (fun (k : Nat) => ⟨[(2, .ref 0 0), (7, .d (di (mxN l (lesM l c) k))), (18, .sl 1 0 (prodM l).toNat 1), (19, .d (di (prodM l).toNat)), (20, .d (di k))], [some (.var [ints l]), some (.dat 1 ((lesM l c).map di))]⟩) (fun k => k ≤ (prodM l).toNat) (fun k => (prodM l).toNat - k) 0 ?_ ?_ ?_
    · simp -implicitDefEqProofs (maxSteps := 1000000) (disch := (first | omega | (simp only [go_sem] <;> omega) | fail)) only [go_sem, ints, bools, mat]
      rfl
    · simp
    · rintro k hk J hJ
      have hmb := mxN_bnd l (lesM l c) k
      by_cases hkl : k < (prodM l).toNat
      · have hb := ld_bnd hs g (w := k) (by omega)
        have hlg := les_get l c hkl
        rw [← hlg] at hb
        have hwb := wt_bnd l ((lesM l c).getD k 0)
        repeat' (first | simp -implicitDefEqProofs (maxSteps := 1000000) (disch := (first | omega | (simp only [go_sem] <;> omega) | fail)) only [go_sem, ints, bools, mat] | ((first | refine goIf_b (fun h => ?_) (fun h => ?_) | refine goG_b (fun h => ?_) (fun h => ?_) | refine goTG_b (fun h => ?_) (fun h => ?_) | refine goOG_b (fun h => ?_) (fun h => ?_)) <;> ((try simp only [Bool.not_eq_true', Bool.not_eq_false'] at h); (try simp only [h]); (try simp only [decide_eq_true_eq, decide_eq_false_iff_not, bne_iff_ne, bne_eq_false_iff_eq, beq_iff_eq, beq_eq_false_iff_ne, ne_eq, Int.not_lt, Int.not_le, Bool.and_eq_true, Bool.and_eq_false_iff, Bool.or_eq_true, Bool.or_eq_false_iff] at h)) <;> (try (exfalso; omega))))
        first | refine goC_call [.r, .r] (d_impl_digitsOf l hs ((lesM l c).getD k 0) hb.1 (by omega)) ?_ | refine goOC_call [.r, .r] (d_impl_digitsOf l hs ((lesM l c).getD k 0) hb.1 (by omega)) ?_
        repeat' (first | simp -implicitDefEqProofs (maxSteps := 1000000) (disch := (first | omega | (simp only [go_sem] <;> omega) | fail)) only [go_sem, ints, bools, mat] | ((first | refine goIf_b (fun h => ?_) (fun h => ?_) | refine goG_b (fun h => ?_) (fun h => ?_) | refine goTG_b (fun h => ?_) (fun h => ?_) | refine goOG_b (fun h => ?_) (fun h => ?_)) <;> ((try simp only [Bool.not_eq_true', Bool.not_eq_false'] at h); (try simp only [h]); (try simp only [decide_eq_true_eq, decide_eq_false_iff_not, bne_iff_ne, bne_eq_false_iff_eq, beq_iff_eq, beq_eq_false_iff_ne, ne_eq, Int.not_lt, Int.not_le, Bool.and_eq_true, Bool.and_eq_false_iff, Bool.or_eq_true, Bool.or_eq_false_iff] at h)) <;> (try (exfalso; omega))))
        first | refine goC_call [.r, .r] (d_impl_far0 l ((lesM l c).getD k 0) (by omega)) ?_ | refine goOC_call [.r, .r] (d_impl_far0 l ((lesM l c).getD k 0) (by omega)) ?_
        repeat' (first | simp -implicitDefEqProofs (maxSteps := 1000000) (disch := (first | omega | (simp only [go_sem] <;> omega) | fail)) only [go_sem, ints, bools, mat] | ((first | refine goIf_b (fun h => ?_) (fun h => ?_) | refine goG_b (fun h => ?_) (fun h => ?_) | refine goTG_b (fun h => ?_) (fun h => ?_) | refine goOG_b (fun h => ?_) (fun h => ?_)) <;> ((try simp only [Bool.not_eq_true', Bool.not_eq_false'] at h); (try simp only [h]); (try simp only [decide_eq_true_eq, decide_eq_false_iff_not, bne_iff_ne, bne_eq_false_iff_eq, beq_iff_eq, beq_eq_false_iff_ne, ne_eq, Int.not_lt, Int.not_le, Bool.and_eq_true, Bool.and_eq_false_iff, Bool.or_eq_true, Bool.or_eq_false_iff] at h)) <;> (try (exfalso; omega))))
        refine hJ (k + 1) (by omega) (by omega) _ ?_
        simp -implicitDefEqProofs (maxSteps := 1000000) (disch := (first | omega | (simp only [go_sem] <;> omega) | fail)) only [go_sem, ints, bools, mat]
        rfl
      · have : k = (prodM l).toNat := by omega
        subst this
        repeat' (first | simp -implicitDefEqProofs (maxSteps := 1000000) (disch := (first | omega | (simp only [go_sem] <;> omega) | fail)) only [go_sem, ints, bools, mat] | ((first | refine goIf_b (fun h => ?_) (fun h => ?_) | refine goG_b (fun h => ?_) (fun h => ?_) | refine goTG_b (fun h => ?_) (fun h => ?_) | refine goOG_b (fun h => ?_) (fun h => ?_)) <;> ((try simp only [Bool.not_eq_true', Bool.not_eq_false'] at h); (try simp only [h]); (try simp only [decide_eq_true_eq, decide_eq_false_iff_not, bne_iff_ne, bne_eq_false_iff_eq, beq_iff_eq, beq_eq_false_iff_ne, ne_eq, Int.not_lt, Int.not_le, Bool.and_eq_true, Bool.and_eq_false_iff, Bool.or_eq_true, Bool.or_eq_false_iff] at h)) <;> (try (exfalso; omega))))
  · rw [rblR, if_neg h]
    generalize lnM l c = b at h
    repeat' (first | simp -implicitDefEqProofs (maxSteps := 1000000) (disch := (first | omega | (simp only [go_sem] <;> omega) | fail)) only [go_sem, ints, bools, mat] | ((first | refine goIf_b (fun h => ?_) (fun h => ?_) | refine goG_b (fun h => ?_) (fun h => ?_) | refine goTG_b (fun h => ?_) (fun h => ?_) | refine goOG_b (fun h => ?_) (fun h => ?_)) <;> ((try simp only [Bool.not_eq_true', Bool.not_eq_false'] at h); (try simp only [h]); (try simp only [decide_eq_true_eq, decide_eq_false_iff_not, bne_iff_ne, bne_eq_false_iff_eq, beq_iff_eq, beq_eq_false_iff_ne, ne_eq, Int.not_lt, Int.not_le, Bool.and_eq_true, Bool.and_eq_false_iff, Bool.or_eq_true, Bool.or_eq_false_iff] at h)) <;> (try (exfalso; omega))))
    all_goals (exfalso; omega)
theorem d_spec_RadiusByLeaders (l c : List Int) (hl : l.length < 1048577) (hc : c.length < 1048577) : Den PA f_spec_RadiusByLeaders [.d (.agg [ints l]), .d (ints c)] [.any, .any] (rblR l c) := by
  refine den_go [] l_spec_RadiusByLeaders ?_
  repeat' (first | simp -implicitDefEqProofs (maxSteps := 1000000) (disch := (first | omega | (simp only [go_sem] <;> omega) | fail)) only [go_sem, ints, bools, mat, c_spec_RadiusByLeaders] | ((first | refine goIf_b (fun h => ?_) (fun h => ?_) | refine goG_b (fun h => ?_) (fun h => ?_) | refine goTG_b (fun h => ?_) (fun h => ?_) | refine goOG_b (fun h => ?_) (fun h => ?_)) <;> ((try simp only [Bool.not_eq_true', Bool.not_eq_false'] at h); (try simp only [h]); (try simp only [decide_eq_true_eq, decide_eq_false_iff_not, bne_iff_ne, bne_eq_false_iff_eq, beq_iff_eq, beq_eq_false_iff_ne, ne_eq, Int.not_lt, Int.not_le, Bool.and_eq_true, Bool.and_eq_false_iff, Bool.or_eq_true, Bool.or_eq_false_iff] at h))))
  first | refine goC_call [.r, .r] (d_spec_l05Given l c hl hc) ?_ | refine goOC_call [.r, .r] (d_spec_l05Given l c hl hc) ?_
  by_cases h : lnM l c = 0
  · rw [rblR, if_pos h, h]
    obtain ⟨hs, hcc, hlin⟩ := lnM_ok h
    have g := lin_grp hs hcc hlin
    have hn := isSpaceM_n hs
    have hpr := isSpaceM_prod hs
    have hal : (lesM l c).length = (prodM l).toNat := by rw [List.length_map, allW_len]
    have hsl := setI_len (lesM l c)
    have hin : ∀ k, k < (setI (lesM l c)).length → 0 ≤ (setI (lesM l c)).getD k 0 ∧ (setI (lesM l c)).getD k 0 < prodM l := fun k hk => by
      have hm := mem_getD hk
      rw [setI_mem, List.mem_map] at hm
      obtain ⟨u, hu, e⟩ := hm
      rw [← e]; exact ld_bnd hs g ((allW_mem' hs u).1 hu)
    repeat' (first | simp -implicitDefEqProofs (maxSteps := 1000000) (disch := (first | omega | (simp only [go_sem] <;> omega) | fail)) only [go_sem, ints, bools, mat] | ((first | refine goIf_b (fun h => ?_) (fun h => ?_) | refine goG_b (fun h => ?_) (fun h => ?_) | refine goTG_b (fun h => ?_) (fun h => ?_) | refine goOG_b (fun h => ?_) (fun h => ?_)) <;> ((try simp only [Bool.not_eq_true', Bool.not_eq_false'] at h); (try simp only [h]); (try simp only [decide_eq_true_eq, decide_eq_false_iff_not, bne_iff_ne, bne_eq_false_iff_eq, beq_iff_eq, beq_eq_false_iff_ne, ne_eq, Int.not_lt, Int.not_le, Bool.and_eq_true, Bool.and_eq_false_iff, Bool.or_eq_true, Bool.or_eq_false_iff] at h)) <;> (try (exfalso; omega))))
    first | refine goC_call [.r, .r] (d_spec_l05Leaders l c hs (lin_plain hlin) (lin_grp hs hcc hlin)) ?_ | refine goOC_call [.r, .r] (d_spec_l05Leaders l c hs (lin_plain hlin) (lin_grp hs hcc hlin)) ?_
    repeat' (first | simp -implicitDefEqProofs (maxSteps := 1000000) (disch := (first | omega | (simp only [go_sem] <;> omega) | fail)) only [go_sem, ints, bools, mat] | ((first | refine goIf_b (fun h => ?_) (fun h => ?_) | refine goG_b (fun h => ?_) (fun h => ?_) | refine goTG_b (fun h => ?_) (fun h => ?_) | refine goOG_b (fun h => ?_) (fun h => ?_)) <;> ((try simp only [Bool.not_eq_true', Bool.not_eq_false'] at h); (try simp only [h]); (try simp only [decide_eq_true_eq, decide_eq_false_iff_not, bne_iff_ne, bne_eq_false_iff_eq, beq_iff_eq, beq_eq_false_iff_ne, ne_eq, Int.not_lt, Int.not_le, Bool.and_eq_true, Bool.and_eq_false_iff, Bool.or_eq_true, Bool.or_eq_false_iff] at h)) <;> (try (exfalso; omega))))
    have e := mxN_eq (l := l) (fun x => setI_mem (lesM l c) x)
    rw [hal] at e
    rw [← e]
    refine go_loop (fun (k : Nat) => ⟨[(2, .ref 0 0), (7, .sl 1 0 (setI (lesM l c)).length 1), (8, .d (di (mxN l (setI (lesM l c)) k))), (20, .d (di (setI (lesM l c)).length)), (21, .d (di k))], [some (.var [ints l]), some (.dat 1 ((setI (lesM l c)).map di))]⟩) (fun k => k ≤ (setI (lesM l c)).length) (fun k => (setI (lesM l c)).length - k) 0 ?_ ?_ ?_
    · simp -implicitDefEqProofs (maxSteps := 1000000) (disch := (first | omega | (simp only [go_sem] <;> omega) | fail)) only [go_sem, ints, bools, mat]
      rfl
    · simp
    · rintro k hk J hJ
      have hmb := mxN_bnd l (setI (lesM l c)) k
      have hink := hin k
      have hwb := wt_bnd l ((setI (lesM l c)).getD k 0)
      by_cases hkl : k < (setI (lesM l c)).length
      · repeat' (first | simp -implicitDefEqProofs (maxSteps := 1000000) (disch := (first | omega | (simp only [go_sem] <;> omega) | fail)) only [go_sem, ints, bools, mat] | ((first | refine goIf_b (fun h => ?_) (fun h => ?_) | refine goG_b (fun h => ?_) (fun h => ?_) | refine goTG_b (fun h => ?_) (fun h => ?_) | refine goOG_b (fun h => ?_) (fun h => ?_)) <;> ((try simp only [Bool.not_eq_true', Bool.not_eq_false'] at h); (try simp only [h]); (try simp only [decide_eq_true_eq, decide_eq_false_iff_not, bne_iff_ne, bne_eq_false_iff_eq, beq_iff_eq, beq_eq_false_iff_ne, ne_eq, Int.not_lt, Int.not_le, Bool.and_eq_true, Bool.and_eq_false_iff, Bool.or_eq_true, Bool.or_eq_false_iff] at h)) <;> (try (exfalso; omega))))
        first | refine goC_call [.r, .r, .r] (d_spec_l01Distance l hs 0 ((setI (lesM l c)).getD k 0) (by omega) (by omega) (by omega) (by omega)) ?_ | refine goOC_call [.r, .r, .r] (d_spec_l01Distance l hs 0 ((setI (lesM l c)).getD k 0) (by omega) (by omega) (by omega) (by omega)) ?_
        repeat' (first | simp -implicitDefEqProofs (maxSteps := 1000000) (disch := (first | omega | (simp only [go_sem] <;> omega) | fail)) only [go_sem, ints, bools, mat] | ((first | refine goIf_b (fun h => ?_) (fun h => ?_) | refine goG_b (fun h => ?_) (fun h => ?_) | refine goTG_b (fun h => ?_) (fun h => ?_) | refine goOG_b (fun h => ?_) (fun h => ?_)) <;> ((try simp only [Bool.not_eq_true', Bool.not_eq_false'] at h); (try simp only [h]); (try simp only [decide_eq_true_eq, decide_eq_false_iff_not, bne_iff_ne, bne_eq_false_iff_eq, beq_iff_eq, beq_eq_false_iff_ne, ne_eq, Int.not_lt, Int.not_le, Bool.and_eq_true, Bool.and_eq_false_iff, Bool.or_eq_true, Bool.or_eq_false_iff] at h)) <;> (try (exfalso; omega))))
        refine hJ (k + 1) (by omega) (by omega) _ ?_
        simp -implicitDefEqProofs (maxSteps := 1000000) (disch := (first | omega | (simp only [go_sem] <;> omega) | fail)) only [go_sem, ints, bools, mat]
        rfl
      · have : k = (setI (lesM l c)).length := by omega
        subst this
        repeat' (first | simp -implicitDefEqProofs (maxSteps := 1000000) (disch := (first | omega | (simp only [go_sem] <;> omega) | fail)) only [go_sem, ints, bools, mat] | ((first | refine goIf_b (fun h => ?_) (fun h => ?_) | refine goG_b (fun h => ?_) (fun h => ?_) | refine goTG_b (fun h => ?_) (fun h => ?_) | refine goOG_b (fun h => ?_) (fun h => ?_)) <;> ((try simp only [Bool.not_eq_true', Bool.not_eq_false'] at h); (try simp only [h]); (try simp only [decide_eq_true_eq, decide_eq_false_iff_not, bne_iff_ne, bne_eq_false_iff_eq, beq_iff_eq, beq_eq_false_iff_ne, ne_eq, Int.not_lt, Int.not_le, Bool.and_eq_true, Bool.and_eq_false_iff, Bool.or_eq_true, Bool.or_eq_false_iff] at h)) <;> (try (exfalso; omega))))
  · rw [rblR, if_neg h]
    generalize lnM l c = b at h
    repeat' (first | simp -implicitDefEqProofs (maxSteps := 1000000) (disch := (first | omega | (simp only [go_sem] <;> omega) | fail)) only [go_sem, ints, bools, mat] | ((first | refine goIf_b (fun h => ?_) (fun h => ?_) | refine goG_b (fun h => ?_) (fun h => ?_) | refine goTG_b (fun h => ?_) (fun h => ?_) | refine goOG_b (fun h => ?_) (fun h => ?_)) <;> ((try simp only [Bool.not_eq_true', Bool.not_eq_false'] at h); (try simp only [h]); (try simp only [decide_eq_true_eq, decide_eq_false_iff_not, bne_iff_ne, bne_eq_false_iff_eq, beq_iff_eq, beq_eq_false_iff_ne, ne_eq, Int.not_lt, Int.not_le, Bool.and_eq_true, Bool.and_eq_false_iff, Bool.or_eq_true, Bool.or_eq_false_iff] at h)) <;> (try (exfalso; omega))))
    all_goals (exfalso; omega)
theorem sum_opp {l : List Int} (hz : szs l) (w u : Int) : wordN l (sumM l (digM l w) (oppD l (digM l u))) l.length = difW l w u := by
  unfold difW sumW; rw [oppW_digs hz]
theorem dif_mem {l c : List Int} (hs : isSpaceM l = true) (hp : plainM l = true) (g : Grp l c) {w : Int} (hw : 0 ≤ w ∧ w < prodM l) : difW l w (ldW l c w) ∈ c := by
  obtain ⟨u, hu, e⟩ := shM_mem.1 (ld_ok hs g hw).1
  have hz := isSpaceM_szs hs
  have e2 : difW l w (ldW l c w) = oppW l u := by
    refine word_eq hz (sumW_bnd hs _ _) (oppW_bnd hs _) fun i hi => ?_
    rw [← e]
    simp only [sumW_dig hz _ _ hi, oppW_dig hz _ hi]
    have h1 := dig_lt hz u hi
    have h2 := dig_lt hz w hi
    rcases q_cases hz hi with hq | hq | hq <;> rw [hq] at h1 h2 ⊢ <;> omega
  rw [e2]; exact grp_opp hs hp g hu
abbrev nwR (l c : List Int) (w : Int) : R := .tup [.d (di (if lnW l c [w] = 0 then difW l w (ldW l c w) else 0)), .d (di (lnW l c [w]))]
theorem d_impl_NearestWord (l c : List Int) (w : Int) (hl : l.length < 1048577) (hc : c.length < 1048577) : Den PA f_impl_NearestWord [.d (.agg [ints l]), .d (ints c), .d (di w)] [.any, .any, .any] (nwR l c w) := by
  refine den_go [] l_impl_NearestWord ?_
  repeat' (first | simp -implicitDefEqProofs (maxSteps := 1000000) (disch := (first | omega | (simp only [go_sem] <;> omega) | fail)) only [go_sem, ints, bools, mat, c_impl_NearestWord] | ((first | refine goIf_b (fun h => ?_) (fun h => ?_) | refine goG_b (fun h => ?_) (fun h => ?_) | refine goTG_b (fun h => ?_) (fun h => ?_) | refine goOG_b (fun h => ?_) (fun h => ?_)) <;> ((try simp only [Bool.not_eq_true', Bool.not_eq_false'] at h); (try simp only [h]); (try simp only [decide_eq_true_eq, decide_eq_false_iff_not, bne_iff_ne, bne_eq_false_iff_eq, beq_iff_eq, beq_eq_false_iff_ne, ne_eq, Int.not_lt, Int.not_le, Bool.and_eq_true, Bool.and_eq_false_iff, Bool.or_eq_true, Bool.or_eq_false_iff] at h))))
  first | refine goC_call [.r, .r, .r] (d_impl_linearCode l c [w] hl hc (by simp)) ?_ | refine goOC_call [.r, .r, .r] (d_impl_linearCode l c [w] hl hc (by simp)) ?_
  by_cases h : lnW l c [w] = 0
  · rw [nwR, if_pos h, h]
    obtain ⟨hs, hcc, hlin, hww⟩ := lnW_ok h
    have g := lin_grp hs hcc hlin
    have hn := isSpaceM_n hs
    have hz := isSpaceM_szs hs
    have hpr := isSpaceM_prod hs
    have hw : 0 ≤ w ∧ w < prodM l := hww w (by simp)
    have hal : (lesM l c).length = (prodM l).toNat := by rw [List.length_map, allW_len]
    have hlg := les_get l c (k := w.toNat) (by omega)
    rw [Int.toNat_of_nonneg hw.1] at hlg
    have hb := ld_bnd hs g hw
    have ew := digM_len l w
    have ed := digM_len l (ldW l c w)
    have eo := oppD_len l (digM l (ldW l c w))
    repeat' (first | simp -implicitDefEqProofs (maxSteps := 1000000) (disch := (first | omega | (simp only [go_sem] <;> omega) | fail)) only [go_sem, ints, bools, mat, hlg] | ((first | refine goIf_b (fun h => ?_) (fun h => ?_) | refine goG_b (fun h => ?_) (fun h => ?_) | refine goTG_b (fun h => ?_) (fun h => ?_) | refine goOG_b (fun h => ?_) (fun h => ?_)) <;> ((try simp only [Bool.not_eq_true', Bool.not_eq_false'] at h); (try simp only [h]); (try simp only [decide_eq_true_eq, decide_eq_false_iff_not, bne_iff_ne, bne_eq_false_iff_eq, beq_iff_eq, beq_eq_false_iff_ne, ne_eq, Int.not_lt, Int.not_le, Bool.and_eq_true, Bool.and_eq_false_iff, Bool.or_eq_true, Bool.or_eq_false_iff] at h)) <;> (try (exfalso; omega))) | ((first | refine goC_call [.r, .r] (d_impl_leaders l c hs (lin_plain hlin) (lin_grp hs hcc hlin)) ?_ | refine goOC_call [.r, .r] (d_impl_leaders l c hs (lin_plain hlin) (lin_grp hs hcc hlin)) ?_); simp -implicitDefEqProofs (maxSteps := 1000000) (disch := (first | omega | (simp only [go_sem] <;> omega) | fail)) only [go_sem, ints, bools, mat, hlg]; fail_if_success (with_reducible show chk _ _)) | ((first | refine goC_call [.r, .r] (d_impl_digitsOf l hs (ldW l c w) hb.1 (by omega)) ?_ | refine goOC_call [.r, .r] (d_impl_digitsOf l hs (ldW l c w) hb.1 (by omega)) ?_); simp -implicitDefEqProofs (maxSteps := 1000000) (disch := (first | omega | (simp only [go_sem] <;> omega) | fail)) only [go_sem, ints, bools, mat, hlg]; fail_if_success (with_reducible show chk _ _)) | ((first | refine goC_call [.r, .r] (d_impl_digitsOf l hs w hw.1 (by omega)) ?_ | refine goOC_call [.r, .r] (d_impl_digitsOf l hs w hw.1 (by omega)) ?_); simp -implicitDefEqProofs (maxSteps := 1000000) (disch := (first | omega | (simp only [go_sem] <;> omega) | fail)) only [go_sem, ints, bools, mat, hlg]; fail_if_success (with_reducible show chk _ _)) | ((first | refine goC_call [.r, .r] (d_impl_oppositeOf l (digM l (ldW l c w)) hs (by omega) (digM_bnd _ hz) (fun i hi => (dig_lt hz _ hi).2)) ?_ | refine goOC_call [.r, .r] (d_impl_oppositeOf l (digM l (ldW l c w)) hs (by omega) (digM_bnd _ hz) (fun i hi => (dig_lt hz _ hi).2)) ?_); simp -implicitDefEqProofs (maxSteps := 1000000) (disch := (first | omega | (simp only [go_sem] <;> omega) | fail)) only [go_sem, ints, bools, mat, hlg]; fail_if_success (with_reducible show chk _ _)) | ((first | refine goC_call [.r, .r, .r] (d_impl_sumOf l (digM l w) (oppD l (digM l (ldW l c w))) hs (by omega) (by omega) (digM_bnd _ hz) (oppD_bnd hz _)) ?_ | refine goOC_call [.r, .r, .r] (d_impl_sumOf l (digM l w) (oppD l (digM l (ldW l c w))) hs (by omega) (by omega) (digM_bnd _ hz) (oppD_bnd hz _)) ?_); simp -implicitDefEqProofs (maxSteps := 1000000) (disch := (first | omega | (simp only [go_sem] <;> omega) | fail)) only [go_sem, ints, bools, mat, hlg]; fail_if_success (with_reducible show chk _ _)) | ((first | refine goC_call [.r, .r] (d_impl_wordOf l (sumM l (digM l w) (oppD l (digM l (ldW l c w)))) hs (by rw [sumM_len]; omega) (sumM_lt hz _ _)) ?_ | refine goOC_call [.r, .r] (d_impl_wordOf l (sumM l (digM l w) (oppD l (digM l (ldW l c w)))) hs (by rw [sumM_len]; omega) (sumM_lt hz _ _)) ?_); simp -implicitDefEqProofs (maxSteps := 1000000) (disch := (first | omega | (simp only [go_sem] <;> omega) | fail)) only [go_sem, ints, bools, mat, hlg]; fail_if_success (with_reducible show chk _ _)) | (rw [goS_two]; refine ⟨?_, ?_⟩))
    all_goals (rw [sum_opp hz])
  · rw [nwR, if_neg h]
    generalize lnW l c [w] = b at h
    repeat' (first | simp -implicitDefEqProofs (maxSteps := 1000000) (disch := (first | omega | (simp only [go_sem] <;> omega) | fail)) only [go_sem, ints, bools, mat] | ((first | refine goIf_b (fun h => ?_) (fun h => ?_) | refine goG_b (fun h => ?_) (fun h => ?_) | refine goTG_b (fun h => ?_) (fun h => ?_) | refine goOG_b (fun h => ?_) (fun h => ?_)) <;> ((try simp only [Bool.not_eq_true', Bool.not_eq_false'] at h); (try simp only [h]); (try simp only [decide_eq_true_eq, decide_eq_false_iff_not, bne_iff_ne, bne_eq_false_iff_eq, beq_iff_eq, beq_eq_false_iff_ne, ne_eq, Int.not_lt, Int.not_le, Bool.and_eq_true, Bool.and_eq_false_iff, Bool.or_eq_true, Bool.or_eq_false_iff] at h)) <;> (try (exfalso; omega))))
    all_goals (exfalso; omega)
theorem d_spec_NearestWord (l c : List Int) (w : Int) (hl : l.length < 1048577) (hc : c.length < 1048577) : Den PA f_spec_NearestWord [.d (.agg [ints l]), .d (ints c), .d (di w)] [.any, .any, .any] (nwR l c w) := by
  refine den_go [] l_spec_NearestWord ?_
  repeat' (first | simp -implicitDefEqProofs (maxSteps := 1000000) (disch := (first | omega | (simp only [go_sem] <;> omega) | fail)) only [go_sem, ints, bools, mat, c_spec_NearestWord] | ((first | refine goIf_b (fun h => ?_) (fun h => ?_) | refine goG_b (fun h => ?_) (fun h => ?_) | refine goTG_b (fun h => ?_) (fun h => ?_) | refine goOG_b (fun h => ?_) (fun h => ?_)) <;> ((try simp only [Bool.not_eq_true', Bool.not_eq_false'] at h); (try simp only [h]); (try simp only [decide_eq_true_eq, decide_eq_false_iff_not, bne_iff_ne, bne_eq_false_iff_eq, beq_iff_eq, beq_eq_false_iff_ne, ne_eq, Int.not_lt, Int.not_le, Bool.and_eq_true, Bool.and_eq_false_iff, Bool.or_eq_true, Bool.or_eq_false_iff] at h))))
  first | refine goC_call [.r, .r] (d_spec_l01Words l hl [w] (by simp)) ?_ | refine goOC_call [.r, .r] (d_spec_l01Words l hl [w] (by simp)) ?_
  have e := lnW_eq l c [w]
  by_cases h1 : wcM l [w] = 0
  · rw [if_pos h1] at e
    rw [h1]
    repeat' (first | simp -implicitDefEqProofs (maxSteps := 1000000) (disch := (first | omega | (simp only [go_sem] <;> omega) | fail)) only [go_sem, ints, bools, mat] | ((first | refine goIf_b (fun h => ?_) (fun h => ?_) | refine goG_b (fun h => ?_) (fun h => ?_) | refine goTG_b (fun h => ?_) (fun h => ?_) | refine goOG_b (fun h => ?_) (fun h => ?_)) <;> ((try simp only [Bool.not_eq_true', Bool.not_eq_false'] at h); (try simp only [h]); (try simp only [decide_eq_true_eq, decide_eq_false_iff_not, bne_iff_ne, bne_eq_false_iff_eq, beq_iff_eq, beq_eq_false_iff_ne, ne_eq, Int.not_lt, Int.not_le, Bool.and_eq_true, Bool.and_eq_false_iff, Bool.or_eq_true, Bool.or_eq_false_iff] at h)) <;> (try (exfalso; omega))))
    first | refine goC_call [.r, .r] (d_spec_l05Given l c hl hc) ?_ | refine goOC_call [.r, .r] (d_spec_l05Given l c hl hc) ?_
    rw [← e]
    by_cases h : lnW l c [w] = 0
    · rw [nwR, if_pos h, h]
      obtain ⟨hs, hcc, hlin, hww⟩ := lnW_ok h
      have g := lin_grp hs hcc hlin
      have hn := isSpaceM_n hs
      have hpr := isSpaceM_prod hs
      have hw : 0 ≤ w ∧ w < prodM l := hww w (by simp)
      have hb := ld_bnd hs g hw
      have hcb := inC_get (inC_code hcc)
      repeat' (first | simp -implicitDefEqProofs (maxSteps := 1000000) (disch := (first | omega | (simp only [go_sem] <;> omega) | fail)) only [go_sem, ints, bools, mat] | ((first | refine goIf_b (fun h => ?_) (fun h => ?_) | refine goG_b (fun h => ?_) (fun h => ?_) | refine goTG_b (fun h => ?_) (fun h => ?_) | refine goOG_b (fun h => ?_) (fun h => ?_)) <;> ((try simp only [Bool.not_eq_true', Bool.not_eq_false'] at h); (try simp only [h]); (try simp only [decide_eq_true_eq, decide_eq_false_iff_not, bne_iff_ne, bne_eq_false_iff_eq, beq_iff_eq, beq_eq_false_iff_ne, ne_eq, Int.not_lt, Int.not_le, Bool.and_eq_true, Bool.and_eq_false_iff, Bool.or_eq_true, Bool.or_eq_false_iff] at h)) <;> (try (exfalso; omega))))
      first | refine goC_call [.r, .r, .r] (d_spec_l05Leader l c hs g w hw) ?_ | refine goOC_call [.r, .r, .r] (d_spec_l05Leader l c hs g w hw) ?_
      repeat' (first | simp -implicitDefEqProofs (maxSteps := 1000000) (disch := (first | omega | (simp only [go_sem] <;> omega) | fail)) only [go_sem, ints, bools, mat] | ((first | refine goIf_b (fun h => ?_) (fun h => ?_) | refine goG_b (fun h => ?_) (fun h => ?_) | refine goTG_b (fun h => ?_) (fun h => ?_) | refine goOG_b (fun h => ?_) (fun h => ?_)) <;> ((try simp only [Bool.not_eq_true', Bool.not_eq_false'] at h); (try simp only [h]); (try simp only [decide_eq_true_eq, decide_eq_false_iff_not, bne_iff_ne, bne_eq_false_iff_eq, beq_iff_eq, beq_eq_false_iff_ne, ne_eq, Int.not_lt, Int.not_le, Bool.and_eq_true, Bool.and_eq_false_iff, Bool.or_eq_true, Bool.or_eq_false_iff] at h)) <;> (try (exfalso; omega))))
      refine go_loop (fun (k : Nat) => ⟨[(1, .d (ints c)), (2, .d (di w)), (3, .ref 0 0), (9, .d (di (ldW l c w))), (28, .d (di c.length)), (29, .d (di k))], [some (.var [ints l])]⟩) (fun k => k ≤ c.length ∧ ∀ i, i < k → sumW l (c.getD i 0) (ldW l c w) ≠ w) (fun k => c.length - k) 0 ?_ ?_ ?_
      · (simp -implicitDefEqProofs (maxSteps := 1000000) (disch := (first | omega | (simp only [go_sem] <;> omega) | fail)) only [go_sem, ints, bools, mat] <;> rfl)
      · exact ⟨Nat.zero_le _, fun i hi => by omega⟩
      · rintro k ⟨hk, hi⟩ J hJ
        have hck := hcb k
        by_cases hkl : k < c.length
        · repeat' (first | simp -implicitDefEqProofs (maxSteps := 1000000) (disch := (first | omega | (simp only [go_sem] <;> omega) | fail)) only [go_sem, ints, bools, mat] | ((first | refine goIf_b (fun h => ?_) (fun h => ?_) | refine goG_b (fun h => ?_) (fun h => ?_) | refine goTG_b (fun h => ?_) (fun h => ?_) | refine goOG_b (fun h => ?_) (fun h => ?_)) <;> ((try simp only [Bool.not_eq_true', Bool.not_eq_false'] at h); (try simp only [h]); (try simp only [decide_eq_true_eq, decide_eq_false_iff_not, bne_iff_ne, bne_eq_false_iff_eq, beq_iff_eq, beq_eq_false_iff_ne, ne_eq, Int.not_lt, Int.not_le, Bool.and_eq_true, Bool.and_eq_false_iff, Bool.or_eq_true, Bool.or_eq_false_iff] at h)) <;> (try (exfalso; omega))))
          first | refine goC_call [.r, .r, .r] (d_spec_l01Sum l hs (c.getD k 0) (ldW l c w) (by omega) (by omega) (by omega) (by omega)) ?_ | refine goOC_call [.r, .r, .r] (d_spec_l01Sum l hs (c.getD k 0) (ldW l c w) (by omega) (by omega) (by omega) (by omega)) ?_
          repeat' (first | simp -implicitDefEqProofs (maxSteps := 1000000) (disch := (first | omega | (simp only [go_sem] <;> omega) | fail)) only [go_sem, ints, bools, mat] | ((first | refine goIf_b (fun h => ?_) (fun h => ?_) | refine goG_b (fun h => ?_) (fun h => ?_) | refine goTG_b (fun h => ?_) (fun h => ?_) | refine goOG_b (fun h => ?_) (fun h => ?_)) <;> ((try simp only [Bool.not_eq_true', Bool.not_eq_false'] at h); (try simp only [h]); (try simp only [decide_eq_true_eq, decide_eq_false_iff_not, bne_iff_ne, bne_eq_false_iff_eq, beq_iff_eq, beq_eq_false_iff_ne, ne_eq, Int.not_lt, Int.not_le, Bool.and_eq_true, Bool.and_eq_false_iff, Bool.or_eq_true, Bool.or_eq_false_iff] at h)) <;> (try (exfalso; omega))))
          · have e3 := dif_sum hs hw (ldW l c w)
            have hbd := difW_bnd hs w (ldW l c w)
            rw [sumW_inj hs (hck hkl) hbd (ldW l c w) (by rw [e3]; assumption)]
          · refine hJ (k + 1) ⟨by omega, all_ext hi (by assumption)⟩ (by omega) _ (by (simp -implicitDefEqProofs (maxSteps := 1000000) (disch := (first | omega | (simp only [go_sem] <;> omega) | fail)) only [go_sem, ints, bools, mat] <;> rfl))
        · exfalso
          obtain ⟨i, hi2, e2⟩ := List.mem_iff_getElem.1 (dif_mem hs (lin_plain hlin) g hw)
          refine hi i (by omega) ?_
          rw [show c.getD i 0 = difW l w (ldW l c w) by rw [← e2]; simp [hi2]]
          exact dif_sum hs hw _
    · rw [nwR, if_neg h]
      generalize lnW l c [w] = b at h
      repeat' (first | simp -implicitDefEqProofs (maxSteps := 1000000) (disch := (first | omega | (simp only [go_sem] <;> omega) | fail)) only [go_sem, ints, bools, mat] | ((first | refine goIf_b (fun h => ?_) (fun h => ?_) | refine goG_b (fun h => ?_) (fun h => ?_) | refine goTG_b (fun h => ?_) (fun h => ?_) | refine goOG_b (fun h => ?_) (fun h => ?_)) <;> ((try simp only [Bool.not_eq_true', Bool.not_eq_false'] at h); (try simp only [h]); (try simp only [decide_eq_true_eq, decide_eq_false_iff_not, bne_iff_ne, bne_eq_false_iff_eq, beq_iff_eq, beq_eq_false_iff_ne, ne_eq, Int.not_lt, Int.not_le, Bool.and_eq_true, Bool.and_eq_false_iff, Bool.or_eq_true, Bool.or_eq_false_iff] at h)) <;> (try (exfalso; omega))))
      all_goals (exfalso; omega)
  · rw [if_neg h1] at e
    rw [nwR, e, if_neg h1]
    generalize wcM l [w] = b at h1
    repeat' (first | simp -implicitDefEqProofs (maxSteps := 1000000) (disch := (first | omega | (simp only [go_sem] <;> omega) | fail)) only [go_sem, ints, bools, mat] | ((first | refine goIf_b (fun h => ?_) (fun h => ?_) | refine goG_b (fun h => ?_) (fun h => ?_) | refine goTG_b (fun h => ?_) (fun h => ?_) | refine goOG_b (fun h => ?_) (fun h => ?_)) <;> ((try simp only [Bool.not_eq_true', Bool.not_eq_false'] at h); (try simp only [h]); (try simp only [decide_eq_true_eq, decide_eq_false_iff_not, bne_iff_ne, bne_eq_false_iff_eq, beq_iff_eq, beq_eq_false_iff_ne, ne_eq, Int.not_lt, Int.not_le, Bool.and_eq_true, Bool.and_eq_false_iff, Bool.or_eq_true, Bool.or_eq_false_iff] at h)) <;> (try (exfalso; omega))))
    all_goals (exfalso; omega)
def mxL (l : List Int) : Nat → Int
  | 0 => l.getD 0 0
  | k + 1 => if mxL l k < l.getD k 0 then l.getD k 0 else mxL l k
theorem mxL_gt (l : List Int) (m : Int) : ∀ k, m < mxL l k ↔ m < l.getD 0 0 ∨ ∃ i, i < k ∧ m < l.getD i 0
  | 0 => by simp [mxL]
  | k + 1 => by
    have ih := mxL_gt l m k
    have e : m < mxL l (k + 1) ↔ m < mxL l k ∨ m < l.getD k 0 := by rw [mxL]; split <;> omega
    rw [e, ih]
    constructor
    · rintro ((h | ⟨i, a, b⟩) | h)
      · exact .inl h
      · exact .inr ⟨i, by omega, b⟩
      · exact .inr ⟨k, by omega, h⟩
    · rintro (h | ⟨i, a, b⟩)
      · exact .inl (.inl h)
      · by_cases e : i = k
        · subst e; exact .inr b
        · exact .inl (.inr ⟨i, by omega, b⟩)
theorem d_slices_Max (l : List Int) (h0 : 0 < l.length) (hl : l.length < 1048577) : Den PA f_slices_Max___int64_int64_ [.d (ints l)] [.any] (.d (di (mxL l l.length))) := by
  refine den_go [] l_slices_Max___int64_int64_ ?_
  repeat' (first | simp -implicitDefEqProofs (maxSteps := 1000000) (disch := (first | omega | (simp only [go_sem] <;> omega) | fail)) only [go_sem, ints, bools, mat, c_slices_Max___int64_int64_] | ((first | refine goIf_b (fun h => ?_) (fun h => ?_) | refine goG_b (fun h => ?_) (fun h => ?_) | refine goTG_b (fun h => ?_) (fun h => ?_) | refine goOG_b (fun h => ?_) (fun h => ?_)) <;> ((try simp only [Bool.not_eq_true', Bool.not_eq_false'] at h); (try simp only [h]); (try simp only [decide_eq_true_eq, decide_eq_false_iff_not, bne_iff_ne, bne_eq_false_iff_eq, beq_iff_eq, beq_eq_false_iff_ne, ne_eq, Int.not_lt, Int.not_le, Bool.and_eq_true, Bool.and_eq_false_iff, Bool.or_eq_true, Bool.or_eq_false_iff] at h)) <;> (try (exfalso; omega))))
  refine go_loop (fun (k : Nat) => ⟨[(0, .d (ints l)), (3, .d (di (mxL l k))), (4, .d (di k))], []⟩) (fun k => 1 ≤ k ∧ k ≤ l.length) (fun k => l.length - k) 1 ?_ ?_ ?_
  · simp -implicitDefEqProofs (maxSteps := 1000000) (disch := (first | omega | (simp only [go_sem] <;> omega) | fail)) only [go_sem, ints, bools, mat]
    rw [mxL, mxL, if_neg (Int.lt_irrefl _)]
  · exact ⟨Nat.le_refl _, h0⟩
  · rintro k ⟨h1, h2⟩ J hJ
    by_cases hkl : k < l.length
    · repeat' (first | simp -implicitDefEqProofs (maxSteps := 1000000) (disch := (first | omega | (simp only [go_sem] <;> omega) | fail)) only [go_sem, ints, bools, mat] | ((first | refine goIf_b (fun h => ?_) (fun h => ?_) | refine goG_b (fun h => ?_) (fun h => ?_) | refine goTG_b (fun h => ?_) (fun h => ?_) | refine goOG_b (fun h => ?_) (fun h => ?_)) <;> ((try simp only [Bool.not_eq_true', Bool.not_eq_false'] at h); (try simp only [h]); (try simp only [decide_eq_true_eq, decide_eq_false_iff_not, bne_iff_ne, bne_eq_false_iff_eq, beq_iff_eq, beq_eq_false_iff_ne, ne_eq, Int.not_lt, Int.not_le, Bool.and_eq_true, Bool.and_eq_false_iff, Bool.or_eq_true, Bool.or_eq_false_iff] at h)) <;> (try (exfalso; omega))))
      refine hJ (k + 1) ⟨by omega, by omega⟩ (by omega) _ ?_
      simp -implicitDefEqProofs (maxSteps := 1000000) (disch := (first | omega | (simp only [go_sem] <;> omega) | fail)) only [go_sem, ints, bools, mat]
      rw [mxL]; rfl
    · have : k = l.length := by omega
      subst this
      repeat' (first | simp -implicitDefEqProofs (maxSteps := 1000000) (disch := (first | omega | (simp only [go_sem] <;> omega) | fail)) only [go_sem, ints, bools, mat] | ((first | refine goIf_b (fun h => ?_) (fun h => ?_) | refine goG_b (fun h => ?_) (fun h => ?_) | refine goTG_b (fun h => ?_) (fun h => ?_) | refine goOG_b (fun h => ?_) (fun h => ?_)) <;> ((try simp only [Bool.not_eq_true', Bool.not_eq_false'] at h); (try simp only [h]); (try simp only [decide_eq_true_eq, decide_eq_false_iff_not, bne_iff_ne, bne_eq_false_iff_eq, beq_iff_eq, beq_eq_false_iff_ne, ne_eq, Int.not_lt, Int.not_le, Bool.and_eq_true, Bool.and_eq_false_iff, Bool.or_eq_true, Bool.or_eq_false_iff] at h)) <;> (try (exfalso; omega))))
/-- Digits with the one at i turned. -/
def swD (d : List Int) (i : Nat) : List Int := d.set i (1 - d.getD i 0)
@[go_sem] theorem swD_len (d : List Int) (i : Nat) : (swD d i).length = d.length := by simp [swD]
def nxR (l : List Int) (j : Nat) : List (List Int) := (List.range j).map fun (d : Nat) => l ++ [(d : Int)]
@[go_sem] theorem nxR_len (l : List Int) (j : Nat) : (nxR l j).length = j := by simp [nxR]
def nxT (q : Nat) (ls : List (List Int)) (i : Nat) : List (List Int) := (ls.take i).flatMap fun l => nxR l q
def rowsN (q : Nat) : Nat → List (List Int)
  | 0 => [[]]
  | k + 1 => nxT q (rowsN q k) (rowsN q k).length
def badR (l : List Int) : Bool := match l.findIdx? fun d => d != 0 with | some j => l.getD j 0 != 1 | none => true
def colN (q m : Nat) : List (List Int) := (rowsN q m).filter fun x => !badR x
/-- The Hamming code's space, words. -/
def hamL (q m : Nat) : List Int := List.replicate (colN q m).length (q : Int)
@[go_sem] theorem hamL_len (q m : Nat) : (hamL q m).length = (colN q m).length := by simp [hamL]
abbrev sn (l : List Int) : D := .v (.string (strOfNums l))
@[go_sem] theorem str_46 : (ByteArray.mk #[46]) = strOfNums [46] := rfl
@[go_sem] theorem str_nil : (ByteArray.mk #[]) = strOfNums [] := rfl
@[go_sem] theorem str_45 : (ByteArray.mk #[45]) = strOfNums [45] := rfl
theorem str_app (a b : List Int) : strOfNums a ++ strOfNums b = strOfNums (a ++ b) := by
  apply ByteArray.ext
  simp [strOfNums]
@[go_sem] theorem eqsA_addN {a b : List Int} (h : a.length + b.length < 1048577) : eqsA .add (.d (.v (.string (strOfNums a)))) (.d (.v (.string (strOfNums b)))) = some (.d (.v (.string (strOfNums (a ++ b))))) := by
  have h2 : (strOfNums a).size + (strOfNums b).size ≤ maxLen := by
    rw [strOfNums_size, strOfNums_size]; exact Nat.le_trans (Nat.le_of_lt h) (by decide)
  simp only [eqsA]
  rw [if_pos h2, str_app]
@[go_sem] theorem eqsA_neq_self {s : ByteArray} : eqsA .neq (.d (.v (.string s))) (.d (.v (.string s))) = some (.d (.v (.bool false))) := by simp [eqsA]
@[go_sem] theorem lnsA_n {l : List Int} : lnsA (.d (.v (.string (strOfNums l)))) = some (.d (.v (.int .i64 l.length))) := by simp [lnsA, strOfNums_size]
theorem str_ext (l : List Int) (a b : Nat) : (strOfNums l).extract a b = strOfNums ((l.take b).drop a) := by
  apply ByteArray.ext
  simp [strOfNums, ByteArray.data_extract, List.map_drop, List.map_take, List.drop_take]
@[go_sem] theorem sltA_n {tm : List (Nat × AV)} {l : List Int} {lo hi : Option Opd} : sltA tm (.d (.v (.string (strOfNums l)))) lo hi = (bndA tm l.length lo hi).map fun p => .d (.v (.string (strOfNums ((l.take p.2).drop p.1)))) := by
  simp only [sltA, strOfNums_size, str_ext]
def spL : List Int → List (List Int)
  | [] => [[]]
  | x :: r => if x = 46 then [] :: spL r else match spL r with
    | p :: ps => (x :: p) :: ps
    | [] => [[x]]
@[go_sem] theorem flat_sn (l : List (List Int)) : flat (l.map fun x => sn x) = l.map fun x => sn x := by
  induction l with
  | nil => rfl
  | cons x r ih => simp only [flat, List.map_cons, List.flatMap_cons, D.cells] at ih ⊢; rw [ih]; rfl
@[go_sem] theorem getSn {l : List (List Int)} {j : Nat} (h : j < l.length) : (l.map fun x => sn x)[j]? = some (sn (l.getD j [])) := by simp [h]
def ptS (m c : Int) : Int := if 48 ≤ c ∧ c ≤ 51 then or2 m (c - 48) else m
def ptB (p : List Int) : Int := p.foldl ptS 0
def psT (l : List Int) : List Int := (spL l).map ptB
@[go_sem] theorem psT_len (l : List Int) : (psT l).length = (spL l).length := by simp [psT]
theorem wrapU_bnd (x : Int) : 0 ≤ IntKind.wrap .u64 x ∧ IntKind.wrap .u64 x < 18446744073709551616 := by
  have e : IntKind.wrap .u64 x = x % 18446744073709551616 := rfl
  rw [e]; omega
@[go_sem] theorem binA_shr33 {a : Int} : binA .shr (.d (.v (.int .u64 a))) (.d (.v (.int .u64 33))) = some (.d (.v (.int .u64 (a / 8589934592)))) := by
  have e : min (33 : Int).toNat 64 = 33 := rfl
  have h1 : (0 : Int) ≤ 2 ^ 33 := by decide
  simp only [binA, binI, BinOp.isShift, true_or, if_true, if_neg (show ¬ (33 : Int) < 0 by omega), IntKind.bits, e, Option.map_some, Int.fdiv_eq_ediv_of_nonneg _ h1]
  rfl
@[go_sem] theorem binA_mask24 {a : Int} (h : 0 ≤ a) (h' : a < 18446744073709551616) : binA .and (.d (.v (.int .u64 a))) (.d (.v (.int .u64 16777215))) = some (.d (.v (.int .u64 (a % 16777216)))) := by
  have e1 : (BitVec.ofInt 64 a).toNat = a.toNat := by rw [BitVec.toNat_ofInt]; omega
  have e2 : (BitVec.ofInt 64 16777215).toNat = 16777215 := by decide
  have e3 : (BitVec.ofInt 64 a &&& BitVec.ofInt 64 16777215).toNat = a.toNat % 16777216 := by
    rw [BitVec.toNat_and, e1, e2]; exact Nat.and_two_pow_sub_one_eq_mod a.toNat 24
  have e4 : binI .and .u64 a 16777215 = some (.int .u64 (IntKind.wrap .u64 ((BitVec.ofInt 64 a &&& BitVec.ofInt 64 16777215).toNat : Nat))) := rfl
  simp only [binA, e4, BinOp.isShift, or_true, if_true, e3, Option.map_some]
  rw [wrap_u64 (by omega) (by omega)]
  congr 4
  omega
attribute [go_sem] mkBlk
def leaB (o : Option (Option Blk)) (k i : Nat) (s : Sto) : R × Sto :=
  match o with
  | some (some (.var cs)) => (.boxm (cs.map .d), s.set i none)
  | some (some (.mix cs)) => (.boxm (leaL (leaA k) cs (s.set i none)).1, (leaL (leaA k) cs (s.set i none)).2)
  | _ => (.any, s)
@[go_sem] theorem leaA_ref (k i : Nat) (s : Sto) : leaA (k + 1) (.ref i 0) s = leaB s[i]? k i s := by
  simp only [leaA, leaB] <;> (rcases s[i]? with _ | _ | b <;> first | rfl | (cases b <;> rfl))
@[go_sem] theorem leaB_var (cs : List D) (k i : Nat) (s : Sto) : leaB (some (some (.var cs))) k i s = (.boxm (cs.map .d), s.set i none) := rfl
@[go_sem] theorem RLes_boxm (x y xs ys : List R) : RLes (.boxm x :: xs) (.boxm y :: ys) = (x = y ∧ RLes xs ys) := by
  apply propext
  constructor
  · intro h; cases h with | cons h hs => cases h; exact ⟨rfl, hs⟩
  · rintro ⟨rfl, hs⟩; exact .cons .refl hs
abbrev du (n : Int) : D := .v (.int .u64 n)
/-- A source: its place, its hash. -/
abbrev Src := Nat × Int
abbrev srcR (cd : D) (s : Src) : R := .boxm [.d cd, .d (di s.1), .d (du s.2)]
def okS (l : List Int) (s : Src) : Prop := s.1 ≤ l.length ∧ 0 ≤ s.2 ∧ s.2 < 18446744073709551616
def nxH (h : Int) : Int := IntKind.wrap .u64 (IntKind.wrap .u64 (h * 6364136223846793005) + 1442695040888963407)
def nxX (l : List Int) (s : Src) : Int := nxH s.2 / 8589934592 % 16777216 + (if s.1 < l.length then l.getD s.1 0 else 0)
def nxS (l : List Int) (s : Src) : Src := (if s.1 < l.length then s.1 + 1 else s.1, nxH s.2)
/-- The next number below q, what is left. -/
def nxt (l : List Int) (s : Src) (q : Int) : Int × Src := if q < 1 then (0, s) else (nxX l s % q, nxS l s)
theorem nxS_ok {l : List Int} {s : Src} (h : okS l s) : okS l (nxS l s) := by
  refine ⟨?_, wrapU_bnd _⟩
  unfold nxS; dsimp only
  split
  · omega
  · exact h.1
theorem nxt_ok {l : List Int} {s : Src} (h : okS l s) (q : Int) : okS l (nxt l s q).2 := by
  unfold nxt
  split
  · exact h
  · exact nxS_ok h
theorem nxt_bnd {l : List Int} {s : Src} {q : Int} (hq : 1 ≤ q) : 0 ≤ (nxt l s q).1 ∧ (nxt l s q).1 < q := by
  unfold nxt
  rw [if_neg (by omega)]
  exact ⟨Int.emod_nonneg _ (by omega), Int.emod_lt_of_pos _ (by omega)⟩
theorem d_spec_l01Next (cd : D) (l : List Int) (hb : IsBts cd l) (hl : l.length < 1048577) (s : Src) (hs : okS l s) (q : Int) : Den PA f_spec_l01Next [srcR cd s, .d (di q)] [srcR cd (nxt l s q).2, .any] (.d (di (nxt l s q).1)) := by
  obtain ⟨at0, h⟩ := s
  obtain ⟨h1, h2, h3⟩ := hs
  dsimp only at h1 h2 h3
  refine den_go [0] l_spec_l01Next ?_
  by_cases hq : q < 1
  · have e : nxt l (at0, h) q = (0, (at0, h)) := if_pos hq
    rw [e]
    repeat' (first | simp -implicitDefEqProofs (maxSteps := 1000000) (disch := (first | omega | (simp only [go_sem] <;> omega) | fail)) only [go_sem, ints, bools, mat, c_spec_l01Next, srcR] | ((first | refine goIf_b (fun h => ?_) (fun h => ?_) | refine goG_b (fun h => ?_) (fun h => ?_) | refine goTG_b (fun h => ?_) (fun h => ?_) | refine goOG_b (fun h => ?_) (fun h => ?_)) <;> ((try simp only [Bool.not_eq_true', Bool.not_eq_false'] at h); (try simp only [h]); (try simp only [decide_eq_true_eq, decide_eq_false_iff_not, bne_iff_ne, bne_eq_false_iff_eq, beq_iff_eq, beq_eq_false_iff_ne, ne_eq, Int.not_lt, Int.not_le, Bool.and_eq_true, Bool.and_eq_false_iff, Bool.or_eq_true, Bool.or_eq_false_iff] at h)) <;> (try (exfalso; omega))))
  · have e : nxt l (at0, h) q = (nxX l (at0, h) % q, nxS l (at0, h)) := if_neg hq
    have hh := wrapU_bnd (IntKind.wrap .u64 (h * 6364136223846793005) + 1442695040888963407)
    rw [e]
    rcases hb with ⟨rfl, hby⟩ | ⟨rfl, rfl⟩
    · by_cases ha : at0 < l.length
      · have hba := hby _ (mem_getD ha)
        have ex : nxX l (at0, h) = nxH h / 8589934592 % 16777216 + l.getD at0 0 := by simp only [nxX, if_pos ha]
        have es : nxS l (at0, h) = (at0 + 1, nxH h) := by simp only [nxS, if_pos ha]
        rw [ex, es]
        repeat' (first | simp -implicitDefEqProofs (maxSteps := 1000000) (disch := (first | omega | (simp only [go_sem] <;> omega) | fail)) only [go_sem, ints, bools, mat, c_spec_l01Next, srcR] | ((first | refine goIf_b (fun h => ?_) (fun h => ?_) | refine goG_b (fun h => ?_) (fun h => ?_) | refine goTG_b (fun h => ?_) (fun h => ?_) | refine goOG_b (fun h => ?_) (fun h => ?_)) <;> ((try simp only [Bool.not_eq_true', Bool.not_eq_false'] at h); (try simp only [h]); (try simp only [decide_eq_true_eq, decide_eq_false_iff_not, bne_iff_ne, bne_eq_false_iff_eq, beq_iff_eq, beq_eq_false_iff_ne, ne_eq, Int.not_lt, Int.not_le, Bool.and_eq_true, Bool.and_eq_false_iff, Bool.or_eq_true, Bool.or_eq_false_iff] at h)) <;> (try (exfalso; omega))))
        exact ⟨rfl, rfl⟩
      · have ex : nxX l (at0, h) = nxH h / 8589934592 % 16777216 := by simp only [nxX, if_neg ha, Int.add_zero]
        have es : nxS l (at0, h) = (at0, nxH h) := by simp only [nxS, if_neg ha]
        rw [ex, es]
        repeat' (first | simp -implicitDefEqProofs (maxSteps := 1000000) (disch := (first | omega | (simp only [go_sem] <;> omega) | fail)) only [go_sem, ints, bools, mat, c_spec_l01Next, srcR] | ((first | refine goIf_b (fun h => ?_) (fun h => ?_) | refine goG_b (fun h => ?_) (fun h => ?_) | refine goTG_b (fun h => ?_) (fun h => ?_) | refine goOG_b (fun h => ?_) (fun h => ?_)) <;> ((try simp only [Bool.not_eq_true', Bool.not_eq_false'] at h); (try simp only [h]); (try simp only [decide_eq_true_eq, decide_eq_false_iff_not, bne_iff_ne, bne_eq_false_iff_eq, beq_iff_eq, beq_eq_false_iff_ne, ne_eq, Int.not_lt, Int.not_le, Bool.and_eq_true, Bool.and_eq_false_iff, Bool.or_eq_true, Bool.or_eq_false_iff] at h)) <;> (try (exfalso; omega))))
        exact ⟨rfl, rfl⟩
    · have ha : ¬ at0 < ([] : List Int).length := by simp
      have ex : nxX [] (at0, h) = nxH h / 8589934592 % 16777216 := by simp only [nxX, if_neg ha, Int.add_zero]
      have es : nxS [] (at0, h) = (at0, nxH h) := by simp only [nxS, if_neg ha]
      rw [ex, es]
      repeat' (first | simp -implicitDefEqProofs (maxSteps := 1000000) (disch := (first | omega | (simp only [go_sem] <;> omega) | fail)) only [go_sem, ints, bools, mat, c_spec_l01Next, srcR] | ((first | refine goIf_b (fun h => ?_) (fun h => ?_) | refine goG_b (fun h => ?_) (fun h => ?_) | refine goTG_b (fun h => ?_) (fun h => ?_) | refine goOG_b (fun h => ?_) (fun h => ?_)) <;> ((try simp only [Bool.not_eq_true', Bool.not_eq_false'] at h); (try simp only [h]); (try simp only [decide_eq_true_eq, decide_eq_false_iff_not, bne_iff_ne, bne_eq_false_iff_eq, beq_iff_eq, beq_eq_false_iff_ne, ne_eq, Int.not_lt, Int.not_le, Bool.and_eq_true, Bool.and_eq_false_iff, Bool.or_eq_true, Bool.or_eq_false_iff] at h)) <;> (try (exfalso; omega))))
      exact ⟨rfl, rfl⟩
/-- One of some numbers. -/
def pik (l : List Int) (s : Src) (xs : List Int) : Int × Src := (xs.getD (nxt l s xs.length).1.toNat 0, (nxt l s xs.length).2)
theorem pik_mem {l : List Int} {s : Src} {xs : List Int} (h : 0 < xs.length) : (pik l s xs).1 ∈ xs := by
  have h1 := nxt_bnd (l := l) (s := s) (q := (xs.length : Int)) (by omega)
  exact mem_getD (by omega)
theorem d_spec_l01Pick (cd : D) (l : List Int) (hb : IsBts cd l) (hl : l.length < 1048577) (s : Src) (hs : okS l s) (xs : List Int) (h0 : 0 < xs.length) (h1 : xs.length < 1000) : Den PA f_spec_l01Pick [srcR cd s, .d (ints xs)] [srcR cd (pik l s xs).2, .any] (.d (di (pik l s xs).1)) := by
  have hbn := nxt_bnd (l := l) (s := s) (q := (xs.length : Int)) (by omega)
  have hnx := d_spec_l01Next cd l hb hl s hs xs.length
  refine den_go [0] l_spec_l01Pick ?_
  repeat' (first | simp -implicitDefEqProofs (maxSteps := 1000000) (disch := (first | omega | (simp only [go_sem] <;> omega) | fail)) only [go_sem, ints, bools, mat, c_spec_l01Pick, srcR] | ((first | refine goIf_b (fun h => ?_) (fun h => ?_) | refine goG_b (fun h => ?_) (fun h => ?_) | refine goTG_b (fun h => ?_) (fun h => ?_) | refine goOG_b (fun h => ?_) (fun h => ?_)) <;> ((try simp only [Bool.not_eq_true', Bool.not_eq_false'] at h); (try simp only [h]); (try simp only [decide_eq_true_eq, decide_eq_false_iff_not, bne_iff_ne, bne_eq_false_iff_eq, beq_iff_eq, beq_eq_false_iff_ne, ne_eq, Int.not_lt, Int.not_le, Bool.and_eq_true, Bool.and_eq_false_iff, Bool.or_eq_true, Bool.or_eq_false_iff] at h)) <;> (try (exfalso; omega))))
  first | refine goC_call [.bm, .r] (hnx) ?_ | refine goOC_call [.bm, .r] (hnx) ?_
  repeat' (first | simp -implicitDefEqProofs (maxSteps := 1000000) (disch := (first | omega | (simp only [go_sem] <;> omega) | fail)) only [go_sem, ints, bools, mat] | ((first | refine goIf_b (fun h => ?_) (fun h => ?_) | refine goG_b (fun h => ?_) (fun h => ?_) | refine goTG_b (fun h => ?_) (fun h => ?_) | refine goOG_b (fun h => ?_) (fun h => ?_)) <;> ((try simp only [Bool.not_eq_true', Bool.not_eq_false'] at h); (try simp only [h]); (try simp only [decide_eq_true_eq, decide_eq_false_iff_not, bne_iff_ne, bne_eq_false_iff_eq, beq_iff_eq, beq_eq_false_iff_ne, ne_eq, Int.not_lt, Int.not_le, Bool.and_eq_true, Bool.and_eq_false_iff, Bool.or_eq_true, Bool.or_eq_false_iff] at h)) <;> (try (exfalso; omega))))
  exact ⟨rfl, rfl⟩
theorem pik_ok {l : List Int} {s : Src} (h : okS l s) (xs : List Int) : okS l (pik l s xs).2 := nxt_ok h _
/-- What a source is. -/
structure SrcH (cd : D) (l : List Int) : Prop where
  hb : IsBts cd l
  hl : l.length < 1048577
theorem d_nxt {cd : D} {l : List Int} (H : SrcH cd l) {s : Src} (hs : okS l s) (q : Int) : Den PA f_spec_l01Next [srcR cd s, .d (di q)] [srcR cd (nxt l s q).2, .any] (.d (di (nxt l s q).1)) := d_spec_l01Next cd l H.hb H.hl s hs q
theorem d_pik {cd : D} {l : List Int} (H : SrcH cd l) {s : Src} (hs : okS l s) (xs : List Int) (h0 : 0 < xs.length) (h1 : xs.length < 1000) : Den PA f_spec_l01Pick [srcR cd s, .d (ints xs)] [srcR cd (pik l s xs).2, .any] (.d (di (pik l s xs).1)) := d_spec_l01Pick cd l H.hb H.hl s hs xs h0 h1
theorem ex_nxt {cd : D} {l : List Int} (H : SrcH cd l) {s : Src} (hs : okS l s) {q : Int} (hq : 1 ≤ q) : ∃ (v : Int) (s' : Src), okS l s' ∧ 0 ≤ v ∧ v < q ∧ Den PA f_spec_l01Next [srcR cd s, .d (di q)] [srcR cd s', .any] (.d (di v)) :=
  ⟨_, _, nxt_ok hs q, (nxt_bnd hq).1, (nxt_bnd hq).2, d_nxt H hs q⟩
theorem ex_pik {cd : D} {l : List Int} (H : SrcH cd l) {s : Src} (hs : okS l s) (xs : List Int) (h0 : 0 < xs.length) (h1 : xs.length < 1000) : ∃ (v : Int) (s' : Src), okS l s' ∧ v ∈ xs ∧ Den PA f_spec_l01Pick [srcR cd s, .d (ints xs)] [srcR cd s', .any] (.d (di v)) :=
  ⟨_, _, pik_ok hs xs, pik_mem h0, d_pik H hs xs h0 h1⟩
theorem ex_near {cd : D} {l : List Int} (H : SrcH cd l) {s : Src} (hs : okS l s) {most : Int} (h0 : 0 ≤ most) (h1 : most < 1000000000000) : ∃ (v : Int) (s' : Src), okS l s' ∧ in64 v ∧ Den PA f_spec_l01Near [srcR cd s, .d (di most)] [srcR cd s', .any] (.d (di v)) := by
  obtain ⟨v0, s0, hs0, a1, a2, d0⟩ := ex_nxt H hs (q := 14) (by omega)
  by_cases hv : v0 = 0
  · subst hv
    obtain ⟨v1, s1, hs1, hm, d1⟩ := ex_pik H hs0 [-1, most + 1, 1099511627776, -4611686018427387904] (by simp) (by simp)
    refine ⟨v1, s1, hs1, ?_, den_go [0] l_spec_l01Near ?_⟩
    · simp only [List.mem_cons, List.mem_nil_iff, or_false] at hm
      unfold in64; omega
    · repeat' (first | simp -implicitDefEqProofs (maxSteps := 1000000) (disch := (first | omega | (simp only [go_sem] <;> omega) | fail)) only [go_sem, ints, bools, mat, c_spec_l01Near, srcR] | ((first | refine goIf_b (fun h => ?_) (fun h => ?_) | refine goG_b (fun h => ?_) (fun h => ?_) | refine goTG_b (fun h => ?_) (fun h => ?_) | refine goOG_b (fun h => ?_) (fun h => ?_)) <;> ((try simp only [Bool.not_eq_true', Bool.not_eq_false'] at h); (try simp only [h]); (try simp only [decide_eq_true_eq, decide_eq_false_iff_not, bne_iff_ne, bne_eq_false_iff_eq, beq_iff_eq, beq_eq_false_iff_ne, ne_eq, Int.not_lt, Int.not_le, Bool.and_eq_true, Bool.and_eq_false_iff, Bool.or_eq_true, Bool.or_eq_false_iff] at h)) <;> (try (exfalso; omega))))
      first | refine goC_call [.bm, .r] (d0) ?_ | refine goOC_call [.bm, .r] (d0) ?_
      repeat' (first | simp -implicitDefEqProofs (maxSteps := 1000000) (disch := (first | omega | (simp only [go_sem] <;> omega) | fail)) only [go_sem, ints, bools, mat] | ((first | refine goIf_b (fun h => ?_) (fun h => ?_) | refine goG_b (fun h => ?_) (fun h => ?_) | refine goTG_b (fun h => ?_) (fun h => ?_) | refine goOG_b (fun h => ?_) (fun h => ?_)) <;> ((try simp only [Bool.not_eq_true', Bool.not_eq_false'] at h); (try simp only [h]); (try simp only [decide_eq_true_eq, decide_eq_false_iff_not, bne_iff_ne, bne_eq_false_iff_eq, beq_iff_eq, beq_eq_false_iff_ne, ne_eq, Int.not_lt, Int.not_le, Bool.and_eq_true, Bool.and_eq_false_iff, Bool.or_eq_true, Bool.or_eq_false_iff] at h)) <;> (try (exfalso; omega))))
      first | refine goC_call [.bm, .f] (d1) ?_ | refine goOC_call [.bm, .f] (d1) ?_
      repeat' (first | simp -implicitDefEqProofs (maxSteps := 1000000) (disch := (first | omega | (simp only [go_sem] <;> omega) | fail)) only [go_sem, ints, bools, mat] | ((first | refine goIf_b (fun h => ?_) (fun h => ?_) | refine goG_b (fun h => ?_) (fun h => ?_) | refine goTG_b (fun h => ?_) (fun h => ?_) | refine goOG_b (fun h => ?_) (fun h => ?_)) <;> ((try simp only [Bool.not_eq_true', Bool.not_eq_false'] at h); (try simp only [h]); (try simp only [decide_eq_true_eq, decide_eq_false_iff_not, bne_iff_ne, bne_eq_false_iff_eq, beq_iff_eq, beq_eq_false_iff_ne, ne_eq, Int.not_lt, Int.not_le, Bool.and_eq_true, Bool.and_eq_false_iff, Bool.or_eq_true, Bool.or_eq_false_iff] at h)) <;> (try (exfalso; omega))))
  · obtain ⟨v1, s1, hs1, b1, b2, d1⟩ := ex_nxt H hs0 (q := most + 1) (by omega)
    refine ⟨v1, s1, hs1, ?_, den_go [0] l_spec_l01Near ?_⟩
    · unfold in64; omega
    · repeat' (first | simp -implicitDefEqProofs (maxSteps := 1000000) (disch := (first | omega | (simp only [go_sem] <;> omega) | fail)) only [go_sem, ints, bools, mat, c_spec_l01Near, srcR] | ((first | refine goIf_b (fun h => ?_) (fun h => ?_) | refine goG_b (fun h => ?_) (fun h => ?_) | refine goTG_b (fun h => ?_) (fun h => ?_) | refine goOG_b (fun h => ?_) (fun h => ?_)) <;> ((try simp only [Bool.not_eq_true', Bool.not_eq_false'] at h); (try simp only [h]); (try simp only [decide_eq_true_eq, decide_eq_false_iff_not, bne_iff_ne, bne_eq_false_iff_eq, beq_iff_eq, beq_eq_false_iff_ne, ne_eq, Int.not_lt, Int.not_le, Bool.and_eq_true, Bool.and_eq_false_iff, Bool.or_eq_true, Bool.or_eq_false_iff] at h)) <;> (try (exfalso; omega))))
      first | refine goC_call [.bm, .r] (d0) ?_ | refine goOC_call [.bm, .r] (d0) ?_
      repeat' (first | simp -implicitDefEqProofs (maxSteps := 1000000) (disch := (first | omega | (simp only [go_sem] <;> omega) | fail)) only [go_sem, ints, bools, mat] | ((first | refine goIf_b (fun h => ?_) (fun h => ?_) | refine goG_b (fun h => ?_) (fun h => ?_) | refine goTG_b (fun h => ?_) (fun h => ?_) | refine goOG_b (fun h => ?_) (fun h => ?_)) <;> ((try simp only [Bool.not_eq_true', Bool.not_eq_false'] at h); (try simp only [h]); (try simp only [decide_eq_true_eq, decide_eq_false_iff_not, bne_iff_ne, bne_eq_false_iff_eq, beq_iff_eq, beq_eq_false_iff_ne, ne_eq, Int.not_lt, Int.not_le, Bool.and_eq_true, Bool.and_eq_false_iff, Bool.or_eq_true, Bool.or_eq_false_iff] at h)) <;> (try (exfalso; omega))))
      first | refine goC_call [.bm, .r] (d1) ?_ | refine goOC_call [.bm, .r] (d1) ?_
      repeat' (first | simp -implicitDefEqProofs (maxSteps := 1000000) (disch := (first | omega | (simp only [go_sem] <;> omega) | fail)) only [go_sem, ints, bools, mat] | ((first | refine goIf_b (fun h => ?_) (fun h => ?_) | refine goG_b (fun h => ?_) (fun h => ?_) | refine goTG_b (fun h => ?_) (fun h => ?_) | refine goOG_b (fun h => ?_) (fun h => ?_)) <;> ((try simp only [Bool.not_eq_true', Bool.not_eq_false'] at h); (try simp only [h]); (try simp only [decide_eq_true_eq, decide_eq_false_iff_not, bne_iff_ne, bne_eq_false_iff_eq, beq_iff_eq, beq_eq_false_iff_ne, ne_eq, Int.not_lt, Int.not_le, Bool.and_eq_true, Bool.and_eq_false_iff, Bool.or_eq_true, Bool.or_eq_false_iff] at h)) <;> (try (exfalso; omega))))
def dwN (l : List Int) (most kind : Int) : Nat → List Int → Src → List Int × Src
  | 0, o, s => (o, s)
  | k + 1, o, s => if most < prodM o * (if kind = 0 then pik l s [2, 2, 3, 4] else (kind, s)).1 then (o, (if kind = 0 then pik l s [2, 2, 3, 4] else (kind, s)).2) else dwN l most kind k (o ++ [(if kind = 0 then pik l s [2, 2, 3, 4] else (kind, s)).1]) (if kind = 0 then pik l s [2, 2, 3, 4] else (kind, s)).2
theorem prodM_snoc (o : List Int) (q : Int) : prodM (o ++ [q]) = prodM o * q := by simp [prodM, List.foldl_append]
/-- A list of sizes, perhaps empty. -/
def szO (o : List Int) : Prop := (∀ i, i < o.length → 2 ≤ o.getD i 0 ∧ o.getD i 0 ≤ 4) ∧ 1 ≤ prodM o ∧ prodM o ≤ 256
theorem szO_snoc {o : List Int} {q : Int} (h : szO o) (hq : 2 ≤ q ∧ q ≤ 4) (hp : prodM o * q ≤ 256) : szO (o ++ [q]) := by
  refine ⟨fun i hi => ?_, ?_, ?_⟩
  · rcases Nat.lt_or_ge i o.length with h1 | h1
    · have := h.1 i h1
      have e : (o ++ [q]).getD i 0 = o.getD i 0 := by simp [List.getD_eq_getElem?_getD, List.getElem?_append_left h1]
      rw [e]; exact this
    · have e1 : i = o.length := by simp at hi; omega
      subst e1
      have e : (o ++ [q]).getD o.length 0 = q := by simp
      rw [e]; exact hq
  · rw [prodM_snoc]
    have h5 : (1 : Int) * 1 ≤ prodM o * q := Int.mul_le_mul h.2.1 (by omega) (by omega) (by have := h.2.1; omega)
    omega
  · rw [prodM_snoc]; exact hp
theorem szO_space {o : List Int} (h : szO o) (h0 : 0 < o.length) (h8 : o.length ≤ 8) : isSpaceM o = true := (isSpaceM_ok o).2 ⟨⟨by omega, h8⟩, h.1, by have := h.2.2; omega⟩
theorem ex_drawOf {cd : D} {l : List Int} (H : SrcH cd l) {s : Src} (hs : okS l s) {most : Int} (h0 : 8 ≤ most) (h1 : most ≤ 256) : ∃ (o : List Int) (s' : Src), okS l s' ∧ isSpaceM o = true ∧ Den PA f_spec_l01DrawOf [srcR cd s, .d (di most)] [srcR cd s', .any] (.agg [.own 1 (o.map di)]) := by
  obtain ⟨kind, s1, hs1, hk, d1⟩ := ex_pik H hs [0, 2, 2, 3, 3] (by simp) (by simp)
  obtain ⟨n, s2, hs2, n1, n2, d2⟩ := ex_nxt H hs1 (q := 8) (by omega)
  have hkind : 0 ≤ kind ∧ kind ≤ 3 ∧ kind ≠ 1 := by
    simp only [List.mem_cons, List.mem_nil_iff, or_false] at hk; omega
  have key : ∀ (k : Nat) (o : List Int) (s : Src), szO o → okS l s → o.length + k ≤ 8 → szO (dwN l most kind k o s).1 ∧ okS l (dwN l most kind k o s).2 ∧ (dwN l most kind k o s).1.length ≤ 8 := by
    intro k
    induction k with
    | zero => intro o s a b c; exact ⟨a, b, by simp only [dwN]; omega⟩
    | succ k ih =>
      intro o s a b c
      have hr : 2 ≤ (if kind = 0 then pik l s [2, 2, 3, 4] else (kind, s)).1 ∧ (if kind = 0 then pik l s [2, 2, 3, 4] else (kind, s)).1 ≤ 4 ∧ okS l (if kind = 0 then pik l s [2, 2, 3, 4] else (kind, s)).2 := by
        by_cases e : kind = 0
        · rw [if_pos e]
          have hm := pik_mem (l := l) (s := s) (xs := [2, 2, 3, 4]) (by simp)
          simp only [List.mem_cons, List.mem_nil_iff, or_false] at hm
          exact ⟨by omega, by omega, pik_ok b _⟩
        · rw [if_neg e]; exact ⟨by dsimp only; omega, by dsimp only; omega, b⟩
      rw [dwN]
      generalize (if kind = 0 then pik l s [2, 2, 3, 4] else (kind, s)) = r at *
      by_cases hm : most < prodM o * r.1
      · rw [if_pos hm]
        exact ⟨a, hr.2.2, by dsimp only; omega⟩
      · rw [if_neg hm]
        exact ih _ _ (szO_snoc a ⟨hr.1, hr.2.1⟩ (by omega)) hr.2.2 (by simp; omega)
  have hz0 : szO [] := ⟨fun i hi => by simp at hi, by decide, by decide⟩
  have hfin := key (1 + n).toNat [] s2 hz0 hs2 (by simp; omega)
  obtain ⟨X, hX⟩ : ∃ X, X = dwN l most kind (1 + n).toNat [] s2 := ⟨_, rfl⟩
  rw [← hX] at hfin
  refine ⟨if X.1.length = 0 then [2] else X.1, X.2, hfin.2.1, ?_, den_go [0] l_spec_l01DrawOf ?_⟩
  · split
    · decide
    · exact szO_space hfin.1 (by omega) hfin.2.2
  · repeat' (first | simp -implicitDefEqProofs (maxSteps := 1000000) (disch := (first | omega | (simp only [go_sem] <;> omega) | fail)) only [go_sem, ints, bools, mat, c_spec_l01DrawOf, srcR] | ((first | refine goIf_b (fun h => ?_) (fun h => ?_) | refine goG_b (fun h => ?_) (fun h => ?_) | refine goTG_b (fun h => ?_) (fun h => ?_) | refine goOG_b (fun h => ?_) (fun h => ?_)) <;> ((try simp only [Bool.not_eq_true', Bool.not_eq_false'] at h); (try simp only [h]); (try simp only [decide_eq_true_eq, decide_eq_false_iff_not, bne_iff_ne, bne_eq_false_iff_eq, beq_iff_eq, beq_eq_false_iff_ne, ne_eq, Int.not_lt, Int.not_le, Bool.and_eq_true, Bool.and_eq_false_iff, Bool.or_eq_true, Bool.or_eq_false_iff] at h)) <;> (try (exfalso; omega))))
    first | refine goC_call [.bm, .f] (d1) ?_ | refine goOC_call [.bm, .f] (d1) ?_
    repeat' (first | simp -implicitDefEqProofs (maxSteps := 1000000) (disch := (first | omega | (simp only [go_sem] <;> omega) | fail)) only [go_sem, ints, bools, mat] | ((first | refine goIf_b (fun h => ?_) (fun h => ?_) | refine goG_b (fun h => ?_) (fun h => ?_) | refine goTG_b (fun h => ?_) (fun h => ?_) | refine goOG_b (fun h => ?_) (fun h => ?_)) <;> ((try simp only [Bool.not_eq_true', Bool.not_eq_false'] at h); (try simp only [h]); (try simp only [decide_eq_true_eq, decide_eq_false_iff_not, bne_iff_ne, bne_eq_false_iff_eq, beq_iff_eq, beq_eq_false_iff_ne, ne_eq, Int.not_lt, Int.not_le, Bool.and_eq_true, Bool.and_eq_false_iff, Bool.or_eq_true, Bool.or_eq_false_iff] at h)) <;> (try (exfalso; omega))))
    first | refine goC_call [.bm, .r] (d2) ?_ | refine goOC_call [.bm, .r] (d2) ?_
    repeat' (first | simp -implicitDefEqProofs (maxSteps := 1000000) (disch := (first | omega | (simp only [go_sem] <;> omega) | fail)) only [go_sem, ints, bools, mat] | ((first | refine goIf_b (fun h => ?_) (fun h => ?_) | refine goG_b (fun h => ?_) (fun h => ?_) | refine goTG_b (fun h => ?_) (fun h => ?_) | refine goOG_b (fun h => ?_) (fun h => ?_)) <;> ((try simp only [Bool.not_eq_true', Bool.not_eq_false'] at h); (try simp only [h]); (try simp only [decide_eq_true_eq, decide_eq_false_iff_not, bne_iff_ne, bne_eq_false_iff_eq, beq_iff_eq, beq_eq_false_iff_ne, ne_eq, Int.not_lt, Int.not_le, Bool.and_eq_true, Bool.and_eq_false_iff, Bool.or_eq_true, Bool.or_eq_false_iff] at h)) <;> (try (exfalso; omega))))
    refine go_loop (fun (p : Nat × List Int × Src) => ⟨[(0, .ref 0 0), (1, .d (di most)), (4, .ref 1 0), (5, .ref 2 0), (6, .d (di kind)), (7, .d (di p.1)), (49, .ref 0 0)], [some (.var [cd, di p.2.2.1, du p.2.2.2]), some (.var [D.v (.slice none 0 0)]), some (.mix [.sl 3 0 p.2.1.length 1]), some (.dat 1 (p.2.1.map di))]⟩) (fun p => dwN l most kind p.1 p.2.1 p.2.2 = X ∧ szO p.2.1 ∧ okS l p.2.2 ∧ p.2.1.length + p.1 ≤ 8) (fun p => p.1) ((1 + n).toNat, [], s2) ?_ ?_ ?_
    · simp -implicitDefEqProofs (maxSteps := 1000000) (disch := (first | omega | (simp only [go_sem] <;> omega) | fail)) only [go_sem, ints, bools, mat]
      have e : ((1 + n).toNat : Int) = 1 + n := by omega
      rw [e]
    · exact ⟨hX.symm, hz0, hs2, by dsimp only; simp only [List.length_nil]; omega⟩
    · rintro ⟨k, o, s⟩ ⟨g1, g2, g3, g4⟩ J hJ
      dsimp only at g1 g2 g3 g4 ⊢
      have hn := d_spec_l01N o (by omega) g2.1
      have hp := g2.2
      rcases k with _ | k
      · have e : X = (o, s) := by rw [← g1]; rfl
        rw [e]
        by_cases ho : o.length = 0
        · have e2 : o = [] := List.eq_nil_of_length_eq_zero ho
          subst e2
          repeat' (first | simp -implicitDefEqProofs (maxSteps := 1000000) (disch := (first | omega | (simp only [go_sem] <;> omega) | fail)) only [go_sem, ints, bools, mat] | ((first | refine goIf_b (fun h => ?_) (fun h => ?_) | refine goG_b (fun h => ?_) (fun h => ?_) | refine goTG_b (fun h => ?_) (fun h => ?_) | refine goOG_b (fun h => ?_) (fun h => ?_)) <;> ((try simp only [Bool.not_eq_true', Bool.not_eq_false'] at h); (try simp only [h]); (try simp only [decide_eq_true_eq, decide_eq_false_iff_not, bne_iff_ne, bne_eq_false_iff_eq, beq_iff_eq, beq_eq_false_iff_ne, ne_eq, Int.not_lt, Int.not_le, Bool.and_eq_true, Bool.and_eq_false_iff, Bool.or_eq_true, Bool.or_eq_false_iff] at h)) <;> (try (exfalso; omega))))
        · rw [if_neg ho]
          repeat' (first | simp -implicitDefEqProofs (maxSteps := 1000000) (disch := (first | omega | (simp only [go_sem] <;> omega) | fail)) only [go_sem, ints, bools, mat] | ((first | refine goIf_b (fun h => ?_) (fun h => ?_) | refine goG_b (fun h => ?_) (fun h => ?_) | refine goTG_b (fun h => ?_) (fun h => ?_) | refine goOG_b (fun h => ?_) (fun h => ?_)) <;> ((try simp only [Bool.not_eq_true', Bool.not_eq_false'] at h); (try simp only [h]); (try simp only [decide_eq_true_eq, decide_eq_false_iff_not, bne_iff_ne, bne_eq_false_iff_eq, beq_iff_eq, beq_eq_false_iff_ne, ne_eq, Int.not_lt, Int.not_le, Bool.and_eq_true, Bool.and_eq_false_iff, Bool.or_eq_true, Bool.or_eq_false_iff] at h)) <;> (try (exfalso; omega))))
      · rw [dwN] at g1
        by_cases hk0 : kind = 0
        · obtain ⟨q, s3, hs3, hq, d3⟩ : ∃ (q : Int) (s3 : Src), okS l s3 ∧ (q = (pik l s [2, 2, 3, 4]).1 ∧ s3 = (pik l s [2, 2, 3, 4]).2) ∧ Den PA f_spec_l01Pick [srcR cd s, .d (ints [2, 2, 3, 4])] [srcR cd s3, .any] (.d (di q)) := ⟨_, _, pik_ok g3 _, ⟨rfl, rfl⟩, d_pik H g3 [2, 2, 3, 4] (by simp) (by simp)⟩
          have hm := pik_mem (l := l) (s := s) (xs := [2, 2, 3, 4]) (by simp)
          simp only [List.mem_cons, List.mem_nil_iff, or_false] at hm
          rw [← hq.1] at hm
          simp only [if_pos hk0] at g1
          rw [← hq.1, ← hq.2] at g1
          repeat' (first | simp -implicitDefEqProofs (maxSteps := 1000000) (disch := (first | omega | (simp only [go_sem] <;> omega) | fail)) only [go_sem, ints, bools, mat] | ((first | refine goIf_b (fun h => ?_) (fun h => ?_) | refine goG_b (fun h => ?_) (fun h => ?_) | refine goTG_b (fun h => ?_) (fun h => ?_) | refine goOG_b (fun h => ?_) (fun h => ?_)) <;> ((try simp only [Bool.not_eq_true', Bool.not_eq_false'] at h); (try simp only [h]); (try simp only [decide_eq_true_eq, decide_eq_false_iff_not, bne_iff_ne, bne_eq_false_iff_eq, beq_iff_eq, beq_eq_false_iff_ne, ne_eq, Int.not_lt, Int.not_le, Bool.and_eq_true, Bool.and_eq_false_iff, Bool.or_eq_true, Bool.or_eq_false_iff] at h)) <;> (try (exfalso; omega))))
          first | refine goC_call [.bm, .f] (d3) ?_ | refine goOC_call [.bm, .f] (d3) ?_
          repeat' (first | simp -implicitDefEqProofs (maxSteps := 1000000) (disch := (first | omega | (simp only [go_sem] <;> omega) | fail)) only [go_sem, ints, bools, mat] | ((first | refine goIf_b (fun h => ?_) (fun h => ?_) | refine goG_b (fun h => ?_) (fun h => ?_) | refine goTG_b (fun h => ?_) (fun h => ?_) | refine goOG_b (fun h => ?_) (fun h => ?_)) <;> ((try simp only [Bool.not_eq_true', Bool.not_eq_false'] at h); (try simp only [h]); (try simp only [decide_eq_true_eq, decide_eq_false_iff_not, bne_iff_ne, bne_eq_false_iff_eq, beq_iff_eq, beq_eq_false_iff_ne, ne_eq, Int.not_lt, Int.not_le, Bool.and_eq_true, Bool.and_eq_false_iff, Bool.or_eq_true, Bool.or_eq_false_iff] at h)) <;> (try (exfalso; omega))))
          first | refine goC_call [.r] (hn) ?_ | refine goOC_call [.r] (hn) ?_
          have hpq : 0 ≤ prodM o * q ∧ prodM o * q ≤ 256 * 4 := ⟨Int.mul_nonneg (by omega) (by omega), Int.mul_le_mul (by omega) (by omega) (by omega) (by omega)⟩
          repeat' (first | simp -implicitDefEqProofs (maxSteps := 1000000) (disch := (first | omega | (simp only [go_sem] <;> omega) | fail)) only [go_sem, ints, bools, mat] | ((first | refine goIf_b (fun h => ?_) (fun h => ?_) | refine goG_b (fun h => ?_) (fun h => ?_) | refine goTG_b (fun h => ?_) (fun h => ?_) | refine goOG_b (fun h => ?_) (fun h => ?_)) <;> ((try simp only [Bool.not_eq_true', Bool.not_eq_false'] at h); (try simp only [h]); (try simp only [decide_eq_true_eq, decide_eq_false_iff_not, bne_iff_ne, bne_eq_false_iff_eq, beq_iff_eq, beq_eq_false_iff_ne, ne_eq, Int.not_lt, Int.not_le, Bool.and_eq_true, Bool.and_eq_false_iff, Bool.or_eq_true, Bool.or_eq_false_iff] at h)) <;> (try (exfalso; omega))))
          · rw [if_pos (by assumption)] at g1
            rw [← g1]
            have e2 : o = [] := List.eq_nil_of_length_eq_zero (by omega)
            subst e2
            exact ⟨rfl, rfl⟩
          · rw [if_pos (by assumption)] at g1
            rw [← g1]
            dsimp only
            rw [if_neg (show ¬ o.length = 0 by omega)]
            exact ⟨rfl, rfl⟩
          · rw [if_neg (by omega)] at g1
            refine hJ (k, o ++ [q], s3) ⟨g1, szO_snoc g2 (by omega) (by omega), hs3, by dsimp only; simp; omega⟩ (by dsimp only; omega) _ ?_
            simp -implicitDefEqProofs (maxSteps := 1000000) (disch := (first | omega | (simp only [go_sem] <;> omega) | fail)) only [go_sem, ints, bools, mat]
        · simp only [if_neg hk0] at g1
          have hpq : 0 ≤ prodM o * kind ∧ prodM o * kind ≤ 256 * 4 := ⟨Int.mul_nonneg (by omega) (by omega), Int.mul_le_mul (by omega) (by omega) (by omega) (by omega)⟩
          repeat' (first | simp -implicitDefEqProofs (maxSteps := 1000000) (disch := (first | omega | (simp only [go_sem] <;> omega) | fail)) only [go_sem, ints, bools, mat] | ((first | refine goIf_b (fun h => ?_) (fun h => ?_) | refine goG_b (fun h => ?_) (fun h => ?_) | refine goTG_b (fun h => ?_) (fun h => ?_) | refine goOG_b (fun h => ?_) (fun h => ?_)) <;> ((try simp only [Bool.not_eq_true', Bool.not_eq_false'] at h); (try simp only [h]); (try simp only [decide_eq_true_eq, decide_eq_false_iff_not, bne_iff_ne, bne_eq_false_iff_eq, beq_iff_eq, beq_eq_false_iff_ne, ne_eq, Int.not_lt, Int.not_le, Bool.and_eq_true, Bool.and_eq_false_iff, Bool.or_eq_true, Bool.or_eq_false_iff] at h)) <;> (try (exfalso; omega))))
          first | refine goC_call [.r] (hn) ?_ | refine goOC_call [.r] (hn) ?_
          repeat' (first | simp -implicitDefEqProofs (maxSteps := 1000000) (disch := (first | omega | (simp only [go_sem] <;> omega) | fail)) only [go_sem, ints, bools, mat] | ((first | refine goIf_b (fun h => ?_) (fun h => ?_) | refine goG_b (fun h => ?_) (fun h => ?_) | refine goTG_b (fun h => ?_) (fun h => ?_) | refine goOG_b (fun h => ?_) (fun h => ?_)) <;> ((try simp only [Bool.not_eq_true', Bool.not_eq_false'] at h); (try simp only [h]); (try simp only [decide_eq_true_eq, decide_eq_false_iff_not, bne_iff_ne, bne_eq_false_iff_eq, beq_iff_eq, beq_eq_false_iff_ne, ne_eq, Int.not_lt, Int.not_le, Bool.and_eq_true, Bool.and_eq_false_iff, Bool.or_eq_true, Bool.or_eq_false_iff] at h)) <;> (try (exfalso; omega))))
          · rw [if_pos (by assumption)] at g1
            rw [← g1]
            have e2 : o = [] := List.eq_nil_of_length_eq_zero (by omega)
            subst e2
            exact ⟨rfl, rfl⟩
          · rw [if_pos (by assumption)] at g1
            rw [← g1]
            dsimp only
            rw [if_neg (show ¬ o.length = 0 by omega)]
            exact ⟨rfl, rfl⟩
          · rw [if_neg (by omega)] at g1
            refine hJ (k, o ++ [kind], s) ⟨g1, szO_snoc g2 (by omega) (by omega), g3, by dsimp only; simp; omega⟩ (by dsimp only; omega) _ ?_
            simp -implicitDefEqProofs (maxSteps := 1000000) (disch := (first | omega | (simp only [go_sem] <;> omega) | fail)) only [go_sem, ints, bools, mat]
theorem ex_draw {cd : D} {l : List Int} (H : SrcH cd l) {s : Src} (hs : okS l s) : ∃ (o : List Int) (s' : Src), okS l s' ∧ isSpaceM o = true ∧ Den PA f_spec_l01Draw [srcR cd s] [srcR cd s'] (.agg [.own 1 (o.map di)]) := by
  obtain ⟨m, s1, hs1, hm, d1⟩ := ex_pik H hs [16, 81, 256, 256] (by simp) (by simp)
  simp only [List.mem_cons, List.mem_nil_iff, or_false] at hm
  obtain ⟨o, s2, hs2, ho, d2⟩ := ex_drawOf H hs1 (most := m) (by omega) (by omega)
  refine ⟨o, s2, hs2, ho, den_go [0] l_spec_l01Draw ?_⟩
  repeat' (first | simp -implicitDefEqProofs (maxSteps := 1000000) (disch := (first | omega | (simp only [go_sem] <;> omega) | fail)) only [go_sem, ints, bools, mat, c_spec_l01Draw, srcR] | ((first | refine goIf_b (fun h => ?_) (fun h => ?_) | refine goG_b (fun h => ?_) (fun h => ?_) | refine goTG_b (fun h => ?_) (fun h => ?_) | refine goOG_b (fun h => ?_) (fun h => ?_)) <;> ((try simp only [Bool.not_eq_true', Bool.not_eq_false'] at h); (try simp only [h]); (try simp only [decide_eq_true_eq, decide_eq_false_iff_not, bne_iff_ne, bne_eq_false_iff_eq, beq_iff_eq, beq_eq_false_iff_ne, ne_eq, Int.not_lt, Int.not_le, Bool.and_eq_true, Bool.and_eq_false_iff, Bool.or_eq_true, Bool.or_eq_false_iff] at h)) <;> (try (exfalso; omega))))
  first | refine goC_call [.bm, .f] (d1) ?_ | refine goOC_call [.bm, .f] (d1) ?_
  repeat' (first | simp -implicitDefEqProofs (maxSteps := 1000000) (disch := (first | omega | (simp only [go_sem] <;> omega) | fail)) only [go_sem, ints, bools, mat] | ((first | refine goIf_b (fun h => ?_) (fun h => ?_) | refine goG_b (fun h => ?_) (fun h => ?_) | refine goTG_b (fun h => ?_) (fun h => ?_) | refine goOG_b (fun h => ?_) (fun h => ?_)) <;> ((try simp only [Bool.not_eq_true', Bool.not_eq_false'] at h); (try simp only [h]); (try simp only [decide_eq_true_eq, decide_eq_false_iff_not, bne_iff_ne, bne_eq_false_iff_eq, beq_iff_eq, beq_eq_false_iff_ne, ne_eq, Int.not_lt, Int.not_le, Bool.and_eq_true, Bool.and_eq_false_iff, Bool.or_eq_true, Bool.or_eq_false_iff] at h)) <;> (try (exfalso; omega))))
  first | refine goC_call [.bm, .r] (d2) ?_ | refine goOC_call [.bm, .r] (d2) ?_
  repeat' (first | simp -implicitDefEqProofs (maxSteps := 1000000) (disch := (first | omega | (simp only [go_sem] <;> omega) | fail)) only [go_sem, ints, bools, mat] | ((first | refine goIf_b (fun h => ?_) (fun h => ?_) | refine goG_b (fun h => ?_) (fun h => ?_) | refine goTG_b (fun h => ?_) (fun h => ?_) | refine goOG_b (fun h => ?_) (fun h => ?_)) <;> ((try simp only [Bool.not_eq_true', Bool.not_eq_false'] at h); (try simp only [h]); (try simp only [decide_eq_true_eq, decide_eq_false_iff_not, bne_iff_ne, bne_eq_false_iff_eq, beq_iff_eq, beq_eq_false_iff_ne, ne_eq, Int.not_lt, Int.not_le, Bool.and_eq_true, Bool.and_eq_false_iff, Bool.or_eq_true, Bool.or_eq_false_iff] at h)) <;> (try (exfalso; omega))))
theorem ex_wsome {cd : D} {l : List Int} (H : SrcH cd l) {s : Src} (hs : okS l s) {x : List Int} (hx : isSpaceM x = true) : ∃ (o : List Int) (s' : Src), okS l s' ∧ o.length ≤ 4 ∧ inC x o ∧ Den PA f_spec_l05Some [srcR cd s, .d (.agg [ints x])] [srcR cd s', .any] (.own 1 (o.map di)) := by
  have hp := isSpaceM_prod hx
  have hp1 := prodM_pos (isSpaceM_szs hx)
  have hn := isSpaceM_n hx
  obtain ⟨n, s1, hs1, n1, n2, d1⟩ := ex_nxt H hs (q := 5) (by omega)
  obtain ⟨X, hX⟩ : ∃ X : Nat → List Int × Src, X = fun k => Nat.rec (motive := fun _ => List Int × Src) ([], s1) (fun _ p => (p.1 ++ [(nxt l p.2 (prodM x)).1], (nxt l p.2 (prodM x)).2)) k := ⟨_, rfl⟩
  have X0 : X 0 = ([], s1) := by rw [hX]; rfl
  have XS : ∀ k, X (k + 1) = ((X k).1 ++ [(nxt l (X k).2 (prodM x)).1], (nxt l (X k).2 (prodM x)).2) := fun k => by rw [hX]
  have key : ∀ k, (X k).1.length = k ∧ inC x (X k).1 ∧ okS l (X k).2 := by
    intro k
    induction k with
    | zero => rw [X0]; exact ⟨rfl, fun u hu => by simp at hu, hs1⟩
    | succ k ih =>
      rw [XS]
      refine ⟨by simp [ih.1], fun u hu => ?_, nxt_ok ih.2.2 _⟩
      rcases List.mem_append.1 hu with h | h
      · exact ih.2.1 u h
      · simp at h; subst h; exact nxt_bnd (by omega)
  have hk := key n.toNat
  refine ⟨(X n.toNat).1, (X n.toNat).2, hk.2.2, by omega, hk.2.1, den_go [0] l_spec_l05Some ?_⟩
  repeat' (first | simp -implicitDefEqProofs (maxSteps := 1000000) (disch := (first | omega | (simp only [go_sem] <;> omega) | fail)) only [go_sem, ints, bools, mat, c_spec_l05Some, srcR] | ((first | refine goIf_b (fun h => ?_) (fun h => ?_) | refine goG_b (fun h => ?_) (fun h => ?_) | refine goTG_b (fun h => ?_) (fun h => ?_) | refine goOG_b (fun h => ?_) (fun h => ?_)) <;> ((try simp only [Bool.not_eq_true', Bool.not_eq_false'] at h); (try simp only [h]); (try simp only [decide_eq_true_eq, decide_eq_false_iff_not, bne_iff_ne, bne_eq_false_iff_eq, beq_iff_eq, beq_eq_false_iff_ne, ne_eq, Int.not_lt, Int.not_le, Bool.and_eq_true, Bool.and_eq_false_iff, Bool.or_eq_true, Bool.or_eq_false_iff] at h)) <;> (try (exfalso; omega))))
  first | refine goC_call [.bm, .r] (d1) ?_ | refine goOC_call [.bm, .r] (d1) ?_
  repeat' (first | simp -implicitDefEqProofs (maxSteps := 1000000) (disch := (first | omega | (simp only [go_sem] <;> omega) | fail)) only [go_sem, ints, bools, mat] | ((first | refine goIf_b (fun h => ?_) (fun h => ?_) | refine goG_b (fun h => ?_) (fun h => ?_) | refine goTG_b (fun h => ?_) (fun h => ?_) | refine goOG_b (fun h => ?_) (fun h => ?_)) <;> ((try simp only [Bool.not_eq_true', Bool.not_eq_false'] at h); (try simp only [h]); (try simp only [decide_eq_true_eq, decide_eq_false_iff_not, bne_iff_ne, bne_eq_false_iff_eq, beq_iff_eq, beq_eq_false_iff_ne, ne_eq, Int.not_lt, Int.not_le, Bool.and_eq_true, Bool.and_eq_false_iff, Bool.or_eq_true, Bool.or_eq_false_iff] at h)) <;> (try (exfalso; omega))))
  refine go_loop (fun (k : Nat) => ⟨[(0, .ref 0 0), (3, .ref 1 0), (5, .sl 2 0 k 1), (6, .d (di (n - k))), (22, .ref 0 0)], [some (.var [cd, di (X k).2.1, du (X k).2.2]), some (.var [ints x]), some (.dat 1 ((X k).1.map di))]⟩) (fun k => k ≤ n.toNat) (fun k => n.toNat - k) 0 ?_ ?_ ?_
  · simp -implicitDefEqProofs (maxSteps := 1000000) (disch := (first | omega | (simp only [go_sem] <;> omega) | fail)) only [go_sem, ints, bools, mat]
    rw [X0]
    simp
  · exact Nat.zero_le _
  · rintro k hkn J hJ
    have hkk := key k
    by_cases hlt : k < n.toNat
    · have dn := d_nxt H hkk.2.2 (prodM x)
      repeat' (first | simp -implicitDefEqProofs (maxSteps := 1000000) (disch := (first | omega | (simp only [go_sem] <;> omega) | fail)) only [go_sem, ints, bools, mat] | ((first | refine goIf_b (fun h => ?_) (fun h => ?_) | refine goG_b (fun h => ?_) (fun h => ?_) | refine goTG_b (fun h => ?_) (fun h => ?_) | refine goOG_b (fun h => ?_) (fun h => ?_)) <;> ((try simp only [Bool.not_eq_true', Bool.not_eq_false'] at h); (try simp only [h]); (try simp only [decide_eq_true_eq, decide_eq_false_iff_not, bne_iff_ne, bne_eq_false_iff_eq, beq_iff_eq, beq_eq_false_iff_ne, ne_eq, Int.not_lt, Int.not_le, Bool.and_eq_true, Bool.and_eq_false_iff, Bool.or_eq_true, Bool.or_eq_false_iff] at h)) <;> (try (exfalso; omega))))
      first | refine goC_call [.r] (d_spec_l01N x (by omega) (isSpaceM_q hx)) ?_ | refine goOC_call [.r] (d_spec_l01N x (by omega) (isSpaceM_q hx)) ?_
      repeat' (first | simp -implicitDefEqProofs (maxSteps := 1000000) (disch := (first | omega | (simp only [go_sem] <;> omega) | fail)) only [go_sem, ints, bools, mat] | ((first | refine goIf_b (fun h => ?_) (fun h => ?_) | refine goG_b (fun h => ?_) (fun h => ?_) | refine goTG_b (fun h => ?_) (fun h => ?_) | refine goOG_b (fun h => ?_) (fun h => ?_)) <;> ((try simp only [Bool.not_eq_true', Bool.not_eq_false'] at h); (try simp only [h]); (try simp only [decide_eq_true_eq, decide_eq_false_iff_not, bne_iff_ne, bne_eq_false_iff_eq, beq_iff_eq, beq_eq_false_iff_ne, ne_eq, Int.not_lt, Int.not_le, Bool.and_eq_true, Bool.and_eq_false_iff, Bool.or_eq_true, Bool.or_eq_false_iff] at h)) <;> (try (exfalso; omega))))
      first | refine goC_call [.bm, .r] (dn) ?_ | refine goOC_call [.bm, .r] (dn) ?_
      repeat' (first | simp -implicitDefEqProofs (maxSteps := 1000000) (disch := (first | omega | (simp only [go_sem] <;> omega) | fail)) only [go_sem, ints, bools, mat] | ((first | refine goIf_b (fun h => ?_) (fun h => ?_) | refine goG_b (fun h => ?_) (fun h => ?_) | refine goTG_b (fun h => ?_) (fun h => ?_) | refine goOG_b (fun h => ?_) (fun h => ?_)) <;> ((try simp only [Bool.not_eq_true', Bool.not_eq_false'] at h); (try simp only [h]); (try simp only [decide_eq_true_eq, decide_eq_false_iff_not, bne_iff_ne, bne_eq_false_iff_eq, beq_iff_eq, beq_eq_false_iff_ne, ne_eq, Int.not_lt, Int.not_le, Bool.and_eq_true, Bool.and_eq_false_iff, Bool.or_eq_true, Bool.or_eq_false_iff] at h)) <;> (try (exfalso; omega))))
      refine hJ (k + 1) (by omega) (by omega) _ ?_
      rw [XS]
      simp -implicitDefEqProofs (maxSteps := 1000000) (disch := (first | omega | (simp only [go_sem] <;> omega) | fail)) only [go_sem, ints, bools, mat]
      have e : n - (k : Int) - 1 = n - ((k + 1 : Nat) : Int) := by omega
      rw [e]
    · have e : k = n.toNat := by omega
      subst e
      repeat' (first | simp -implicitDefEqProofs (maxSteps := 1000000) (disch := (first | omega | (simp only [go_sem] <;> omega) | fail)) only [go_sem, ints, bools, mat] | ((first | refine goIf_b (fun h => ?_) (fun h => ?_) | refine goG_b (fun h => ?_) (fun h => ?_) | refine goTG_b (fun h => ?_) (fun h => ?_) | refine goOG_b (fun h => ?_) (fun h => ?_)) <;> ((try simp only [Bool.not_eq_true', Bool.not_eq_false'] at h); (try simp only [h]); (try simp only [decide_eq_true_eq, decide_eq_false_iff_not, bne_iff_ne, bne_eq_false_iff_eq, beq_iff_eq, beq_eq_false_iff_ne, ne_eq, Int.not_lt, Int.not_le, Bool.and_eq_true, Bool.and_eq_false_iff, Bool.or_eq_true, Bool.or_eq_false_iff] at h)) <;> (try (exfalso; omega))))
def hsh (l : List Int) : Nat → Int
  | 0 => 14111 + (l.length : Int)
  | i + 1 => IntKind.wrap .u64 (IntKind.wrap .u64 (IntKind.wrap .u64 (hsh l i * 1099511628211) + l.getD i 0) + 251)
theorem hsh_bnd {l : List Int} (h : l.length < 1048577) : ∀ i, 0 ≤ hsh l i ∧ hsh l i < 18446744073709551616
  | 0 => by simp only [hsh]; omega
  | _ + 1 => wrapU_bnd _
theorem ex_from {cd : D} {l : List Int} (H : SrcH cd l) : ∃ s' : Src, okS l s' ∧ Den PA f_spec_l01From [.d cd] [.any] (srcR cd s') := by
  have hl := H.hl
  refine ⟨(0, hsh l (min l.length 4096)), ⟨Nat.zero_le _, hsh_bnd hl _⟩, den_go [] l_spec_l01From ?_⟩
  rcases H.hb with ⟨rfl, hby⟩ | ⟨rfl, rfl⟩
  · repeat' (first | simp -implicitDefEqProofs (maxSteps := 1000000) (disch := (first | omega | (simp only [go_sem] <;> omega) | fail)) only [go_sem, ints, bools, mat, c_spec_l01From, srcR] | ((first | refine goIf_b (fun h => ?_) (fun h => ?_) | refine goG_b (fun h => ?_) (fun h => ?_) | refine goTG_b (fun h => ?_) (fun h => ?_) | refine goOG_b (fun h => ?_) (fun h => ?_)) <;> ((try simp only [Bool.not_eq_true', Bool.not_eq_false'] at h); (try simp only [h]); (try simp only [decide_eq_true_eq, decide_eq_false_iff_not, bne_iff_ne, bne_eq_false_iff_eq, beq_iff_eq, beq_eq_false_iff_ne, ne_eq, Int.not_lt, Int.not_le, Bool.and_eq_true, Bool.and_eq_false_iff, Bool.or_eq_true, Bool.or_eq_false_iff] at h)) <;> (try (exfalso; omega))))
    refine go_loop (fun (i : Nat) => ⟨[(0, .d (.lst 1 (l.map dy))), (3, .ref 0 0), (4, .d (di i))], [some (.var [.lst 1 (l.map dy), di 0, du (hsh l i)])]⟩) (fun i => i ≤ min l.length 4096) (fun i => min l.length 4096 - i) 0 ?_ ?_ ?_
    · (simp -implicitDefEqProofs (maxSteps := 1000000) (disch := (first | omega | (simp only [go_sem] <;> omega) | fail)) only [go_sem, ints, bools, mat] <;> rfl)
    · exact Nat.zero_le _
    · rintro i hi J hJ
      have hb := hsh_bnd hl i
      by_cases hil : i < min l.length 4096
      · have hbi := hby _ (mem_getD (show i < l.length by omega))
        repeat' (first | simp -implicitDefEqProofs (maxSteps := 1000000) (disch := (first | omega | (simp only [go_sem] <;> omega) | fail)) only [go_sem, ints, bools, mat] | ((first | refine goIf_b (fun h => ?_) (fun h => ?_) | refine goG_b (fun h => ?_) (fun h => ?_) | refine goTG_b (fun h => ?_) (fun h => ?_) | refine goOG_b (fun h => ?_) (fun h => ?_)) <;> ((try simp only [Bool.not_eq_true', Bool.not_eq_false'] at h); (try simp only [h]); (try simp only [decide_eq_true_eq, decide_eq_false_iff_not, bne_iff_ne, bne_eq_false_iff_eq, beq_iff_eq, beq_eq_false_iff_ne, ne_eq, Int.not_lt, Int.not_le, Bool.and_eq_true, Bool.and_eq_false_iff, Bool.or_eq_true, Bool.or_eq_false_iff] at h)) <;> (try (exfalso; omega))))
        refine hJ (i + 1) (by omega) (by omega) _ (by (simp -implicitDefEqProofs (maxSteps := 1000000) (disch := (first | omega | (simp only [go_sem] <;> omega) | fail)) only [go_sem, ints, bools, mat] <;> rfl))
      · have e : i = min l.length 4096 := by omega
        by_cases h4 : l.length ≤ 4096
        · repeat' (first | simp -implicitDefEqProofs (maxSteps := 1000000) (disch := (first | omega | (simp only [go_sem] <;> omega) | fail)) only [go_sem, ints, bools, mat] | ((first | refine goIf_b (fun h => ?_) (fun h => ?_) | refine goG_b (fun h => ?_) (fun h => ?_) | refine goTG_b (fun h => ?_) (fun h => ?_) | refine goOG_b (fun h => ?_) (fun h => ?_)) <;> ((try simp only [Bool.not_eq_true', Bool.not_eq_false'] at h); (try simp only [h]); (try simp only [decide_eq_true_eq, decide_eq_false_iff_not, bne_iff_ne, bne_eq_false_iff_eq, beq_iff_eq, beq_eq_false_iff_ne, ne_eq, Int.not_lt, Int.not_le, Bool.and_eq_true, Bool.and_eq_false_iff, Bool.or_eq_true, Bool.or_eq_false_iff] at h)) <;> (try (exfalso; omega))))
          rw [← e]
        · repeat' (first | simp -implicitDefEqProofs (maxSteps := 1000000) (disch := (first | omega | (simp only [go_sem] <;> omega) | fail)) only [go_sem, ints, bools, mat] | ((first | refine goIf_b (fun h => ?_) (fun h => ?_) | refine goG_b (fun h => ?_) (fun h => ?_) | refine goTG_b (fun h => ?_) (fun h => ?_) | refine goOG_b (fun h => ?_) (fun h => ?_)) <;> ((try simp only [Bool.not_eq_true', Bool.not_eq_false'] at h); (try simp only [h]); (try simp only [decide_eq_true_eq, decide_eq_false_iff_not, bne_iff_ne, bne_eq_false_iff_eq, beq_iff_eq, beq_eq_false_iff_ne, ne_eq, Int.not_lt, Int.not_le, Bool.and_eq_true, Bool.and_eq_false_iff, Bool.or_eq_true, Bool.or_eq_false_iff] at h)) <;> (try (exfalso; omega))))
          rw [← e]
  · repeat' (first | simp -implicitDefEqProofs (maxSteps := 1000000) (disch := (first | omega | (simp only [go_sem] <;> omega) | fail)) only [go_sem, ints, bools, mat, c_spec_l01From, srcR] | ((first | refine goIf_b (fun h => ?_) (fun h => ?_) | refine goG_b (fun h => ?_) (fun h => ?_) | refine goTG_b (fun h => ?_) (fun h => ?_) | refine goOG_b (fun h => ?_) (fun h => ?_)) <;> ((try simp only [Bool.not_eq_true', Bool.not_eq_false'] at h); (try simp only [h]); (try simp only [decide_eq_true_eq, decide_eq_false_iff_not, bne_iff_ne, bne_eq_false_iff_eq, beq_iff_eq, beq_eq_false_iff_ne, ne_eq, Int.not_lt, Int.not_le, Bool.and_eq_true, Bool.and_eq_false_iff, Bool.or_eq_true, Bool.or_eq_false_iff] at h)) <;> (try (exfalso; omega))))
    refine go_loop (fun (_ : Unit) => ⟨[(0, .d (.v (.slice none 0 0))), (3, .ref 0 0), (4, .d (di 0))], [some (.var [.v (.slice none 0 0), di 0, du (hsh [] 0)])]⟩) (fun _ => True) (fun _ => 0) () ?_ trivial ?_
    · (simp -implicitDefEqProofs (maxSteps := 1000000) (disch := (first | omega | (simp only [go_sem] <;> omega) | fail)) only [go_sem, ints, bools, mat] <;> rfl)
    · intro _ _ J _
      repeat' (first | simp -implicitDefEqProofs (maxSteps := 1000000) (disch := (first | omega | (simp only [go_sem] <;> omega) | fail)) only [go_sem, ints, bools, mat] | ((first | refine goIf_b (fun h => ?_) (fun h => ?_) | refine goG_b (fun h => ?_) (fun h => ?_) | refine goTG_b (fun h => ?_) (fun h => ?_) | refine goOG_b (fun h => ?_) (fun h => ?_)) <;> ((try simp only [Bool.not_eq_true', Bool.not_eq_false'] at h); (try simp only [h]); (try simp only [decide_eq_true_eq, decide_eq_false_iff_not, bne_iff_ne, bne_eq_false_iff_eq, beq_iff_eq, beq_eq_false_iff_ne, ne_eq, Int.not_lt, Int.not_le, Bool.and_eq_true, Bool.and_eq_false_iff, Bool.or_eq_true, Bool.or_eq_false_iff] at h)) <;> (try (exfalso; omega))))
      rfl
/-- What a drawn list is. -/
def drL (X : D) (o : List Int) : Prop := IsInts X o ∧ o.length < 1048577 ∧ ∀ n, n ∈ o → in64 n
theorem ex_bad {cd : D} {l : List Int} (H : SrcH cd l) {s : Src} (hs : okS l s) {x : List Int} (hx : isSpaceM x = true) : ∃ (X : D) (o : List Int) (s' : Src), okS l s' ∧ drL X o ∧ Den PA f_spec_l01Bad [srcR cd s, .d (.agg [ints x])] [srcR cd s', .any] (.d (.agg [X])) := by
  have hn := isSpaceM_n hx
  have hq := isSpaceM_q hx
  have hin : ∀ n, n ∈ x → in64 n := fun n h => by
    obtain ⟨i, hi, rfl⟩ := List.mem_iff_getElem.1 h
    have := hq i hi
    simp [hi] at this
    unfold in64; omega
  obtain ⟨v, s1, hs1, v1, v2, d1⟩ := ex_nxt H hs (q := 50) (by omega)
  by_cases h0 : v = 0
  · subst h0
    refine ⟨nil, [], s1, hs1, ⟨.inr ⟨rfl, rfl⟩, by simp, by simp⟩, den_go [0] l_spec_l01Bad ?_⟩
    repeat' (first | simp -implicitDefEqProofs (maxSteps := 1000000) (disch := (first | omega | (simp only [go_sem] <;> omega) | fail)) only [go_sem, ints, bools, mat, c_spec_l01Bad, srcR] | ((first | refine goIf_b (fun h => ?_) (fun h => ?_) | refine goG_b (fun h => ?_) (fun h => ?_) | refine goTG_b (fun h => ?_) (fun h => ?_) | refine goOG_b (fun h => ?_) (fun h => ?_)) <;> ((try simp only [Bool.not_eq_true', Bool.not_eq_false'] at h); (try simp only [h]); (try simp only [decide_eq_true_eq, decide_eq_false_iff_not, bne_iff_ne, bne_eq_false_iff_eq, beq_iff_eq, beq_eq_false_iff_ne, ne_eq, Int.not_lt, Int.not_le, Bool.and_eq_true, Bool.and_eq_false_iff, Bool.or_eq_true, Bool.or_eq_false_iff] at h)) <;> (try (exfalso; omega))))
    first | refine goC_call [.r] (d_spec_l01Own x (by omega)) ?_ | refine goOC_call [.r] (d_spec_l01Own x (by omega)) ?_
    repeat' (first | simp -implicitDefEqProofs (maxSteps := 1000000) (disch := (first | omega | (simp only [go_sem] <;> omega) | fail)) only [go_sem, ints, bools, mat] | ((first | refine goIf_b (fun h => ?_) (fun h => ?_) | refine goG_b (fun h => ?_) (fun h => ?_) | refine goTG_b (fun h => ?_) (fun h => ?_) | refine goOG_b (fun h => ?_) (fun h => ?_)) <;> ((try simp only [Bool.not_eq_true', Bool.not_eq_false'] at h); (try simp only [h]); (try simp only [decide_eq_true_eq, decide_eq_false_iff_not, bne_iff_ne, bne_eq_false_iff_eq, beq_iff_eq, beq_eq_false_iff_ne, ne_eq, Int.not_lt, Int.not_le, Bool.and_eq_true, Bool.and_eq_false_iff, Bool.or_eq_true, Bool.or_eq_false_iff] at h)) <;> (try (exfalso; omega))))
    first | refine goC_call [.bm, .r] (d1) ?_ | refine goOC_call [.bm, .r] (d1) ?_
    repeat' (first | simp -implicitDefEqProofs (maxSteps := 1000000) (disch := (first | omega | (simp only [go_sem] <;> omega) | fail)) only [go_sem, ints, bools, mat] | ((first | refine goIf_b (fun h => ?_) (fun h => ?_) | refine goG_b (fun h => ?_) (fun h => ?_) | refine goTG_b (fun h => ?_) (fun h => ?_) | refine goOG_b (fun h => ?_) (fun h => ?_)) <;> ((try simp only [Bool.not_eq_true', Bool.not_eq_false'] at h); (try simp only [h]); (try simp only [decide_eq_true_eq, decide_eq_false_iff_not, bne_iff_ne, bne_eq_false_iff_eq, beq_iff_eq, beq_eq_false_iff_ne, ne_eq, Int.not_lt, Int.not_le, Bool.and_eq_true, Bool.and_eq_false_iff, Bool.or_eq_true, Bool.or_eq_false_iff] at h)) <;> (try (exfalso; omega))))
  · by_cases h1 : v = 1
    · subst h1
      obtain ⟨i, s2, hs2, i1, i2, d2⟩ := ex_nxt H hs1 (q := (x.length : Int)) (by omega)
      obtain ⟨w, s3, hs3, hw, d3⟩ := ex_pik H hs2 [1, 5, 0, -1, 1099511627776] (by simp) (by simp)
      refine ⟨ints (x.set i.toNat w), x.set i.toNat w, s3, hs3, ⟨.inl rfl, by simp; omega, fun n h => ?_⟩, den_go [0] l_spec_l01Bad ?_⟩
      · rcases List.mem_or_eq_of_mem_set h with h | rfl
        · exact hin n h
        · simp only [List.mem_cons, List.mem_nil_iff, or_false] at hw
          unfold in64; omega
      · repeat' (first | simp -implicitDefEqProofs (maxSteps := 1000000) (disch := (first | omega | (simp only [go_sem] <;> omega) | fail)) only [go_sem, ints, bools, mat, c_spec_l01Bad, srcR] | ((first | refine goIf_b (fun h => ?_) (fun h => ?_) | refine goG_b (fun h => ?_) (fun h => ?_) | refine goTG_b (fun h => ?_) (fun h => ?_) | refine goOG_b (fun h => ?_) (fun h => ?_)) <;> ((try simp only [Bool.not_eq_true', Bool.not_eq_false'] at h); (try simp only [h]); (try simp only [decide_eq_true_eq, decide_eq_false_iff_not, bne_iff_ne, bne_eq_false_iff_eq, beq_iff_eq, beq_eq_false_iff_ne, ne_eq, Int.not_lt, Int.not_le, Bool.and_eq_true, Bool.and_eq_false_iff, Bool.or_eq_true, Bool.or_eq_false_iff] at h)) <;> (try (exfalso; omega))))
        first | refine goC_call [.r] (d_spec_l01Own x (by omega)) ?_ | refine goOC_call [.r] (d_spec_l01Own x (by omega)) ?_
        repeat' (first | simp -implicitDefEqProofs (maxSteps := 1000000) (disch := (first | omega | (simp only [go_sem] <;> omega) | fail)) only [go_sem, ints, bools, mat] | ((first | refine goIf_b (fun h => ?_) (fun h => ?_) | refine goG_b (fun h => ?_) (fun h => ?_) | refine goTG_b (fun h => ?_) (fun h => ?_) | refine goOG_b (fun h => ?_) (fun h => ?_)) <;> ((try simp only [Bool.not_eq_true', Bool.not_eq_false'] at h); (try simp only [h]); (try simp only [decide_eq_true_eq, decide_eq_false_iff_not, bne_iff_ne, bne_eq_false_iff_eq, beq_iff_eq, beq_eq_false_iff_ne, ne_eq, Int.not_lt, Int.not_le, Bool.and_eq_true, Bool.and_eq_false_iff, Bool.or_eq_true, Bool.or_eq_false_iff] at h)) <;> (try (exfalso; omega))))
        first | refine goC_call [.bm, .r] (d1) ?_ | refine goOC_call [.bm, .r] (d1) ?_
        repeat' (first | simp -implicitDefEqProofs (maxSteps := 1000000) (disch := (first | omega | (simp only [go_sem] <;> omega) | fail)) only [go_sem, ints, bools, mat] | ((first | refine goIf_b (fun h => ?_) (fun h => ?_) | refine goG_b (fun h => ?_) (fun h => ?_) | refine goTG_b (fun h => ?_) (fun h => ?_) | refine goOG_b (fun h => ?_) (fun h => ?_)) <;> ((try simp only [Bool.not_eq_true', Bool.not_eq_false'] at h); (try simp only [h]); (try simp only [decide_eq_true_eq, decide_eq_false_iff_not, bne_iff_ne, bne_eq_false_iff_eq, beq_iff_eq, beq_eq_false_iff_ne, ne_eq, Int.not_lt, Int.not_le, Bool.and_eq_true, Bool.and_eq_false_iff, Bool.or_eq_true, Bool.or_eq_false_iff] at h)) <;> (try (exfalso; omega))))
        rw [goS_two]
        refine ⟨?_, ?_⟩
        · repeat' (first | simp -implicitDefEqProofs (maxSteps := 1000000) (disch := (first | omega | (simp only [go_sem] <;> omega) | fail)) only [go_sem, ints, bools, mat] | ((first | refine goIf_b (fun h => ?_) (fun h => ?_) | refine goG_b (fun h => ?_) (fun h => ?_) | refine goTG_b (fun h => ?_) (fun h => ?_) | refine goOG_b (fun h => ?_) (fun h => ?_)) <;> ((try simp only [Bool.not_eq_true', Bool.not_eq_false'] at h); (try simp only [h]); (try simp only [decide_eq_true_eq, decide_eq_false_iff_not, bne_iff_ne, bne_eq_false_iff_eq, beq_iff_eq, beq_eq_false_iff_ne, ne_eq, Int.not_lt, Int.not_le, Bool.and_eq_true, Bool.and_eq_false_iff, Bool.or_eq_true, Bool.or_eq_false_iff] at h)) <;> (try (exfalso; omega))))
          first | refine goC_call [.bm, .r] (d2) ?_ | refine goOC_call [.bm, .r] (d2) ?_
          repeat' (first | simp -implicitDefEqProofs (maxSteps := 1000000) (disch := (first | omega | (simp only [go_sem] <;> omega) | fail)) only [go_sem, ints, bools, mat] | ((first | refine goIf_b (fun h => ?_) (fun h => ?_) | refine goG_b (fun h => ?_) (fun h => ?_) | refine goTG_b (fun h => ?_) (fun h => ?_) | refine goOG_b (fun h => ?_) (fun h => ?_)) <;> ((try simp only [Bool.not_eq_true', Bool.not_eq_false'] at h); (try simp only [h]); (try simp only [decide_eq_true_eq, decide_eq_false_iff_not, bne_iff_ne, bne_eq_false_iff_eq, beq_iff_eq, beq_eq_false_iff_ne, ne_eq, Int.not_lt, Int.not_le, Bool.and_eq_true, Bool.and_eq_false_iff, Bool.or_eq_true, Bool.or_eq_false_iff] at h)) <;> (try (exfalso; omega))))
          first | refine goC_call [.bm, .f] (d3) ?_ | refine goOC_call [.bm, .f] (d3) ?_
          repeat' (first | simp -implicitDefEqProofs (maxSteps := 1000000) (disch := (first | omega | (simp only [go_sem] <;> omega) | fail)) only [go_sem, ints, bools, mat] | ((first | refine goIf_b (fun h => ?_) (fun h => ?_) | refine goG_b (fun h => ?_) (fun h => ?_) | refine goTG_b (fun h => ?_) (fun h => ?_) | refine goOG_b (fun h => ?_) (fun h => ?_)) <;> ((try simp only [Bool.not_eq_true', Bool.not_eq_false'] at h); (try simp only [h]); (try simp only [decide_eq_true_eq, decide_eq_false_iff_not, bne_iff_ne, bne_eq_false_iff_eq, beq_iff_eq, beq_eq_false_iff_ne, ne_eq, Int.not_lt, Int.not_le, Bool.and_eq_true, Bool.and_eq_false_iff, Bool.or_eq_true, Bool.or_eq_false_iff] at h)) <;> (try (exfalso; omega))))
        · repeat' (first | simp -implicitDefEqProofs (maxSteps := 1000000) (disch := (first | omega | (simp only [go_sem] <;> omega) | fail)) only [go_sem, ints, bools, mat] | ((first | refine goIf_b (fun h => ?_) (fun h => ?_) | refine goG_b (fun h => ?_) (fun h => ?_) | refine goTG_b (fun h => ?_) (fun h => ?_) | refine goOG_b (fun h => ?_) (fun h => ?_)) <;> ((try simp only [Bool.not_eq_true', Bool.not_eq_false'] at h); (try simp only [h]); (try simp only [decide_eq_true_eq, decide_eq_false_iff_not, bne_iff_ne, bne_eq_false_iff_eq, beq_iff_eq, beq_eq_false_iff_ne, ne_eq, Int.not_lt, Int.not_le, Bool.and_eq_true, Bool.and_eq_false_iff, Bool.or_eq_true, Bool.or_eq_false_iff] at h)) <;> (try (exfalso; omega))))
          first | refine goC_call [.bm, .r] (d2) ?_ | refine goOC_call [.bm, .r] (d2) ?_
          repeat' (first | simp -implicitDefEqProofs (maxSteps := 1000000) (disch := (first | omega | (simp only [go_sem] <;> omega) | fail)) only [go_sem, ints, bools, mat] | ((first | refine goIf_b (fun h => ?_) (fun h => ?_) | refine goG_b (fun h => ?_) (fun h => ?_) | refine goTG_b (fun h => ?_) (fun h => ?_) | refine goOG_b (fun h => ?_) (fun h => ?_)) <;> ((try simp only [Bool.not_eq_true', Bool.not_eq_false'] at h); (try simp only [h]); (try simp only [decide_eq_true_eq, decide_eq_false_iff_not, bne_iff_ne, bne_eq_false_iff_eq, beq_iff_eq, beq_eq_false_iff_ne, ne_eq, Int.not_lt, Int.not_le, Bool.and_eq_true, Bool.and_eq_false_iff, Bool.or_eq_true, Bool.or_eq_false_iff] at h)) <;> (try (exfalso; omega))))
          first | refine goC_call [.bm, .f] (d3) ?_ | refine goOC_call [.bm, .f] (d3) ?_
          repeat' (first | simp -implicitDefEqProofs (maxSteps := 1000000) (disch := (first | omega | (simp only [go_sem] <;> omega) | fail)) only [go_sem, ints, bools, mat] | ((first | refine goIf_b (fun h => ?_) (fun h => ?_) | refine goG_b (fun h => ?_) (fun h => ?_) | refine goTG_b (fun h => ?_) (fun h => ?_) | refine goOG_b (fun h => ?_) (fun h => ?_)) <;> ((try simp only [Bool.not_eq_true', Bool.not_eq_false'] at h); (try simp only [h]); (try simp only [decide_eq_true_eq, decide_eq_false_iff_not, bne_iff_ne, bne_eq_false_iff_eq, beq_iff_eq, beq_eq_false_iff_ne, ne_eq, Int.not_lt, Int.not_le, Bool.and_eq_true, Bool.and_eq_false_iff, Bool.or_eq_true, Bool.or_eq_false_iff] at h)) <;> (try (exfalso; omega))))
    · by_cases h2 : v = 2
      · subst h2
        refine ⟨ints (x ++ List.replicate (6 - x.length) 4), x ++ List.replicate (6 - x.length) 4, s1, hs1, ⟨.inl rfl, by simp; omega, fun n h => ?_⟩, den_go [0] l_spec_l01Bad ?_⟩
        · rcases List.mem_append.1 h with h | h
          · exact hin n h
          · rw [List.mem_replicate] at h; rw [h.2]; unfold in64; omega
        · repeat' (first | simp -implicitDefEqProofs (maxSteps := 1000000) (disch := (first | omega | (simp only [go_sem] <;> omega) | fail)) only [go_sem, ints, bools, mat, c_spec_l01Bad, srcR] | ((first | refine goIf_b (fun h => ?_) (fun h => ?_) | refine goG_b (fun h => ?_) (fun h => ?_) | refine goTG_b (fun h => ?_) (fun h => ?_) | refine goOG_b (fun h => ?_) (fun h => ?_)) <;> ((try simp only [Bool.not_eq_true', Bool.not_eq_false'] at h); (try simp only [h]); (try simp only [decide_eq_true_eq, decide_eq_false_iff_not, bne_iff_ne, bne_eq_false_iff_eq, beq_iff_eq, beq_eq_false_iff_ne, ne_eq, Int.not_lt, Int.not_le, Bool.and_eq_true, Bool.and_eq_false_iff, Bool.or_eq_true, Bool.or_eq_false_iff] at h)) <;> (try (exfalso; omega))))
          first | refine goC_call [.r] (d_spec_l01Own x (by omega)) ?_ | refine goOC_call [.r] (d_spec_l01Own x (by omega)) ?_
          repeat' (first | simp -implicitDefEqProofs (maxSteps := 1000000) (disch := (first | omega | (simp only [go_sem] <;> omega) | fail)) only [go_sem, ints, bools, mat] | ((first | refine goIf_b (fun h => ?_) (fun h => ?_) | refine goG_b (fun h => ?_) (fun h => ?_) | refine goTG_b (fun h => ?_) (fun h => ?_) | refine goOG_b (fun h => ?_) (fun h => ?_)) <;> ((try simp only [Bool.not_eq_true', Bool.not_eq_false'] at h); (try simp only [h]); (try simp only [decide_eq_true_eq, decide_eq_false_iff_not, bne_iff_ne, bne_eq_false_iff_eq, beq_iff_eq, beq_eq_false_iff_ne, ne_eq, Int.not_lt, Int.not_le, Bool.and_eq_true, Bool.and_eq_false_iff, Bool.or_eq_true, Bool.or_eq_false_iff] at h)) <;> (try (exfalso; omega))))
          first | refine goC_call [.bm, .r] (d1) ?_ | refine goOC_call [.bm, .r] (d1) ?_
          repeat' (first | simp -implicitDefEqProofs (maxSteps := 1000000) (disch := (first | omega | (simp only [go_sem] <;> omega) | fail)) only [go_sem, ints, bools, mat] | ((first | refine goIf_b (fun h => ?_) (fun h => ?_) | refine goG_b (fun h => ?_) (fun h => ?_) | refine goTG_b (fun h => ?_) (fun h => ?_) | refine goOG_b (fun h => ?_) (fun h => ?_)) <;> ((try simp only [Bool.not_eq_true', Bool.not_eq_false'] at h); (try simp only [h]); (try simp only [decide_eq_true_eq, decide_eq_false_iff_not, bne_iff_ne, bne_eq_false_iff_eq, beq_iff_eq, beq_eq_false_iff_ne, ne_eq, Int.not_lt, Int.not_le, Bool.and_eq_true, Bool.and_eq_false_iff, Bool.or_eq_true, Bool.or_eq_false_iff] at h)) <;> (try (exfalso; omega))))
          refine go_loop (fun (j : Nat) => ⟨[(4, .ref 0 0), (5, .ref 1 0), (42, .ref 2 0)], [some (.var [D.v (.slice none 0 0)]), some (.mix [.sl 3 0 (x.length + j) 1]), some (.var [cd, di s1.1, du s1.2]), some (.dat 1 ((x ++ List.replicate j 4).map di))]⟩) (fun j => j ≤ 6 - x.length) (fun j => 6 - x.length - j) 0 ?_ ?_ ?_
          · simp -implicitDefEqProofs (maxSteps := 1000000) (disch := (first | omega | (simp only [go_sem] <;> omega) | fail)) only [go_sem, ints, bools, mat]
            simp
          · exact Nat.zero_le _
          · rintro j hj J hJ
            by_cases hlt : j < 6 - x.length
            · repeat' (first | simp -implicitDefEqProofs (maxSteps := 1000000) (disch := (first | omega | (simp only [go_sem] <;> omega) | fail)) only [go_sem, ints, bools, mat] | ((first | refine goIf_b (fun h => ?_) (fun h => ?_) | refine goG_b (fun h => ?_) (fun h => ?_) | refine goTG_b (fun h => ?_) (fun h => ?_) | refine goOG_b (fun h => ?_) (fun h => ?_)) <;> ((try simp only [Bool.not_eq_true', Bool.not_eq_false'] at h); (try simp only [h]); (try simp only [decide_eq_true_eq, decide_eq_false_iff_not, bne_iff_ne, bne_eq_false_iff_eq, beq_iff_eq, beq_eq_false_iff_ne, ne_eq, Int.not_lt, Int.not_le, Bool.and_eq_true, Bool.and_eq_false_iff, Bool.or_eq_true, Bool.or_eq_false_iff] at h)) <;> (try (exfalso; omega))))
              refine hJ (j + 1) (by omega) (by omega) _ ?_
              simp -implicitDefEqProofs (maxSteps := 1000000) (disch := (first | omega | (simp only [go_sem] <;> omega) | fail)) only [go_sem, ints, bools, mat]
              rw [List.replicate_succ']
              simp [Nat.add_assoc]
            · have e : j = 6 - x.length := by omega
              repeat' (first | simp -implicitDefEqProofs (maxSteps := 1000000) (disch := (first | omega | (simp only [go_sem] <;> omega) | fail)) only [go_sem, ints, bools, mat] | ((first | refine goIf_b (fun h => ?_) (fun h => ?_) | refine goG_b (fun h => ?_) (fun h => ?_) | refine goTG_b (fun h => ?_) (fun h => ?_) | refine goOG_b (fun h => ?_) (fun h => ?_)) <;> ((try simp only [Bool.not_eq_true', Bool.not_eq_false'] at h); (try simp only [h]); (try simp only [decide_eq_true_eq, decide_eq_false_iff_not, bne_iff_ne, bne_eq_false_iff_eq, beq_iff_eq, beq_eq_false_iff_ne, ne_eq, Int.not_lt, Int.not_le, Bool.and_eq_true, Bool.and_eq_false_iff, Bool.or_eq_true, Bool.or_eq_false_iff] at h)) <;> (try (exfalso; omega))))
              rw [← e]
              repeat' (first | simp -implicitDefEqProofs (maxSteps := 1000000) (disch := (first | omega | (simp only [go_sem] <;> omega) | fail)) only [go_sem, ints, bools, mat] | ((first | refine goIf_b (fun h => ?_) (fun h => ?_) | refine goG_b (fun h => ?_) (fun h => ?_) | refine goTG_b (fun h => ?_) (fun h => ?_) | refine goOG_b (fun h => ?_) (fun h => ?_)) <;> ((try simp only [Bool.not_eq_true', Bool.not_eq_false'] at h); (try simp only [h]); (try simp only [decide_eq_true_eq, decide_eq_false_iff_not, bne_iff_ne, bne_eq_false_iff_eq, beq_iff_eq, beq_eq_false_iff_ne, ne_eq, Int.not_lt, Int.not_le, Bool.and_eq_true, Bool.and_eq_false_iff, Bool.or_eq_true, Bool.or_eq_false_iff] at h)) <;> (try (exfalso; omega))))
      · refine ⟨ints x, x, s1, hs1, ⟨.inl rfl, by omega, hin⟩, den_go [0] l_spec_l01Bad ?_⟩
        repeat' (first | simp -implicitDefEqProofs (maxSteps := 1000000) (disch := (first | omega | (simp only [go_sem] <;> omega) | fail)) only [go_sem, ints, bools, mat, c_spec_l01Bad, srcR] | ((first | refine goIf_b (fun h => ?_) (fun h => ?_) | refine goG_b (fun h => ?_) (fun h => ?_) | refine goTG_b (fun h => ?_) (fun h => ?_) | refine goOG_b (fun h => ?_) (fun h => ?_)) <;> ((try simp only [Bool.not_eq_true', Bool.not_eq_false'] at h); (try simp only [h]); (try simp only [decide_eq_true_eq, decide_eq_false_iff_not, bne_iff_ne, bne_eq_false_iff_eq, beq_iff_eq, beq_eq_false_iff_ne, ne_eq, Int.not_lt, Int.not_le, Bool.and_eq_true, Bool.and_eq_false_iff, Bool.or_eq_true, Bool.or_eq_false_iff] at h)) <;> (try (exfalso; omega))))
        first | refine goC_call [.r] (d_spec_l01Own x (by omega)) ?_ | refine goOC_call [.r] (d_spec_l01Own x (by omega)) ?_
        repeat' (first | simp -implicitDefEqProofs (maxSteps := 1000000) (disch := (first | omega | (simp only [go_sem] <;> omega) | fail)) only [go_sem, ints, bools, mat] | ((first | refine goIf_b (fun h => ?_) (fun h => ?_) | refine goG_b (fun h => ?_) (fun h => ?_) | refine goTG_b (fun h => ?_) (fun h => ?_) | refine goOG_b (fun h => ?_) (fun h => ?_)) <;> ((try simp only [Bool.not_eq_true', Bool.not_eq_false'] at h); (try simp only [h]); (try simp only [decide_eq_true_eq, decide_eq_false_iff_not, bne_iff_ne, bne_eq_false_iff_eq, beq_iff_eq, beq_eq_false_iff_ne, ne_eq, Int.not_lt, Int.not_le, Bool.and_eq_true, Bool.and_eq_false_iff, Bool.or_eq_true, Bool.or_eq_false_iff] at h)) <;> (try (exfalso; omega))))
        first | refine goC_call [.bm, .r] (d1) ?_ | refine goOC_call [.bm, .r] (d1) ?_
        repeat' (first | simp -implicitDefEqProofs (maxSteps := 1000000) (disch := (first | omega | (simp only [go_sem] <;> omega) | fail)) only [go_sem, ints, bools, mat] | ((first | refine goIf_b (fun h => ?_) (fun h => ?_) | refine goG_b (fun h => ?_) (fun h => ?_) | refine goTG_b (fun h => ?_) (fun h => ?_) | refine goOG_b (fun h => ?_) (fun h => ?_)) <;> ((try simp only [Bool.not_eq_true', Bool.not_eq_false'] at h); (try simp only [h]); (try simp only [decide_eq_true_eq, decide_eq_false_iff_not, bne_iff_ne, bne_eq_false_iff_eq, beq_iff_eq, beq_eq_false_iff_ne, ne_eq, Int.not_lt, Int.not_le, Bool.and_eq_true, Bool.and_eq_false_iff, Bool.or_eq_true, Bool.or_eq_false_iff] at h)) <;> (try (exfalso; omega))))
theorem ex_badCode {cd : D} {l : List Int} (H : SrcH cd l) {s : Src} (hs : okS l s) {x : List Int} (hx : isSpaceM x = true) {c : List Int} (hc : c.length < 1048576) (hci : ∀ n, n ∈ c → in64 n) : ∃ (o : List Int) (s' : Src), okS l s' ∧ o.length < 1048577 ∧ (∀ n, n ∈ o → in64 n) ∧ Den PA f_spec_l01BadCode [srcR cd s, .d (.agg [ints x]), .d (ints c)] [srcR cd s', .any, .any] (.own 1 (o.map di)) := by
  have hn := isSpaceM_n hx
  have hq := isSpaceM_q hx
  have hp := isSpaceM_prod hx
  have hp1 := prodM_pos (isSpaceM_szs hx)
  obtain ⟨v, s1, hs1, v1, v2, d1⟩ := ex_nxt H hs (q := 30) (by omega)
  by_cases h0 : v = 0
  · subst h0
    obtain ⟨w, s2, hs2, hw, d2⟩ := ex_pik H hs1 [-1, prodM x, 0, 1099511627776] (by simp) (by simp)
    refine ⟨c ++ [w], s2, hs2, by simp; omega, fun n h => ?_, den_go [0] l_spec_l01BadCode ?_⟩
    · rcases List.mem_append.1 h with h | h
      · exact hci n h
      · simp only [List.mem_singleton] at h
        simp only [List.mem_cons, List.mem_nil_iff, or_false] at hw
        unfold in64; omega
    · repeat' (first | simp -implicitDefEqProofs (maxSteps := 1000000) (disch := (first | omega | (simp only [go_sem] <;> omega) | fail)) only [go_sem, ints, bools, mat, c_spec_l01BadCode, srcR] | ((first | refine goIf_b (fun h => ?_) (fun h => ?_) | refine goG_b (fun h => ?_) (fun h => ?_) | refine goTG_b (fun h => ?_) (fun h => ?_) | refine goOG_b (fun h => ?_) (fun h => ?_)) <;> ((try simp only [Bool.not_eq_true', Bool.not_eq_false'] at h); (try simp only [h]); (try simp only [decide_eq_true_eq, decide_eq_false_iff_not, bne_iff_ne, bne_eq_false_iff_eq, beq_iff_eq, beq_eq_false_iff_ne, ne_eq, Int.not_lt, Int.not_le, Bool.and_eq_true, Bool.and_eq_false_iff, Bool.or_eq_true, Bool.or_eq_false_iff] at h)) <;> (try (exfalso; omega))))
      first | refine goC_call [.r] (d_spec_l01Own c (by omega)) ?_ | refine goOC_call [.r] (d_spec_l01Own c (by omega)) ?_
      repeat' (first | simp -implicitDefEqProofs (maxSteps := 1000000) (disch := (first | omega | (simp only [go_sem] <;> omega) | fail)) only [go_sem, ints, bools, mat] | ((first | refine goIf_b (fun h => ?_) (fun h => ?_) | refine goG_b (fun h => ?_) (fun h => ?_) | refine goTG_b (fun h => ?_) (fun h => ?_) | refine goOG_b (fun h => ?_) (fun h => ?_)) <;> ((try simp only [Bool.not_eq_true', Bool.not_eq_false'] at h); (try simp only [h]); (try simp only [decide_eq_true_eq, decide_eq_false_iff_not, bne_iff_ne, bne_eq_false_iff_eq, beq_iff_eq, beq_eq_false_iff_ne, ne_eq, Int.not_lt, Int.not_le, Bool.and_eq_true, Bool.and_eq_false_iff, Bool.or_eq_true, Bool.or_eq_false_iff] at h)) <;> (try (exfalso; omega))))
      first | refine goC_call [.bm, .r] (d1) ?_ | refine goOC_call [.bm, .r] (d1) ?_
      repeat' (first | simp -implicitDefEqProofs (maxSteps := 1000000) (disch := (first | omega | (simp only [go_sem] <;> omega) | fail)) only [go_sem, ints, bools, mat] | ((first | refine goIf_b (fun h => ?_) (fun h => ?_) | refine goG_b (fun h => ?_) (fun h => ?_) | refine goTG_b (fun h => ?_) (fun h => ?_) | refine goOG_b (fun h => ?_) (fun h => ?_)) <;> ((try simp only [Bool.not_eq_true', Bool.not_eq_false'] at h); (try simp only [h]); (try simp only [decide_eq_true_eq, decide_eq_false_iff_not, bne_iff_ne, bne_eq_false_iff_eq, beq_iff_eq, beq_eq_false_iff_ne, ne_eq, Int.not_lt, Int.not_le, Bool.and_eq_true, Bool.and_eq_false_iff, Bool.or_eq_true, Bool.or_eq_false_iff] at h)) <;> (try (exfalso; omega))))
      first | refine goC_call [.r] (d_spec_l01N x (by omega) hq) ?_ | refine goOC_call [.r] (d_spec_l01N x (by omega) hq) ?_
      repeat' (first | simp -implicitDefEqProofs (maxSteps := 1000000) (disch := (first | omega | (simp only [go_sem] <;> omega) | fail)) only [go_sem, ints, bools, mat] | ((first | refine goIf_b (fun h => ?_) (fun h => ?_) | refine goG_b (fun h => ?_) (fun h => ?_) | refine goTG_b (fun h => ?_) (fun h => ?_) | refine goOG_b (fun h => ?_) (fun h => ?_)) <;> ((try simp only [Bool.not_eq_true', Bool.not_eq_false'] at h); (try simp only [h]); (try simp only [decide_eq_true_eq, decide_eq_false_iff_not, bne_iff_ne, bne_eq_false_iff_eq, beq_iff_eq, beq_eq_false_iff_ne, ne_eq, Int.not_lt, Int.not_le, Bool.and_eq_true, Bool.and_eq_false_iff, Bool.or_eq_true, Bool.or_eq_false_iff] at h)) <;> (try (exfalso; omega))))
      first | refine goC_call [.bm, .f] (d2) ?_ | refine goOC_call [.bm, .f] (d2) ?_
      repeat' (first | simp -implicitDefEqProofs (maxSteps := 1000000) (disch := (first | omega | (simp only [go_sem] <;> omega) | fail)) only [go_sem, ints, bools, mat] | ((first | refine goIf_b (fun h => ?_) (fun h => ?_) | refine goG_b (fun h => ?_) (fun h => ?_) | refine goTG_b (fun h => ?_) (fun h => ?_) | refine goOG_b (fun h => ?_) (fun h => ?_)) <;> ((try simp only [Bool.not_eq_true', Bool.not_eq_false'] at h); (try simp only [h]); (try simp only [decide_eq_true_eq, decide_eq_false_iff_not, bne_iff_ne, bne_eq_false_iff_eq, beq_iff_eq, beq_eq_false_iff_ne, ne_eq, Int.not_lt, Int.not_le, Bool.and_eq_true, Bool.and_eq_false_iff, Bool.or_eq_true, Bool.or_eq_false_iff] at h)) <;> (try (exfalso; omega))))
  · by_cases h1 : v = 1
    · subst h1
      by_cases hl1 : 1 < c.length
      · refine ⟨c.set 0 (c.getD 1 0), s1, hs1, by simp; omega, fun n h => ?_, den_go [0] l_spec_l01BadCode ?_⟩
        · rcases List.mem_or_eq_of_mem_set h with h | rfl
          · exact hci n h
          · exact hci _ (mem_getD hl1)
        · repeat' (first | simp -implicitDefEqProofs (maxSteps := 1000000) (disch := (first | omega | (simp only [go_sem] <;> omega) | fail)) only [go_sem, ints, bools, mat, c_spec_l01BadCode, srcR] | ((first | refine goIf_b (fun h => ?_) (fun h => ?_) | refine goG_b (fun h => ?_) (fun h => ?_) | refine goTG_b (fun h => ?_) (fun h => ?_) | refine goOG_b (fun h => ?_) (fun h => ?_)) <;> ((try simp only [Bool.not_eq_true', Bool.not_eq_false'] at h); (try simp only [h]); (try simp only [decide_eq_true_eq, decide_eq_false_iff_not, bne_iff_ne, bne_eq_false_iff_eq, beq_iff_eq, beq_eq_false_iff_ne, ne_eq, Int.not_lt, Int.not_le, Bool.and_eq_true, Bool.and_eq_false_iff, Bool.or_eq_true, Bool.or_eq_false_iff] at h)) <;> (try (exfalso; omega))))
          first | refine goC_call [.r] (d_spec_l01Own c (by omega)) ?_ | refine goOC_call [.r] (d_spec_l01Own c (by omega)) ?_
          repeat' (first | simp -implicitDefEqProofs (maxSteps := 1000000) (disch := (first | omega | (simp only [go_sem] <;> omega) | fail)) only [go_sem, ints, bools, mat] | ((first | refine goIf_b (fun h => ?_) (fun h => ?_) | refine goG_b (fun h => ?_) (fun h => ?_) | refine goTG_b (fun h => ?_) (fun h => ?_) | refine goOG_b (fun h => ?_) (fun h => ?_)) <;> ((try simp only [Bool.not_eq_true', Bool.not_eq_false'] at h); (try simp only [h]); (try simp only [decide_eq_true_eq, decide_eq_false_iff_not, bne_iff_ne, bne_eq_false_iff_eq, beq_iff_eq, beq_eq_false_iff_ne, ne_eq, Int.not_lt, Int.not_le, Bool.and_eq_true, Bool.and_eq_false_iff, Bool.or_eq_true, Bool.or_eq_false_iff] at h)) <;> (try (exfalso; omega))))
          first | refine goC_call [.bm, .r] (d1) ?_ | refine goOC_call [.bm, .r] (d1) ?_
          repeat' (first | simp -implicitDefEqProofs (maxSteps := 1000000) (disch := (first | omega | (simp only [go_sem] <;> omega) | fail)) only [go_sem, ints, bools, mat] | ((first | refine goIf_b (fun h => ?_) (fun h => ?_) | refine goG_b (fun h => ?_) (fun h => ?_) | refine goTG_b (fun h => ?_) (fun h => ?_) | refine goOG_b (fun h => ?_) (fun h => ?_)) <;> ((try simp only [Bool.not_eq_true', Bool.not_eq_false'] at h); (try simp only [h]); (try simp only [decide_eq_true_eq, decide_eq_false_iff_not, bne_iff_ne, bne_eq_false_iff_eq, beq_iff_eq, beq_eq_false_iff_ne, ne_eq, Int.not_lt, Int.not_le, Bool.and_eq_true, Bool.and_eq_false_iff, Bool.or_eq_true, Bool.or_eq_false_iff] at h)) <;> (try (exfalso; omega))))
          rfl
      · refine ⟨c, s1, hs1, by omega, hci, den_go [0] l_spec_l01BadCode ?_⟩
        repeat' (first | simp -implicitDefEqProofs (maxSteps := 1000000) (disch := (first | omega | (simp only [go_sem] <;> omega) | fail)) only [go_sem, ints, bools, mat, c_spec_l01BadCode, srcR] | ((first | refine goIf_b (fun h => ?_) (fun h => ?_) | refine goG_b (fun h => ?_) (fun h => ?_) | refine goTG_b (fun h => ?_) (fun h => ?_) | refine goOG_b (fun h => ?_) (fun h => ?_)) <;> ((try simp only [Bool.not_eq_true', Bool.not_eq_false'] at h); (try simp only [h]); (try simp only [decide_eq_true_eq, decide_eq_false_iff_not, bne_iff_ne, bne_eq_false_iff_eq, beq_iff_eq, beq_eq_false_iff_ne, ne_eq, Int.not_lt, Int.not_le, Bool.and_eq_true, Bool.and_eq_false_iff, Bool.or_eq_true, Bool.or_eq_false_iff] at h)) <;> (try (exfalso; omega))))
        first | refine goC_call [.r] (d_spec_l01Own c (by omega)) ?_ | refine goOC_call [.r] (d_spec_l01Own c (by omega)) ?_
        repeat' (first | simp -implicitDefEqProofs (maxSteps := 1000000) (disch := (first | omega | (simp only [go_sem] <;> omega) | fail)) only [go_sem, ints, bools, mat] | ((first | refine goIf_b (fun h => ?_) (fun h => ?_) | refine goG_b (fun h => ?_) (fun h => ?_) | refine goTG_b (fun h => ?_) (fun h => ?_) | refine goOG_b (fun h => ?_) (fun h => ?_)) <;> ((try simp only [Bool.not_eq_true', Bool.not_eq_false'] at h); (try simp only [h]); (try simp only [decide_eq_true_eq, decide_eq_false_iff_not, bne_iff_ne, bne_eq_false_iff_eq, beq_iff_eq, beq_eq_false_iff_ne, ne_eq, Int.not_lt, Int.not_le, Bool.and_eq_true, Bool.and_eq_false_iff, Bool.or_eq_true, Bool.or_eq_false_iff] at h)) <;> (try (exfalso; omega))))
        first | refine goC_call [.bm, .r] (d1) ?_ | refine goOC_call [.bm, .r] (d1) ?_
        repeat' (first | simp -implicitDefEqProofs (maxSteps := 1000000) (disch := (first | omega | (simp only [go_sem] <;> omega) | fail)) only [go_sem, ints, bools, mat] | ((first | refine goIf_b (fun h => ?_) (fun h => ?_) | refine goG_b (fun h => ?_) (fun h => ?_) | refine goTG_b (fun h => ?_) (fun h => ?_) | refine goOG_b (fun h => ?_) (fun h => ?_)) <;> ((try simp only [Bool.not_eq_true', Bool.not_eq_false'] at h); (try simp only [h]); (try simp only [decide_eq_true_eq, decide_eq_false_iff_not, bne_iff_ne, bne_eq_false_iff_eq, beq_iff_eq, beq_eq_false_iff_ne, ne_eq, Int.not_lt, Int.not_le, Bool.and_eq_true, Bool.and_eq_false_iff, Bool.or_eq_true, Bool.or_eq_false_iff] at h)) <;> (try (exfalso; omega))))
    · refine ⟨c, s1, hs1, by omega, hci, den_go [0] l_spec_l01BadCode ?_⟩
      repeat' (first | simp -implicitDefEqProofs (maxSteps := 1000000) (disch := (first | omega | (simp only [go_sem] <;> omega) | fail)) only [go_sem, ints, bools, mat, c_spec_l01BadCode, srcR] | ((first | refine goIf_b (fun h => ?_) (fun h => ?_) | refine goG_b (fun h => ?_) (fun h => ?_) | refine goTG_b (fun h => ?_) (fun h => ?_) | refine goOG_b (fun h => ?_) (fun h => ?_)) <;> ((try simp only [Bool.not_eq_true', Bool.not_eq_false'] at h); (try simp only [h]); (try simp only [decide_eq_true_eq, decide_eq_false_iff_not, bne_iff_ne, bne_eq_false_iff_eq, beq_iff_eq, beq_eq_false_iff_ne, ne_eq, Int.not_lt, Int.not_le, Bool.and_eq_true, Bool.and_eq_false_iff, Bool.or_eq_true, Bool.or_eq_false_iff] at h)) <;> (try (exfalso; omega))))
      first | refine goC_call [.r] (d_spec_l01Own c (by omega)) ?_ | refine goOC_call [.r] (d_spec_l01Own c (by omega)) ?_
      repeat' (first | simp -implicitDefEqProofs (maxSteps := 1000000) (disch := (first | omega | (simp only [go_sem] <;> omega) | fail)) only [go_sem, ints, bools, mat] | ((first | refine goIf_b (fun h => ?_) (fun h => ?_) | refine goG_b (fun h => ?_) (fun h => ?_) | refine goTG_b (fun h => ?_) (fun h => ?_) | refine goOG_b (fun h => ?_) (fun h => ?_)) <;> ((try simp only [Bool.not_eq_true', Bool.not_eq_false'] at h); (try simp only [h]); (try simp only [decide_eq_true_eq, decide_eq_false_iff_not, bne_iff_ne, bne_eq_false_iff_eq, beq_iff_eq, beq_eq_false_iff_ne, ne_eq, Int.not_lt, Int.not_le, Bool.and_eq_true, Bool.and_eq_false_iff, Bool.or_eq_true, Bool.or_eq_false_iff] at h)) <;> (try (exfalso; omega))))
      first | refine goC_call [.bm, .r] (d1) ?_ | refine goOC_call [.bm, .r] (d1) ?_
      repeat' (first | simp -implicitDefEqProofs (maxSteps := 1000000) (disch := (first | omega | (simp only [go_sem] <;> omega) | fail)) only [go_sem, ints, bools, mat] | ((first | refine goIf_b (fun h => ?_) (fun h => ?_) | refine goG_b (fun h => ?_) (fun h => ?_) | refine goTG_b (fun h => ?_) (fun h => ?_) | refine goOG_b (fun h => ?_) (fun h => ?_)) <;> ((try simp only [Bool.not_eq_true', Bool.not_eq_false'] at h); (try simp only [h]); (try simp only [decide_eq_true_eq, decide_eq_false_iff_not, bne_iff_ne, bne_eq_false_iff_eq, beq_iff_eq, beq_eq_false_iff_ne, ne_eq, Int.not_lt, Int.not_le, Bool.and_eq_true, Bool.and_eq_false_iff, Bool.or_eq_true, Bool.or_eq_false_iff] at h)) <;> (try (exfalso; omega))))
end Go.Proofs.YtfgjfjgkoabfjadGreat.Va
