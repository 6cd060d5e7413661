/- Contracts of the functions that FnApart reaches (part 2). Condition: none. -/
import Derived.Test.YtgmocipfgfnolaaGreatDoorDFnApart1
set_option linter.all false
set_option linter.unusedSimpArgs false
set_option linter.unusedVariables false
namespace Go.Proofs.YtgmocipfgfnolaaGreatDoor.Va
open Go
set_option maxHeartbeats 4000000
set_option maxRecDepth 100000
theorem d_fapt (l : List Int) (hs : isSpaceM l = true) (h27 : prodM l ≤ 27) (d : Int) (hd1 : 1 ≤ d) (many : Nat) (hm : many ≤ 100000) : ∀ (k : Nat) (X c : List Int) (g1 g2 g3 g4 : Value), c.length + k = many → X.Sublist (allW l) →
    DenG PA f_impl_firstApart_1 5 [.d (.v (.int .u64 (wsN l X : Int))), .is (.box [di many]) g1, .is (.boxm [.own 1 (c.map di)]) g2, .is (.box [.v (.func (.func f_impl_firstApart_1) #[] [g1, g2, g3, g4].toArray)]) g3, .is (.box [.lst 1 ((nearB l (d - 1)).map duN)]) g4, tabR]
      [.any, .any, .boxm [.own 1 ((srL c (naX l d k X)).map di)], .any, .any, .any] (.d (db (srB (naX l d k X)))) := by
  have hp1 := prodM_pos (isSpaceM_szs hs)
  intro k
  induction k with
  | zero =>
    intro X c g1 g2 g3 g4 hk hX
    have hk2 : (many : Int) - c.length = 0 := by omega
    refine den_goG [1, 2, 3, 4, 5] l_impl_firstApart_1 (by simp) ?_
    rw [naX_zero, srL, srB, List.append_nil]
    repeat' (first | simp -implicitDefEqProofs (maxSteps := 1000000) (disch := (first | omega | (simp only [go_sem] <;> omega) | fail)) only [go_sem, ints, bools, mat, c_impl_firstApart_1, hk2] | ((first | apply goIf_b | apply goG_b | apply goTG_b | apply goOG_b) <;> intro h <;> ((try simp only [Bool.not_eq_true', Bool.not_eq_false'] at h); (try simp only [h]); (try simp only [decide_eq_true_eq, decide_eq_false_iff_not, bne_iff_ne, bne_eq_false_iff_eq, beq_iff_eq, beq_eq_false_iff_ne, ne_eq, Int.not_lt, Int.not_le, Bool.and_eq_true, Bool.and_eq_false_iff, Bool.or_eq_true, Bool.or_eq_false_iff] at h)) <;> (try (exfalso; omega))))
  | succ k ih =>
    intro X c g1 g2 g3 g4 hk hX
    have hk2 : (many : Int) - c.length = ((k + 1 : Nat) : Int) := by omega
    refine den_goG [1, 2, 3, 4, 5] l_impl_firstApart_1 (by simp) ?_
    repeat' (first | simp -implicitDefEqProofs (maxSteps := 1000000) (disch := (first | omega | (simp only [go_sem] <;> omega) | fail)) only [go_sem, ints, bools, mat, c_impl_firstApart_1, hk2] | ((first | apply goIf_b | apply goG_b | apply goTG_b | apply goOG_b) <;> intro h <;> ((try simp only [Bool.not_eq_true', Bool.not_eq_false'] at h); (try simp only [h]); (try simp only [decide_eq_true_eq, decide_eq_false_iff_not, bne_iff_ne, bne_eq_false_iff_eq, beq_iff_eq, beq_eq_false_iff_ne, ne_eq, Int.not_lt, Int.not_le, Bool.and_eq_true, Bool.and_eq_false_iff, Bool.or_eq_true, Bool.or_eq_false_iff] at h)) <;> (try (exfalso; omega))))
    generalize hres : naX l d (k + 1) X = res
    refine go_loop (fun (p : List Int × List Int) => ⟨[(0, .d (.v (.int .u64 (wsN l p.1 : Int)))), (2, .ref 0 0), (3, .iref [.v (.func (.func f_impl_firstApart_1) #[] [g1, g2, g3, g4].toArray)] 0), (4, .iref [.lst 1 ((nearB l (d - 1)).map duN)] 0), (7, .d (di (k + 1 : Nat))), (43, .is (.iref [di many] 0) g1), (44, .is (.ref 0 0) g2), (45, .is (.iref [.v (.func (.func f_impl_firstApart_1) #[] [g1, g2, g3, g4].toArray)] 0) g3), (46, .is (.iref [.lst 1 ((nearB l (d - 1)).map duN)] 0) g4), (47, .is (.iref (tzT.map dy) 0) (.pointer (some ⟨g_math_bits_deBruijn64tab, 0, none⟩)))], [some (.mix [.sl 1 0 c.length 1]), some (.dat 1 ((c ++ p.2).map di))]⟩)
      (fun p => p.1.Sublist (allW l) ∧ naX l d (k + 1) p.1 = res) (fun p => p.1.length) (X, []) ?_ ?_ ?_
    · simp -implicitDefEqProofs (maxSteps := 1000000) (disch := (first | omega | (simp only [go_sem] <;> omega) | fail)) only [go_sem, ints, bools, mat, List.append_nil]
    · exact ⟨hX, hres⟩
    · rintro ⟨Y, t⟩ ⟨h1, h2⟩ J hJ
      dsimp only at h1 h2 ⊢
      have hYl := wsN_lt h27 Y
      have hpop := d_OnesCount64_64 (wsN l Y) (by omega)
      rw [wsN_lenX h27 h1] at hpop
      have hYn := h1.length_le
      rw [allW_len] at hYn
      by_cases hlen : k + 1 ≤ Y.length
      · obtain ⟨w, Y', rfl⟩ : ∃ w Y', Y = w :: Y' := by
          cases Y with
          | nil => simp at hlen
          | cons w Y' => exact ⟨w, Y', rfl⟩
        have hlen2 : k + 1 ≤ Y'.length + 1 := hlen
        have hw := sub_rng h1 List.mem_cons_self
        have hpos := wsN_posX (l := l) hw (List.mem_cons_self (a := w) (l := Y'))
        have htz := d_TrailingZeros64 (wsN l (w :: Y')) hpos (by omega)
        rw [wsN_tz h27 h1] at htz
        have eN := nearB_get (l := l) (d - 1) hw
        have eo := andNot_b h27 (awy_ball hd1 h1)
        have eo2 := andNot_b h27 (tail_one h1)
        have hone : ((2 ^ w.toNat : Nat) : Int) = (wsN l [w] : Int) := by rw [wsN_one hw]
        have hs1 : Y'.Sublist (allW l) := (List.sublist_cons_self w Y').trans h1
        have hs2 : (awy l d w Y').Sublist (allW l) := List.filter_sublist.trans hs1
        have hden := ih (awy l d w Y') (c ++ [w]) g1 g2 g3 g4 (by simp; omega) hs2
        rw [naX_cons] at h2
        repeat' (first | simp -implicitDefEqProofs (maxSteps := 1000000) (disch := (first | omega | (simp only [go_sem] <;> omega) | fail)) only [go_sem, ints, bools, mat] | ((first | apply goIf_b | apply goG_b | apply goTG_b | apply goOG_b) <;> intro h <;> ((try simp only [Bool.not_eq_true', Bool.not_eq_false'] at h); (try simp only [h]); (try simp only [decide_eq_true_eq, decide_eq_false_iff_not, bne_iff_ne, bne_eq_false_iff_eq, beq_iff_eq, beq_eq_false_iff_ne, ne_eq, Int.not_lt, Int.not_le, Bool.and_eq_true, Bool.and_eq_false_iff, Bool.or_eq_true, Bool.or_eq_false_iff] at h)) <;> (try (exfalso; omega))))
        first | refine goC_call [.r] (hpop) ?_ | refine goOC_call [.r] (hpop) ?_
        repeat' (first | simp -implicitDefEqProofs (maxSteps := 1000000) (disch := (first | omega | (simp only [go_sem] <;> omega) | fail)) only [go_sem, ints, bools, mat] | ((first | apply goIf_b | apply goG_b | apply goTG_b | apply goOG_b) <;> intro h <;> ((try simp only [Bool.not_eq_true', Bool.not_eq_false'] at h); (try simp only [h]); (try simp only [decide_eq_true_eq, decide_eq_false_iff_not, bne_iff_ne, bne_eq_false_iff_eq, beq_iff_eq, beq_eq_false_iff_ne, ne_eq, Int.not_lt, Int.not_le, Bool.and_eq_true, Bool.and_eq_false_iff, Bool.or_eq_true, Bool.or_eq_false_iff] at h)) <;> (try (exfalso; omega))))
        refine goC_realZ [] [] [47] (by simp -implicitDefEqProofs (maxSteps := 1000000) (disch := (first | omega | (simp only [go_sem] <;> omega) | fail)) only [go_sem, ints, bools, mat]) fun ρ hρ => ?_
        refine goCG_call [.r, .i .b] htz ?_
        repeat' (first | simp -implicitDefEqProofs (maxSteps := 1000000) (disch := (first | omega | (simp only [go_sem] <;> omega) | fail)) only [go_sem, ints, bools, mat, eN, eo, List.take_left] | ((first | apply goIf_b | apply goG_b | apply goTG_b | apply goOG_b) <;> intro h <;> ((try simp only [Bool.not_eq_true', Bool.not_eq_false'] at h); (try simp only [h]); (try simp only [decide_eq_true_eq, decide_eq_false_iff_not, bne_iff_ne, bne_eq_false_iff_eq, beq_iff_eq, beq_eq_false_iff_ne, ne_eq, Int.not_lt, Int.not_le, Bool.and_eq_true, Bool.and_eq_false_iff, Bool.or_eq_true, Bool.or_eq_false_iff] at h)) <;> (try (exfalso; omega))))
        refine goOV_val f_impl_firstApart_1 [g1, g2, g3, g4] [43, 44, 45, 46] [47] rfl (by simp -implicitDefEqProofs (maxSteps := 1000000) (disch := (first | omega | (simp only [go_sem] <;> omega) | fail)) only [go_sem, ints, bools, mat]) ?_
        repeat' (first | simp -implicitDefEqProofs (maxSteps := 1000000) (disch := (first | omega | (simp only [go_sem] <;> omega) | fail)) only [go_sem, ints, bools, mat] | ((first | apply goIf_b | apply goG_b | apply goTG_b | apply goOG_b) <;> intro h <;> ((try simp only [Bool.not_eq_true', Bool.not_eq_false'] at h); (try simp only [h]); (try simp only [decide_eq_true_eq, decide_eq_false_iff_not, bne_iff_ne, bne_eq_false_iff_eq, beq_iff_eq, beq_eq_false_iff_ne, ne_eq, Int.not_lt, Int.not_le, Bool.and_eq_true, Bool.and_eq_false_iff, Bool.or_eq_true, Bool.or_eq_false_iff] at h)) <;> (try (exfalso; omega))))
        cases hsr : naX l d k (awy l d w Y') with
        | some L =>
          rw [hsr] at hden h2
          rw [srL, srB] at hden
          rw [← h2, naC, srL, srB, show c ++ w :: L = c ++ [w] ++ L by simp]
          refine goOCG_call [.r, .i .b, .i .bm, .i .b, .i .b, .i .b] hden ?_
          repeat' (first | simp -implicitDefEqProofs (maxSteps := 1000000) (disch := (first | omega | (simp only [go_sem] <;> omega) | fail)) only [go_sem, ints, bools, mat] | ((first | apply goIf_b | apply goG_b | apply goTG_b | apply goOG_b) <;> intro h <;> ((try simp only [Bool.not_eq_true', Bool.not_eq_false'] at h); (try simp only [h]); (try simp only [decide_eq_true_eq, decide_eq_false_iff_not, bne_iff_ne, bne_eq_false_iff_eq, beq_iff_eq, beq_eq_false_iff_ne, ne_eq, Int.not_lt, Int.not_le, Bool.and_eq_true, Bool.and_eq_false_iff, Bool.or_eq_true, Bool.or_eq_false_iff] at h)) <;> (try (exfalso; omega))))
        | none =>
          rw [hsr] at hden h2
          rw [srL, srB] at hden
          refine goOCG_call [.r, .i .b, .i .bm, .i .b, .i .b, .i .b] hden ?_
          repeat' (first | simp -implicitDefEqProofs (maxSteps := 1000000) (disch := (first | omega | (simp only [go_sem] <;> omega) | fail)) only [go_sem, ints, bools, mat, binA_shl_u, hone, eo2] | ((first | apply goIf_b | apply goG_b | apply goTG_b | apply goOG_b) <;> intro h <;> ((try simp only [Bool.not_eq_true', Bool.not_eq_false'] at h); (try simp only [h]); (try simp only [decide_eq_true_eq, decide_eq_false_iff_not, bne_iff_ne, bne_eq_false_iff_eq, beq_iff_eq, beq_eq_false_iff_ne, ne_eq, Int.not_lt, Int.not_le, Bool.and_eq_true, Bool.and_eq_false_iff, Bool.or_eq_true, Bool.or_eq_false_iff] at h)) <;> (try (exfalso; omega))))
          refine hJ (Y', [w]) ⟨hs1, h2⟩ (by simp) _ ?_
          simp -implicitDefEqProofs (maxSteps := 1000000) (disch := (first | omega | (simp only [go_sem] <;> omega) | fail)) only [go_sem, ints, bools, mat]
      · rw [naX_few (by omega)] at h2
        rw [← h2, srL, srB]
        repeat' (first | simp -implicitDefEqProofs (maxSteps := 1000000) (disch := (first | omega | (simp only [go_sem] <;> omega) | fail)) only [go_sem, ints, bools, mat] | ((first | apply goIf_b | apply goG_b | apply goTG_b | apply goOG_b) <;> intro h <;> ((try simp only [Bool.not_eq_true', Bool.not_eq_false'] at h); (try simp only [h]); (try simp only [decide_eq_true_eq, decide_eq_false_iff_not, bne_iff_ne, bne_eq_false_iff_eq, beq_iff_eq, beq_eq_false_iff_ne, ne_eq, Int.not_lt, Int.not_le, Bool.and_eq_true, Bool.and_eq_false_iff, Bool.or_eq_true, Bool.or_eq_false_iff] at h)) <;> (try (exfalso; omega))))
        first | refine goC_call [.r] (hpop) ?_ | refine goOC_call [.r] (hpop) ?_
        repeat' (first | simp -implicitDefEqProofs (maxSteps := 1000000) (disch := (first | omega | (simp only [go_sem] <;> omega) | fail)) only [go_sem, ints, bools, mat, leaS_pre, List.take_left] | ((first | apply goIf_b | apply goG_b | apply goTG_b | apply goOG_b) <;> intro h <;> ((try simp only [Bool.not_eq_true', Bool.not_eq_false'] at h); (try simp only [h]); (try simp only [decide_eq_true_eq, decide_eq_false_iff_not, bne_iff_ne, bne_eq_false_iff_eq, beq_iff_eq, beq_eq_false_iff_ne, ne_eq, Int.not_lt, Int.not_le, Bool.and_eq_true, Bool.and_eq_false_iff, Bool.or_eq_true, Bool.or_eq_false_iff] at h)) <;> (try (exfalso; omega))))
theorem mx_div {l : List Int} {d : Int} (hs : isSpaceM l = true) (hd : 1 ≤ d) : (mxX l d (allW l) : Int) ≤ divM l (d - 1).toNat := by
  rw [← bsX_len]
  obtain ⟨_, _, h3⟩ := naX_sound l d _ _ (allW l) _ (Nat.le_refl _) (naX_bs l d (allW l))
  exact apart_le hs (h3.imp fun {a b} h => by omega)
theorem naX_over {l X : List Int} {d : Int} {k : Nat} (h : mxX l d X < k) : naX l d k X = none := by
  cases hx : naX l d k X with
  | none => rfl
  | some L =>
    have h1 := (naX_ne l d _ k X (Nat.le_refl _)).1 (by rw [hx]; intro h; cases h)
    omega
theorem divM_bnd {l : List Int} (hs : isSpaceM l = true) (k : Nat) : 0 ≤ divM l k ∧ divM l k ≤ 65536 := by
  have hn := isSpaceM_n hs
  have hz := szs_perm (List.mergeSort_perm l (fun x y => decide (x ≤ y))) (isSpaceM_szs hs)
  have h1 := prodM_small (sortI l) (j := l.length - k) (by omega) (by rw [sortI_len]; omega) (fun i hi => hz i (by rw [sortI_len]; omega))
  unfold divM
  omega
theorem d_impl_firstApart (l : List Int) (hs : isSpaceM l = true) (h27 : prodM l ≤ 27) (d : Int) (hd1 : 1 ≤ d) (hd9 : d ≤ 9) : DenG PA f_impl_firstApart 2 [.d (.agg [ints l]), .d (di d), tabR] [.any, .any, .any] (.own 1 ((bsX l d (allW l)).map di)) := by
  have hp1 := prodM_pos (isSpaceM_szs hs)
  have hmn : (if 8 < d - 1 then 8 else d - 1) = d - 1 := if_neg (by omega)
  have hmx := mx_div hs hd1
  have hdb := divM_bnd hs (d - 1).toNat
  have hdv := d_impl_dividedBy l (d - 1).toNat hs (by omega)
  rw [Int.toNat_of_nonneg (show 0 ≤ d - 1 by omega)] at hdv
  have hall := wsN_all l
  have h2N : 2 ^ (prodM l).toNat = wsN l (allW l) + 1 := hall.symm
  have eall : ((wsN l (allW l) + 1 : Nat) : Int) - 1 = wsN l (allW l) := by omega
  have hwl := wsN_lt h27 (allW l)
  generalize divM l (d - 1).toNat = P at *
  obtain ⟨Q, rfl⟩ := Int.eq_ofNat_of_zero_le hdb.1
  refine den_goL [2] [(g_math_bits_deBruijn64tab, 2)] l_impl_firstApart (by simp) (fun q hq => by simp at hq; subst hq; exact ⟨_, rfl⟩) ?_
  repeat' (first | simp -implicitDefEqProofs (maxSteps := 1000000) (disch := (first | omega | (simp only [go_sem] <;> omega) | fail)) only [go_sem, ints, bools, mat, c_impl_firstApart, hmn, tabR, g_math_bits_deBruijn64tab] | ((first | apply goIf_b | apply goG_b | apply goTG_b | apply goOG_b) <;> intro h <;> ((try simp only [Bool.not_eq_true', Bool.not_eq_false'] at h); (try simp only [h]); (try simp only [decide_eq_true_eq, decide_eq_false_iff_not, bne_iff_ne, bne_eq_false_iff_eq, beq_iff_eq, beq_eq_false_iff_ne, ne_eq, Int.not_lt, Int.not_le, Bool.and_eq_true, Bool.and_eq_false_iff, Bool.or_eq_true, Bool.or_eq_false_iff] at h)) <;> (try (exfalso; omega))))
  first | refine goC_call [.r, .r] (d_impl_nearSets l hs h27 (d - 1)) ?_ | refine goOC_call [.r, .r] (d_impl_nearSets l hs h27 (d - 1)) ?_
  repeat' (first | simp -implicitDefEqProofs (maxSteps := 1000000) (disch := (first | omega | (simp only [go_sem] <;> omega) | fail)) only [go_sem, ints, bools, mat] | ((first | apply goIf_b | apply goG_b | apply goTG_b | apply goOG_b) <;> intro h <;> ((try simp only [Bool.not_eq_true', Bool.not_eq_false'] at h); (try simp only [h]); (try simp only [decide_eq_true_eq, decide_eq_false_iff_not, bne_iff_ne, bne_eq_false_iff_eq, beq_iff_eq, beq_eq_false_iff_ne, ne_eq, Int.not_lt, Int.not_le, Bool.and_eq_true, Bool.and_eq_false_iff, Bool.or_eq_true, Bool.or_eq_false_iff] at h)) <;> (try (exfalso; omega))))
  first | refine goC_call [.r, .r] (hdv) ?_ | refine goOC_call [.r, .r] (hdv) ?_
  repeat' (first | simp -implicitDefEqProofs (maxSteps := 1000000) (disch := (first | omega | (simp only [go_sem] <;> omega) | fail)) only [go_sem, ints, bools, mat] | ((first | apply goIf_b | apply goG_b | apply goTG_b | apply goOG_b) <;> intro h <;> ((try simp only [Bool.not_eq_true', Bool.not_eq_false'] at h); (try simp only [h]); (try simp only [decide_eq_true_eq, decide_eq_false_iff_not, bne_iff_ne, bne_eq_false_iff_eq, beq_iff_eq, beq_eq_false_iff_ne, ne_eq, Int.not_lt, Int.not_le, Bool.and_eq_true, Bool.and_eq_false_iff, Bool.or_eq_true, Bool.or_eq_false_iff] at h)) <;> (try (exfalso; omega))))
  refine go_loop (fun (p : Nat) => ⟨[(5, .ref 0 0), (6, .ref 1 0), (32, .is (.iref (tzT.map dy) 0) (.pointer (some ⟨g_math_bits_deBruijn64tab, 0, none⟩)))], [some (.mix [.sl 2 0 (prodM l).toNat 1]), some (.var [di p]), some (.dat 1 ((nearB l (d - 1)).map duN))]⟩) (fun p => mxX l d (allW l) ≤ p ∧ p ≤ Q) (fun p => p) Q ?_ ?_ ?_
  · simp -implicitDefEqProofs (maxSteps := 1000000) (disch := (first | omega | (simp only [go_sem] <;> omega) | fail)) only [go_sem, ints, bools, mat]
  · exact ⟨by omega, by omega⟩
  · rintro p ⟨h1, h2⟩ J hJ
    repeat' (first | simp -implicitDefEqProofs (maxSteps := 1000000) (disch := (first | omega | (simp only [go_sem] <;> omega) | fail)) only [go_sem, ints, bools, mat, binA_shl_u, Int.toNat_natCast, h2N, eall] | ((first | apply goIf_b | apply goG_b | apply goTG_b | apply goOG_b) <;> intro h <;> ((try simp only [Bool.not_eq_true', Bool.not_eq_false'] at h); (try simp only [h]); (try simp only [decide_eq_true_eq, decide_eq_false_iff_not, bne_iff_ne, bne_eq_false_iff_eq, beq_iff_eq, beq_eq_false_iff_ne, ne_eq, Int.not_lt, Int.not_le, Bool.and_eq_true, Bool.and_eq_false_iff, Bool.or_eq_true, Bool.or_eq_false_iff] at h)) <;> (try (exfalso; omega))))
    refine goOC_realZ [5] [] [32] (by simp -implicitDefEqProofs (maxSteps := 1000000) (disch := (first | omega | (simp only [go_sem] <;> omega) | fail)) only [go_sem, ints, bools, mat]) fun ρ hρ => ?_
    have hden := d_fapt l hs h27 d hd1 p (by omega) p (allW l) [] (ρ 1) (ρ 4) (ρ 5) (ρ 0) (by simp) (List.Sublist.refl _)
    repeat' (first | simp -implicitDefEqProofs (maxSteps := 1000000) (disch := (first | omega | (simp only [go_sem] <;> omega) | fail)) only [go_sem, ints, bools, mat] | ((first | apply goIf_b | apply goG_b | apply goTG_b | apply goOG_b) <;> intro h <;> ((try simp only [Bool.not_eq_true', Bool.not_eq_false'] at h); (try simp only [h]); (try simp only [decide_eq_true_eq, decide_eq_false_iff_not, bne_iff_ne, bne_eq_false_iff_eq, beq_iff_eq, beq_eq_false_iff_ne, ne_eq, Int.not_lt, Int.not_le, Bool.and_eq_true, Bool.and_eq_false_iff, Bool.or_eq_true, Bool.or_eq_false_iff] at h)) <;> (try (exfalso; omega))))
    by_cases he : mxX l d (allW l) = p
    · rw [← he, naX_bs, srL, srB, List.nil_append, he] at hden
      refine goOCG_call [.r, .i .b, .i .bm, .i .b, .i .b, .i .b] hden ?_
      repeat' (first | simp -implicitDefEqProofs (maxSteps := 1000000) (disch := (first | omega | (simp only [go_sem] <;> omega) | fail)) only [go_sem, ints, bools, mat] | ((first | apply goIf_b | apply goG_b | apply goTG_b | apply goOG_b) <;> intro h <;> ((try simp only [Bool.not_eq_true', Bool.not_eq_false'] at h); (try simp only [h]); (try simp only [decide_eq_true_eq, decide_eq_false_iff_not, bne_iff_ne, bne_eq_false_iff_eq, beq_iff_eq, beq_eq_false_iff_ne, ne_eq, Int.not_lt, Int.not_le, Bool.and_eq_true, Bool.and_eq_false_iff, Bool.or_eq_true, Bool.or_eq_false_iff] at h)) <;> (try (exfalso; omega))))
    · rw [naX_over (by omega), srL, srB] at hden
      refine goOCG_call [.r, .i .b, .i .bm, .i .b, .i .b, .i .b] hden ?_
      repeat' (first | simp -implicitDefEqProofs (maxSteps := 1000000) (disch := (first | omega | (simp only [go_sem] <;> omega) | fail)) only [go_sem, ints, bools, mat] | ((first | apply goIf_b | apply goG_b | apply goTG_b | apply goOG_b) <;> intro h <;> ((try simp only [Bool.not_eq_true', Bool.not_eq_false'] at h); (try simp only [h]); (try simp only [decide_eq_true_eq, decide_eq_false_iff_not, bne_iff_ne, bne_eq_false_iff_eq, beq_iff_eq, beq_eq_false_iff_ne, ne_eq, Int.not_lt, Int.not_le, Bool.and_eq_true, Bool.and_eq_false_iff, Bool.or_eq_true, Bool.or_eq_false_iff] at h)) <;> (try (exfalso; omega))))
      refine hJ (p - 1) ⟨by omega, by omega⟩ (by omega) _ ?_
      rw [show ((p - 1 : Nat) : Int) = (p : Int) - 1 by omega]
      simp -implicitDefEqProofs (maxSteps := 1000000) (disch := (first | omega | (simp only [go_sem] <;> omega) | fail)) only [go_sem, ints, bools, mat]
theorem mx_len {l : List Int} {d : Int} (hs : isSpaceM l = true) : (bsX l d (allW l)).length ≤ 1024 := by
  have hpr := isSpaceM_prod hs
  have := mxX_le l d _ (allW l) (Nat.le_refl _)
  rw [bsX_len]
  rw [allW_len] at this
  omega
abbrev gnR (l : List Int) (d : Int) : R := .tup [.d (di (if scE l d 2 9 = 0 then ((bsX l d (allW l)).length : Int) else 0)), .d (di (scE l d 2 9))]
theorem d_impl_GreatestNumber (l : List Int) (d : Int) (hl : l.length < 1048577) : DenG PA f_impl_GreatestNumber 2 [.d (.agg [ints l]), .d (di d), tabR] [.any, .any, .any] (gnR l d) := by
  refine den_goL [2] [(g_math_bits_deBruijn64tab, 2)] l_impl_GreatestNumber (by simp) (fun q hq => by simp at hq; subst hq; exact ⟨_, rfl⟩) ?_
  repeat' (first | simp -implicitDefEqProofs (maxSteps := 1000000) (disch := (first | omega | (simp only [go_sem] <;> omega) | fail)) only [go_sem, ints, bools, mat, c_impl_GreatestNumber, tabR, g_math_bits_deBruijn64tab] | ((first | apply goIf_b | apply goG_b | apply goTG_b | apply goOG_b) <;> intro h <;> ((try simp only [Bool.not_eq_true', Bool.not_eq_false'] at h); (try simp only [h]); (try simp only [decide_eq_true_eq, decide_eq_false_iff_not, bne_iff_ne, bne_eq_false_iff_eq, beq_iff_eq, beq_eq_false_iff_ne, ne_eq, Int.not_lt, Int.not_le, Bool.and_eq_true, Bool.and_eq_false_iff, Bool.or_eq_true, Bool.or_eq_false_iff] at h)) <;> (try (exfalso; omega))))
  first | refine goC_call [.r, .r, .r, .r] (d_impl_soughtCode l hl d 2 9) ?_ | refine goOC_call [.r, .r, .r, .r] (d_impl_soughtCode l hl d 2 9) ?_
  by_cases h : scE l d 2 9 = 0
  · obtain ⟨hs, hr, h27⟩ := scE_ok h
    have hfl := mx_len hs (d := d)
    have hfa := d_impl_firstApart l hs h27 d (by omega) (by omega)
    rw [gnR, if_pos h, h]
    repeat' (first | simp -implicitDefEqProofs (maxSteps := 1000000) (disch := (first | omega | (simp only [go_sem] <;> omega) | fail)) only [go_sem, ints, bools, mat] | ((first | apply goIf_b | apply goG_b | apply goTG_b | apply goOG_b) <;> intro h <;> ((try simp only [Bool.not_eq_true', Bool.not_eq_false'] at h); (try simp only [h]); (try simp only [decide_eq_true_eq, decide_eq_false_iff_not, bne_iff_ne, bne_eq_false_iff_eq, beq_iff_eq, beq_eq_false_iff_ne, ne_eq, Int.not_lt, Int.not_le, Bool.and_eq_true, Bool.and_eq_false_iff, Bool.or_eq_true, Bool.or_eq_false_iff] at h)) <;> (try (exfalso; omega))))
    refine goC_realZ [] [] [19] (by simp -implicitDefEqProofs (maxSteps := 1000000) (disch := (first | omega | (simp only [go_sem] <;> omega) | fail)) only [go_sem, ints, bools, mat]) fun ρ hρ => ?_
    refine goCG_call [.r, .r, .i .b] hfa ?_
    repeat' (first | simp -implicitDefEqProofs (maxSteps := 1000000) (disch := (first | omega | (simp only [go_sem] <;> omega) | fail)) only [go_sem, ints, bools, mat] | ((first | apply goIf_b | apply goG_b | apply goTG_b | apply goOG_b) <;> intro h <;> ((try simp only [Bool.not_eq_true', Bool.not_eq_false'] at h); (try simp only [h]); (try simp only [decide_eq_true_eq, decide_eq_false_iff_not, bne_iff_ne, bne_eq_false_iff_eq, beq_iff_eq, beq_eq_false_iff_ne, ne_eq, Int.not_lt, Int.not_le, Bool.and_eq_true, Bool.and_eq_false_iff, Bool.or_eq_true, Bool.or_eq_false_iff] at h)) <;> (try (exfalso; omega))))
  · rw [gnR, if_neg h]
    repeat' (first | simp -implicitDefEqProofs (maxSteps := 1000000) (disch := (first | omega | (simp only [go_sem] <;> omega) | fail)) only [go_sem, ints, bools, mat] | ((first | apply goIf_b | apply goG_b | apply goTG_b | apply goOG_b) <;> intro h <;> ((try simp only [Bool.not_eq_true', Bool.not_eq_false'] at h); (try simp only [h]); (try simp only [decide_eq_true_eq, decide_eq_false_iff_not, bne_iff_ne, bne_eq_false_iff_eq, beq_iff_eq, beq_eq_false_iff_ne, ne_eq, Int.not_lt, Int.not_le, Bool.and_eq_true, Bool.and_eq_false_iff, Bool.or_eq_true, Bool.or_eq_false_iff] at h)) <;> (try (exfalso; omega))))
theorem d_impl_FirstApart (l : List Int) (d : Int) (hl : l.length < 1048577) : DenG PA f_impl_FirstApart 2 [.d (.agg [ints l]), .d (di d), tabR] [.any, .any, .any] (lstR (scE l d 2 9) (bsX l d (allW l))) := by
  refine den_goL [2] [(g_math_bits_deBruijn64tab, 2)] l_impl_FirstApart (by simp) (fun q hq => by simp at hq; subst hq; exact ⟨_, rfl⟩) ?_
  repeat' (first | simp -implicitDefEqProofs (maxSteps := 1000000) (disch := (first | omega | (simp only [go_sem] <;> omega) | fail)) only [go_sem, ints, bools, mat, c_impl_FirstApart, tabR, g_math_bits_deBruijn64tab] | ((first | apply goIf_b | apply goG_b | apply goTG_b | apply goOG_b) <;> intro h <;> ((try simp only [Bool.not_eq_true', Bool.not_eq_false'] at h); (try simp only [h]); (try simp only [decide_eq_true_eq, decide_eq_false_iff_not, bne_iff_ne, bne_eq_false_iff_eq, beq_iff_eq, beq_eq_false_iff_ne, ne_eq, Int.not_lt, Int.not_le, Bool.and_eq_true, Bool.and_eq_false_iff, Bool.or_eq_true, Bool.or_eq_false_iff] at h)) <;> (try (exfalso; omega))))
  first | refine goC_call [.r, .r, .r, .r] (d_impl_soughtCode l hl d 2 9) ?_ | refine goOC_call [.r, .r, .r, .r] (d_impl_soughtCode l hl d 2 9) ?_
  by_cases h : scE l d 2 9 = 0
  · obtain ⟨hs, hr, h27⟩ := scE_ok h
    have hfa := d_impl_firstApart l hs h27 d (by omega) (by omega)
    rw [lstR_ok h, h]
    repeat' (first | simp -implicitDefEqProofs (maxSteps := 1000000) (disch := (first | omega | (simp only [go_sem] <;> omega) | fail)) only [go_sem, ints, bools, mat] | ((first | apply goIf_b | apply goG_b | apply goTG_b | apply goOG_b) <;> intro h <;> ((try simp only [Bool.not_eq_true', Bool.not_eq_false'] at h); (try simp only [h]); (try simp only [decide_eq_true_eq, decide_eq_false_iff_not, bne_iff_ne, bne_eq_false_iff_eq, beq_iff_eq, beq_eq_false_iff_ne, ne_eq, Int.not_lt, Int.not_le, Bool.and_eq_true, Bool.and_eq_false_iff, Bool.or_eq_true, Bool.or_eq_false_iff] at h)) <;> (try (exfalso; omega))))
    refine goC_realZ [] [] [18] (by simp -implicitDefEqProofs (maxSteps := 1000000) (disch := (first | omega | (simp only [go_sem] <;> omega) | fail)) only [go_sem, ints, bools, mat]) fun ρ hρ => ?_
    refine goCG_call [.r, .r, .i .b] hfa ?_
    repeat' (first | simp -implicitDefEqProofs (maxSteps := 1000000) (disch := (first | omega | (simp only [go_sem] <;> omega) | fail)) only [go_sem, ints, bools, mat] | ((first | apply goIf_b | apply goG_b | apply goTG_b | apply goOG_b) <;> intro h <;> ((try simp only [Bool.not_eq_true', Bool.not_eq_false'] at h); (try simp only [h]); (try simp only [decide_eq_true_eq, decide_eq_false_iff_not, bne_iff_ne, bne_eq_false_iff_eq, beq_iff_eq, beq_eq_false_iff_ne, ne_eq, Int.not_lt, Int.not_le, Bool.and_eq_true, Bool.and_eq_false_iff, Bool.or_eq_true, Bool.or_eq_false_iff] at h)) <;> (try (exfalso; omega))))
  · rw [lstR_no h]
    repeat' (first | simp -implicitDefEqProofs (maxSteps := 1000000) (disch := (first | omega | (simp only [go_sem] <;> omega) | fail)) only [go_sem, ints, bools, mat] | ((first | apply goIf_b | apply goG_b | apply goTG_b | apply goOG_b) <;> intro h <;> ((try simp only [Bool.not_eq_true', Bool.not_eq_false'] at h); (try simp only [h]); (try simp only [decide_eq_true_eq, decide_eq_false_iff_not, bne_iff_ne, bne_eq_false_iff_eq, beq_iff_eq, beq_eq_false_iff_ne, ne_eq, Int.not_lt, Int.not_le, Bool.and_eq_true, Bool.and_eq_false_iff, Bool.or_eq_true, Bool.or_eq_false_iff] at h)) <;> (try (exfalso; omega))))
def fnO (l : List Int) (d : Int) (c Y : List Int) (m : Nat) (b : Option (List Int)) : Option (List Int) := if m < c.length + mxX l d Y then some (c ++ bsX l d Y) else b
theorem fnO_hit {l : List Int} {d w : Int} {c Y : List Int} {m : Nat} {b : Option (List Int)} (h : m < c.length + 1 + mxX l d (awy l d w Y)) :
    fnO l d c (w :: Y) m b = fnO l d c Y (c.length + 1 + mxX l d (awy l d w Y)) (some (c ++ [w] ++ bsX l d (awy l d w Y))) := by
  unfold fnO
  rw [mxX_cons, if_pos (by omega), bsX_step]
  by_cases h1 : mxX l d Y ≤ 1 + mxX l d (awy l d w Y)
  · rw [if_pos h1, if_neg (by omega)]; simp
  · rw [if_neg h1, if_pos (by omega)]
theorem fnO_miss {l : List Int} {d w : Int} {c Y : List Int} {m : Nat} {b : Option (List Int)} (h : ¬ m < c.length + 1 + mxX l d (awy l d w Y)) : fnO l d c (w :: Y) m b = fnO l d c Y m b := by
  unfold fnO
  rw [mxX_cons]
  by_cases h1 : m < c.length + mxX l d Y
  · rw [if_pos h1, if_pos (by omega), bsX_step, if_neg (by omega)]
  · rw [if_neg h1, if_neg (by omega)]
theorem fnO_end {l : List Int} {d : Int} {c Y : List Int} {m : Nat} {b : Option (List Int)} (h : c.length + Y.length ≤ m) : fnO l d c Y m b = b := by
  have := mxX_le l d _ Y (Nat.le_refl _)
  unfold fnO
  rw [if_neg (by omega)]
theorem fnO_start {l : List Int} {d : Int} {c Y : List Int} {m : Nat} (h : m < c.length) : fnO l d c Y c.length (some c) = fnO l d c Y m none := by
  unfold fnO
  rw [if_pos (show m < c.length + mxX l d Y by omega)]
  by_cases h1 : c.length < c.length + mxX l d Y
  · rw [if_pos h1]
  · rw [if_neg h1, List.eq_nil_of_length_eq_zero (show (bsX l d Y).length = 0 by rw [bsX_len]; omega), List.append_nil]
theorem dropX {X : List Int} {i : Nat} (h : i < X.length) : X.drop i = X.getD i 0 :: X.drop (i + 1) := by
  rw [List.drop_eq_getElem_cons h, List.getD_eq_getElem?_getD, List.getElem?_eq_getElem h, Option.getD_some]
def grR : Option (List Int) → R
  | none => .tup [.d (ints []), .d (db false)]
  | some L => .tup [.d (ints L), .d (db true)]
def fstL : AC → Option AC
  | .seq a b => match fstL a with
    | some x => some x
    | none => fstL b
  | .block _ b => fstL b
  | .loop _ b => some b
  | _ => none
def lastSeq : AC → AC
  | .seq a .ret => .seq a .ret
  | .seq _ b => lastSeq b
  | x => x
def firstLoop (a : AC) : AC := (fstL a).getD .skip
def grI (l X c : List Int) (d : Int) : Nat × Nat × Option (List Int) → ASt
  | (i, m, none) => ⟨[(1, .d (ints c)), (2, .d (ints X)), (3, .d (di d)), (4, .d (di m)), (5, .ref 0 0), (12, .sl 1 0 0 1), (13, .d (db false)), (14, .d (di i))], [some (.var [ints l]), some (.dat 1 [])]⟩
  | (i, m, some b) => ⟨[(1, .d (ints c)), (2, .d (ints X)), (3, .d (di d)), (4, .d (di m)), (5, .ref 0 0), (12, .d (ints b)), (13, .d (db true)), (14, .d (di i))], [some (.var [ints l])]⟩
theorem awy_step {l Y : List Int} {d w x : Int} {N : List Int} {A : List Int} (h : N ++ awy l d w (x :: Y) = A) : (if d ≤ distM l w x then N ++ [x] else N) ++ awy l d w Y = A := by
  rw [← h, awy, awy, List.filter_cons]
  by_cases h1 : d ≤ distM l w x
  · rw [if_pos h1, if_pos (by simpa using h1)]; simp
  · rw [if_neg h1, if_neg (by simpa using h1)]
theorem d_spec_l04Grow (l : List Int) (hs : isSpaceM l = true) (d : Int) : ∀ (n : Nat) (X c : List Int) (m : Nat), X.length < n → (∀ w, w ∈ X → 0 ≤ w ∧ w < prodM l) → c.length + X.length ≤ 2000 → m ≤ 2000 →
    Den PA f_spec_l04Grow [.d (.agg [ints l]), .d (ints c), .d (ints X), .d (di d), .d (di m)] [.any, .any, .any, .any, .any] (grR (fnO l d c X m none)) := by
  have hp1 := prodM_pos (isSpaceM_szs hs)
  have hpr := isSpaceM_prod hs
  intro n
  induction n with
  | zero =>
    intro X c m hX hin hcl hm
    omega
  | succ n ih =>
    intro X c m hX hin hcl hm
    refine den_go [] l_spec_l04Grow ?_
    generalize hT : fnO l d c X m none = T
    let V : Nat × Nat × Option (List Int) → Prop := fun p => p.1 ≤ X.length ∧ c.length ≤ p.2.1 ∧ p.2.1 ≤ 2000 ∧ fnO l d c (X.drop p.1) p.2.1 p.2.2 = T
    let mu : Nat × Nat × Option (List Int) → Nat := fun p => X.length - p.1
    have hstep : ∀ p, V p → ∀ J : ASt → Prop, (∀ y, V y → mu y < mu p → ∀ st', norm [1, 2, 3, 4, 5, 12, 13, 14] st' = grI l X c d y → J st') → go PA (firstLoop c_spec_l04Grow.code) [.back J, .blk 0, .seq (lastSeq c_spec_l04Grow.code)] (grI l X c d p) (postF [.t 10, .t 11] 94 5 [] [.any, .any, .any, .any, .any] (grR T)) := by
      rintro ⟨i, m', b⟩ ⟨h1, h2, h3, h4⟩ J hJ
      dsimp only at h1 h2 h3 h4 ⊢
      have hdl : (X.drop i).length = X.length - i := List.length_drop
      by_cases hg : i < X.length ∧ m' < c.length + X.length - i
      · obtain ⟨hg1, hg2⟩ := hg
        rw [dropX hg1] at h4
        have hw := hin _ (getD_mem hg1)
        generalize hwe : X.getD i 0 = w at *
        have hAl := awy_len l d w (X.drop (i + 1))
        have hAi : ∀ u, u ∈ awy l d w (X.drop (i + 1)) → 0 ≤ u ∧ u < prodM l := fun u hu => hin u (List.mem_of_mem_drop ((List.mem_filter.1 hu).1))
        generalize hA : awy l d w (X.drop (i + 1)) = A at *
        rw [List.length_drop] at hAl
        have hden := ih A (c ++ [w]) m' (by omega) hAi (by simp; omega) h3
        have hxl : (c ++ [w] ++ bsX l d A).length = c.length + 1 + mxX l d A := by simp [bsX_len]; omega
        have hmA := mxX_le l d _ A (Nat.le_refl _)
        cases b with
        | none =>
          repeat' (first | simp -implicitDefEqProofs (maxSteps := 1000000) (disch := (first | omega | (simp only [go_sem] <;> omega) | fail)) only [go_sem, ints, bools, mat, c_spec_l04Grow, firstLoop, fstL, grI, lastSeq] | ((first | apply goIf_b | apply goG_b | apply goTG_b | apply goOG_b) <;> intro h <;> ((try simp only [Bool.not_eq_true', Bool.not_eq_false'] at h); (try simp only [h]); (try simp only [decide_eq_true_eq, decide_eq_false_iff_not, bne_iff_ne, bne_eq_false_iff_eq, beq_iff_eq, beq_eq_false_iff_ne, ne_eq, Int.not_lt, Int.not_le, Bool.and_eq_true, Bool.and_eq_false_iff, Bool.or_eq_true, Bool.or_eq_false_iff] at h)) <;> (try (exfalso; omega))))
          refine go_loop (fun (p : Nat × List Int) => ⟨[(1, .d (ints c)), (2, .d (ints X)), (3, .d (di d)), (4, .d (di m')), (5, .ref 0 0), (12, .sl 1 0 0 1), (13, .d (db false)), (14, .d (di i)), (15, .sl 2 0 p.2.length 1), (16, .d (di p.1))], [some (.var [ints l]), some (.dat 1 []), some (.dat 1 (p.2.map di))]⟩)
            (fun p => i + 1 ≤ p.1 ∧ p.1 ≤ X.length ∧ p.2 ++ awy l d w (X.drop p.1) = A) (fun p => X.length - p.1) (i + 1, []) ?_ ?_ ?_
          · simp -implicitDefEqProofs (maxSteps := 1000000) (disch := (first | omega | (simp only [go_sem] <;> omega) | fail)) only [go_sem, ints, bools, mat]
            all_goals rfl
          · exact ⟨Nat.le_refl _, hg1, hA⟩
          · rintro ⟨k, N⟩ ⟨k1, k2, k3⟩ J2 hJ2
            dsimp only at k1 k2 k3 ⊢
            have hNl : N.length ≤ 2000 := by
              have := congrArg List.length k3
              rw [List.length_append] at this
              omega
            by_cases hk : k < X.length
            · rw [dropX hk] at k3
              have hx := hin _ (getD_mem hk)
              have hs3 := awy_step k3
              generalize hxe : X.getD k 0 = x at *
              have hdist := d_spec_l01Distance l hs w x (by omega) (by omega) (by omega) (by omega)
              by_cases hdx : d ≤ distM l w x
              · rw [if_pos hdx] at hs3
                repeat' (first | simp -implicitDefEqProofs (maxSteps := 1000000) (disch := (first | omega | (simp only [go_sem] <;> omega) | fail)) only [go_sem, ints, bools, mat, hwe, hxe] | ((first | apply goIf_b | apply goG_b | apply goTG_b | apply goOG_b) <;> intro h <;> ((try simp only [Bool.not_eq_true', Bool.not_eq_false'] at h); (try simp only [h]); (try simp only [decide_eq_true_eq, decide_eq_false_iff_not, bne_iff_ne, bne_eq_false_iff_eq, beq_iff_eq, beq_eq_false_iff_ne, ne_eq, Int.not_lt, Int.not_le, Bool.and_eq_true, Bool.and_eq_false_iff, Bool.or_eq_true, Bool.or_eq_false_iff] at h)) <;> (try (exfalso; omega))))
                first | refine goC_call [.r, .r, .r] (hdist) ?_ | refine goOC_call [.r, .r, .r] (hdist) ?_
                repeat' (first | simp -implicitDefEqProofs (maxSteps := 1000000) (disch := (first | omega | (simp only [go_sem] <;> omega) | fail)) only [go_sem, ints, bools, mat, hxe] | ((first | apply goIf_b | apply goG_b | apply goTG_b | apply goOG_b) <;> intro h <;> ((try simp only [Bool.not_eq_true', Bool.not_eq_false'] at h); (try simp only [h]); (try simp only [decide_eq_true_eq, decide_eq_false_iff_not, bne_iff_ne, bne_eq_false_iff_eq, beq_iff_eq, beq_eq_false_iff_ne, ne_eq, Int.not_lt, Int.not_le, Bool.and_eq_true, Bool.and_eq_false_iff, Bool.or_eq_true, Bool.or_eq_false_iff] at h)) <;> (try (exfalso; omega))))
                refine hJ2 (k + 1, N ++ [x]) ⟨by dsimp only; omega, hk, hs3⟩ (by dsimp only; omega) _ ?_
                simp -implicitDefEqProofs (maxSteps := 1000000) (disch := (first | omega | (simp only [go_sem] <;> omega) | fail)) only [go_sem, ints, bools, mat]
                all_goals rfl
              · rw [if_neg hdx] at hs3
                repeat' (first | simp -implicitDefEqProofs (maxSteps := 1000000) (disch := (first | omega | (simp only [go_sem] <;> omega) | fail)) only [go_sem, ints, bools, mat, hwe, hxe] | ((first | apply goIf_b | apply goG_b | apply goTG_b | apply goOG_b) <;> intro h <;> ((try simp only [Bool.not_eq_true', Bool.not_eq_false'] at h); (try simp only [h]); (try simp only [decide_eq_true_eq, decide_eq_false_iff_not, bne_iff_ne, bne_eq_false_iff_eq, beq_iff_eq, beq_eq_false_iff_ne, ne_eq, Int.not_lt, Int.not_le, Bool.and_eq_true, Bool.and_eq_false_iff, Bool.or_eq_true, Bool.or_eq_false_iff] at h)) <;> (try (exfalso; omega))))
                first | refine goC_call [.r, .r, .r] (hdist) ?_ | refine goOC_call [.r, .r, .r] (hdist) ?_
                repeat' (first | simp -implicitDefEqProofs (maxSteps := 1000000) (disch := (first | omega | (simp only [go_sem] <;> omega) | fail)) only [go_sem, ints, bools, mat] | ((first | apply goIf_b | apply goG_b | apply goTG_b | apply goOG_b) <;> intro h <;> ((try simp only [Bool.not_eq_true', Bool.not_eq_false'] at h); (try simp only [h]); (try simp only [decide_eq_true_eq, decide_eq_false_iff_not, bne_iff_ne, bne_eq_false_iff_eq, beq_iff_eq, beq_eq_false_iff_ne, ne_eq, Int.not_lt, Int.not_le, Bool.and_eq_true, Bool.and_eq_false_iff, Bool.or_eq_true, Bool.or_eq_false_iff] at h)) <;> (try (exfalso; omega))))
                refine hJ2 (k + 1, N) ⟨by dsimp only; omega, hk, hs3⟩ (by dsimp only; omega) _ ?_
                simp -implicitDefEqProofs (maxSteps := 1000000) (disch := (first | omega | (simp only [go_sem] <;> omega) | fail)) only [go_sem, ints, bools, mat]
                all_goals rfl
            · rw [List.drop_eq_nil_of_le (by omega), awy, List.filter_nil, List.append_nil] at k3
              subst k3
              have hke : k = X.length := by omega
              by_cases hh : m' < c.length + 1 + mxX l d N
              · rw [fnO, List.length_append, List.length_singleton, if_pos hh, grR] at hden
                rw [← hA] at hh
                rw [fnO_hit hh, hA, ← hxl] at h4
                repeat' (first | simp -implicitDefEqProofs (maxSteps := 1000000) (disch := (first | omega | (simp only [go_sem] <;> omega) | fail)) only [go_sem, ints, bools, mat] | ((first | apply goIf_b | apply goG_b | apply goTG_b | apply goOG_b) <;> intro h <;> ((try simp only [Bool.not_eq_true', Bool.not_eq_false'] at h); (try simp only [h]); (try simp only [decide_eq_true_eq, decide_eq_false_iff_not, bne_iff_ne, bne_eq_false_iff_eq, beq_iff_eq, beq_eq_false_iff_ne, ne_eq, Int.not_lt, Int.not_le, Bool.and_eq_true, Bool.and_eq_false_iff, Bool.or_eq_true, Bool.or_eq_false_iff] at h)) <;> (try (exfalso; omega))))
                rw [goS_two]
                refine ⟨?_, ?_⟩
                · repeat' (first | simp -implicitDefEqProofs (maxSteps := 1000000) (disch := (first | omega | (simp only [go_sem] <;> omega) | fail)) only [go_sem, ints, bools, mat] | ((first | apply goIf_b | apply goG_b | apply goTG_b | apply goOG_b) <;> intro h <;> ((try simp only [Bool.not_eq_true', Bool.not_eq_false'] at h); (try simp only [h]); (try simp only [decide_eq_true_eq, decide_eq_false_iff_not, bne_iff_ne, bne_eq_false_iff_eq, beq_iff_eq, beq_eq_false_iff_ne, ne_eq, Int.not_lt, Int.not_le, Bool.and_eq_true, Bool.and_eq_false_iff, Bool.or_eq_true, Bool.or_eq_false_iff] at h)) <;> (try (exfalso; omega))))
                  first | refine goC_call [.r] (d_spec_l01Own c (by omega)) ?_ | refine goOC_call [.r] (d_spec_l01Own c (by omega)) ?_
                  repeat' (first | simp -implicitDefEqProofs (maxSteps := 1000000) (disch := (first | omega | (simp only [go_sem] <;> omega) | fail)) only [go_sem, ints, bools, mat, hwe] | ((first | apply goIf_b | apply goG_b | apply goTG_b | apply goOG_b) <;> intro h <;> ((try simp only [Bool.not_eq_true', Bool.not_eq_false'] at h); (try simp only [h]); (try simp only [decide_eq_true_eq, decide_eq_false_iff_not, bne_iff_ne, bne_eq_false_iff_eq, beq_iff_eq, beq_eq_false_iff_ne, ne_eq, Int.not_lt, Int.not_le, Bool.and_eq_true, Bool.and_eq_false_iff, Bool.or_eq_true, Bool.or_eq_false_iff] at h)) <;> (try (exfalso; omega))))
                  first | refine goC_call [.r, .f, .f, .r, .r] (hden) ?_ | refine goOC_call [.r, .f, .f, .r, .r] (hden) ?_
                  repeat' (first | simp -implicitDefEqProofs (maxSteps := 1000000) (disch := (first | omega | (simp only [go_sem] <;> omega) | fail)) only [go_sem, ints, bools, mat] | ((first | apply goIf_b | apply goG_b | apply goTG_b | apply goOG_b) <;> intro h <;> ((try simp only [Bool.not_eq_true', Bool.not_eq_false'] at h); (try simp only [h]); (try simp only [decide_eq_true_eq, decide_eq_false_iff_not, bne_iff_ne, bne_eq_false_iff_eq, beq_iff_eq, beq_eq_false_iff_ne, ne_eq, Int.not_lt, Int.not_le, Bool.and_eq_true, Bool.and_eq_false_iff, Bool.or_eq_true, Bool.or_eq_false_iff] at h)) <;> (try (exfalso; omega))))
                  refine hJ (i + 1, (c ++ [w] ++ bsX l d N).length, some (c ++ [w] ++ bsX l d N)) ⟨hg1, by dsimp only; omega, by dsimp only; omega, h4⟩ (by dsimp only [mu]; omega) _ ?_
                  simp -implicitDefEqProofs (maxSteps := 1000000) (disch := (first | omega | (simp only [go_sem] <;> omega) | fail)) only [go_sem, ints, bools, mat, grI]
                  all_goals rfl
                · repeat' (first | simp -implicitDefEqProofs (maxSteps := 1000000) (disch := (first | omega | (simp only [go_sem] <;> omega) | fail)) only [go_sem, ints, bools, mat] | ((first | apply goIf_b | apply goG_b | apply goTG_b | apply goOG_b) <;> intro h <;> ((try simp only [Bool.not_eq_true', Bool.not_eq_false'] at h); (try simp only [h]); (try simp only [decide_eq_true_eq, decide_eq_false_iff_not, bne_iff_ne, bne_eq_false_iff_eq, beq_iff_eq, beq_eq_false_iff_ne, ne_eq, Int.not_lt, Int.not_le, Bool.and_eq_true, Bool.and_eq_false_iff, Bool.or_eq_true, Bool.or_eq_false_iff] at h)) <;> (try (exfalso; omega))))
                  first | refine goC_call [.r] (d_spec_l01Own c (by omega)) ?_ | refine goOC_call [.r] (d_spec_l01Own c (by omega)) ?_
                  repeat' (first | simp -implicitDefEqProofs (maxSteps := 1000000) (disch := (first | omega | (simp only [go_sem] <;> omega) | fail)) only [go_sem, ints, bools, mat, hwe] | ((first | apply goIf_b | apply goG_b | apply goTG_b | apply goOG_b) <;> intro h <;> ((try simp only [Bool.not_eq_true', Bool.not_eq_false'] at h); (try simp only [h]); (try simp only [decide_eq_true_eq, decide_eq_false_iff_not, bne_iff_ne, bne_eq_false_iff_eq, beq_iff_eq, beq_eq_false_iff_ne, ne_eq, Int.not_lt, Int.not_le, Bool.and_eq_true, Bool.and_eq_false_iff, Bool.or_eq_true, Bool.or_eq_false_iff] at h)) <;> (try (exfalso; omega))))
                  first | refine goC_call [.r, .f, .f, .r, .r] (hden) ?_ | refine goOC_call [.r, .f, .f, .r, .r] (hden) ?_
                  repeat' (first | simp -implicitDefEqProofs (maxSteps := 1000000) (disch := (first | omega | (simp only [go_sem] <;> omega) | fail)) only [go_sem, ints, bools, mat] | ((first | apply goIf_b | apply goG_b | apply goTG_b | apply goOG_b) <;> intro h <;> ((try simp only [Bool.not_eq_true', Bool.not_eq_false'] at h); (try simp only [h]); (try simp only [decide_eq_true_eq, decide_eq_false_iff_not, bne_iff_ne, bne_eq_false_iff_eq, beq_iff_eq, beq_eq_false_iff_ne, ne_eq, Int.not_lt, Int.not_le, Bool.and_eq_true, Bool.and_eq_false_iff, Bool.or_eq_true, Bool.or_eq_false_iff] at h)) <;> (try (exfalso; omega))))
                  refine hJ (i + 1, (c ++ [w] ++ bsX l d N).length, some (c ++ [w] ++ bsX l d N)) ⟨hg1, by dsimp only; omega, by dsimp only; omega, h4⟩ (by dsimp only [mu]; omega) _ ?_
                  simp -implicitDefEqProofs (maxSteps := 1000000) (disch := (first | omega | (simp only [go_sem] <;> omega) | fail)) only [go_sem, ints, bools, mat, grI]
                  all_goals rfl
              · rw [fnO, List.length_append, List.length_singleton, if_neg hh, grR] at hden
                rw [← hA] at hh
                rw [fnO_miss hh] at h4
                repeat' (first | simp -implicitDefEqProofs (maxSteps := 1000000) (disch := (first | omega | (simp only [go_sem] <;> omega) | fail)) only [go_sem, ints, bools, mat] | ((first | apply goIf_b | apply goG_b | apply goTG_b | apply goOG_b) <;> intro h <;> ((try simp only [Bool.not_eq_true', Bool.not_eq_false'] at h); (try simp only [h]); (try simp only [decide_eq_true_eq, decide_eq_false_iff_not, bne_iff_ne, bne_eq_false_iff_eq, beq_iff_eq, beq_eq_false_iff_ne, ne_eq, Int.not_lt, Int.not_le, Bool.and_eq_true, Bool.and_eq_false_iff, Bool.or_eq_true, Bool.or_eq_false_iff] at h)) <;> (try (exfalso; omega))))
                rw [goS_two]
                refine ⟨?_, ?_⟩
                · repeat' (first | simp -implicitDefEqProofs (maxSteps := 1000000) (disch := (first | omega | (simp only [go_sem] <;> omega) | fail)) only [go_sem, ints, bools, mat] | ((first | apply goIf_b | apply goG_b | apply goTG_b | apply goOG_b) <;> intro h <;> ((try simp only [Bool.not_eq_true', Bool.not_eq_false'] at h); (try simp only [h]); (try simp only [decide_eq_true_eq, decide_eq_false_iff_not, bne_iff_ne, bne_eq_false_iff_eq, beq_iff_eq, beq_eq_false_iff_ne, ne_eq, Int.not_lt, Int.not_le, Bool.and_eq_true, Bool.and_eq_false_iff, Bool.or_eq_true, Bool.or_eq_false_iff] at h)) <;> (try (exfalso; omega))))
                  first | refine goC_call [.r] (d_spec_l01Own c (by omega)) ?_ | refine goOC_call [.r] (d_spec_l01Own c (by omega)) ?_
                  repeat' (first | simp -implicitDefEqProofs (maxSteps := 1000000) (disch := (first | omega | (simp only [go_sem] <;> omega) | fail)) only [go_sem, ints, bools, mat, hwe] | ((first | apply goIf_b | apply goG_b | apply goTG_b | apply goOG_b) <;> intro h <;> ((try simp only [Bool.not_eq_true', Bool.not_eq_false'] at h); (try simp only [h]); (try simp only [decide_eq_true_eq, decide_eq_false_iff_not, bne_iff_ne, bne_eq_false_iff_eq, beq_iff_eq, beq_eq_false_iff_ne, ne_eq, Int.not_lt, Int.not_le, Bool.and_eq_true, Bool.and_eq_false_iff, Bool.or_eq_true, Bool.or_eq_false_iff] at h)) <;> (try (exfalso; omega))))
                  first | refine goC_call [.r, .f, .f, .r, .r] (hden) ?_ | refine goOC_call [.r, .f, .f, .r, .r] (hden) ?_
                  repeat' (first | simp -implicitDefEqProofs (maxSteps := 1000000) (disch := (first | omega | (simp only [go_sem] <;> omega) | fail)) only [go_sem, ints, bools, mat] | ((first | apply goIf_b | apply goG_b | apply goTG_b | apply goOG_b) <;> intro h <;> ((try simp only [Bool.not_eq_true', Bool.not_eq_false'] at h); (try simp only [h]); (try simp only [decide_eq_true_eq, decide_eq_false_iff_not, bne_iff_ne, bne_eq_false_iff_eq, beq_iff_eq, beq_eq_false_iff_ne, ne_eq, Int.not_lt, Int.not_le, Bool.and_eq_true, Bool.and_eq_false_iff, Bool.or_eq_true, Bool.or_eq_false_iff] at h)) <;> (try (exfalso; omega))))
                  refine hJ (i + 1, m', none) ⟨hg1, h2, h3, h4⟩ (by dsimp only [mu]; omega) _ ?_
                  simp -implicitDefEqProofs (maxSteps := 1000000) (disch := (first | omega | (simp only [go_sem] <;> omega) | fail)) only [go_sem, ints, bools, mat, grI]
                  all_goals rfl
                · repeat' (first | simp -implicitDefEqProofs (maxSteps := 1000000) (disch := (first | omega | (simp only [go_sem] <;> omega) | fail)) only [go_sem, ints, bools, mat] | ((first | apply goIf_b | apply goG_b | apply goTG_b | apply goOG_b) <;> intro h <;> ((try simp only [Bool.not_eq_true', Bool.not_eq_false'] at h); (try simp only [h]); (try simp only [decide_eq_true_eq, decide_eq_false_iff_not, bne_iff_ne, bne_eq_false_iff_eq, beq_iff_eq, beq_eq_false_iff_ne, ne_eq, Int.not_lt, Int.not_le, Bool.and_eq_true, Bool.and_eq_false_iff, Bool.or_eq_true, Bool.or_eq_false_iff] at h)) <;> (try (exfalso; omega))))
                  first | refine goC_call [.r] (d_spec_l01Own c (by omega)) ?_ | refine goOC_call [.r] (d_spec_l01Own c (by omega)) ?_
                  repeat' (first | simp -implicitDefEqProofs (maxSteps := 1000000) (disch := (first | omega | (simp only [go_sem] <;> omega) | fail)) only [go_sem, ints, bools, mat, hwe] | ((first | apply goIf_b | apply goG_b | apply goTG_b | apply goOG_b) <;> intro h <;> ((try simp only [Bool.not_eq_true', Bool.not_eq_false'] at h); (try simp only [h]); (try simp only [decide_eq_true_eq, decide_eq_false_iff_not, bne_iff_ne, bne_eq_false_iff_eq, beq_iff_eq, beq_eq_false_iff_ne, ne_eq, Int.not_lt, Int.not_le, Bool.and_eq_true, Bool.and_eq_false_iff, Bool.or_eq_true, Bool.or_eq_false_iff] at h)) <;> (try (exfalso; omega))))
                  first | refine goC_call [.r, .f, .f, .r, .r] (hden) ?_ | refine goOC_call [.r, .f, .f, .r, .r] (hden) ?_
                  repeat' (first | simp -implicitDefEqProofs (maxSteps := 1000000) (disch := (first | omega | (simp only [go_sem] <;> omega) | fail)) only [go_sem, ints, bools, mat] | ((first | apply goIf_b | apply goG_b | apply goTG_b | apply goOG_b) <;> intro h <;> ((try simp only [Bool.not_eq_true', Bool.not_eq_false'] at h); (try simp only [h]); (try simp only [decide_eq_true_eq, decide_eq_false_iff_not, bne_iff_ne, bne_eq_false_iff_eq, beq_iff_eq, beq_eq_false_iff_ne, ne_eq, Int.not_lt, Int.not_le, Bool.and_eq_true, Bool.and_eq_false_iff, Bool.or_eq_true, Bool.or_eq_false_iff] at h)) <;> (try (exfalso; omega))))
                  refine hJ (i + 1, m', none) ⟨hg1, h2, h3, h4⟩ (by dsimp only [mu]; omega) _ ?_
                  simp -implicitDefEqProofs (maxSteps := 1000000) (disch := (first | omega | (simp only [go_sem] <;> omega) | fail)) only [go_sem, ints, bools, mat, grI]
                  all_goals rfl
        | some b =>
          repeat' (first | simp -implicitDefEqProofs (maxSteps := 1000000) (disch := (first | omega | (simp only [go_sem] <;> omega) | fail)) only [go_sem, ints, bools, mat, c_spec_l04Grow, firstLoop, fstL, grI, lastSeq] | ((first | apply goIf_b | apply goG_b | apply goTG_b | apply goOG_b) <;> intro h <;> ((try simp only [Bool.not_eq_true', Bool.not_eq_false'] at h); (try simp only [h]); (try simp only [decide_eq_true_eq, decide_eq_false_iff_not, bne_iff_ne, bne_eq_false_iff_eq, beq_iff_eq, beq_eq_false_iff_ne, ne_eq, Int.not_lt, Int.not_le, Bool.and_eq_true, Bool.and_eq_false_iff, Bool.or_eq_true, Bool.or_eq_false_iff] at h)) <;> (try (exfalso; omega))))
          refine go_loop (fun (p : Nat × List Int) => ⟨[(1, .d (ints c)), (2, .d (ints X)), (3, .d (di d)), (4, .d (di m')), (5, .ref 0 0), (12, .d (ints b)), (13, .d (db true)), (14, .d (di i)), (15, .sl 1 0 p.2.length 1), (16, .d (di p.1))], [some (.var [ints l]), some (.dat 1 (p.2.map di))]⟩)
            (fun p => i + 1 ≤ p.1 ∧ p.1 ≤ X.length ∧ p.2 ++ awy l d w (X.drop p.1) = A) (fun p => X.length - p.1) (i + 1, []) ?_ ?_ ?_
          · simp -implicitDefEqProofs (maxSteps := 1000000) (disch := (first | omega | (simp only [go_sem] <;> omega) | fail)) only [go_sem, ints, bools, mat]
            all_goals rfl
          · exact ⟨Nat.le_refl _, hg1, hA⟩
          · rintro ⟨k, N⟩ ⟨k1, k2, k3⟩ J2 hJ2
            dsimp only at k1 k2 k3 ⊢
            have hNl : N.length ≤ 2000 := by
              have := congrArg List.length k3
              rw [List.length_append] at this
              omega
            by_cases hk : k < X.length
            · rw [dropX hk] at k3
              have hx := hin _ (getD_mem hk)
              have hs3 := awy_step k3
              generalize hxe : X.getD k 0 = x at *
              have hdist := d_spec_l01Distance l hs w x (by omega) (by omega) (by omega) (by omega)
              by_cases hdx : d ≤ distM l w x
              · rw [if_pos hdx] at hs3
                repeat' (first | simp -implicitDefEqProofs (maxSteps := 1000000) (disch := (first | omega | (simp only [go_sem] <;> omega) | fail)) only [go_sem, ints, bools, mat, hwe, hxe] | ((first | apply goIf_b | apply goG_b | apply goTG_b | apply goOG_b) <;> intro h <;> ((try simp only [Bool.not_eq_true', Bool.not_eq_false'] at h); (try simp only [h]); (try simp only [decide_eq_true_eq, decide_eq_false_iff_not, bne_iff_ne, bne_eq_false_iff_eq, beq_iff_eq, beq_eq_false_iff_ne, ne_eq, Int.not_lt, Int.not_le, Bool.and_eq_true, Bool.and_eq_false_iff, Bool.or_eq_true, Bool.or_eq_false_iff] at h)) <;> (try (exfalso; omega))))
                first | refine goC_call [.r, .r, .r] (hdist) ?_ | refine goOC_call [.r, .r, .r] (hdist) ?_
                repeat' (first | simp -implicitDefEqProofs (maxSteps := 1000000) (disch := (first | omega | (simp only [go_sem] <;> omega) | fail)) only [go_sem, ints, bools, mat, hxe] | ((first | apply goIf_b | apply goG_b | apply goTG_b | apply goOG_b) <;> intro h <;> ((try simp only [Bool.not_eq_true', Bool.not_eq_false'] at h); (try simp only [h]); (try simp only [decide_eq_true_eq, decide_eq_false_iff_not, bne_iff_ne, bne_eq_false_iff_eq, beq_iff_eq, beq_eq_false_iff_ne, ne_eq, Int.not_lt, Int.not_le, Bool.and_eq_true, Bool.and_eq_false_iff, Bool.or_eq_true, Bool.or_eq_false_iff] at h)) <;> (try (exfalso; omega))))
                refine hJ2 (k + 1, N ++ [x]) ⟨by dsimp only; omega, hk, hs3⟩ (by dsimp only; omega) _ ?_
                simp -implicitDefEqProofs (maxSteps := 1000000) (disch := (first | omega | (simp only [go_sem] <;> omega) | fail)) only [go_sem, ints, bools, mat]
                all_goals rfl
              · rw [if_neg hdx] at hs3
                repeat' (first | simp -implicitDefEqProofs (maxSteps := 1000000) (disch := (first | omega | (simp only [go_sem] <;> omega) | fail)) only [go_sem, ints, bools, mat, hwe, hxe] | ((first | apply goIf_b | apply goG_b | apply goTG_b | apply goOG_b) <;> intro h <;> ((try simp only [Bool.not_eq_true', Bool.not_eq_false'] at h); (try simp only [h]); (try simp only [decide_eq_true_eq, decide_eq_false_iff_not, bne_iff_ne, bne_eq_false_iff_eq, beq_iff_eq, beq_eq_false_iff_ne, ne_eq, Int.not_lt, Int.not_le, Bool.and_eq_true, Bool.and_eq_false_iff, Bool.or_eq_true, Bool.or_eq_false_iff] at h)) <;> (try (exfalso; omega))))
                first | refine goC_call [.r, .r, .r] (hdist) ?_ | refine goOC_call [.r, .r, .r] (hdist) ?_
                repeat' (first | simp -implicitDefEqProofs (maxSteps := 1000000) (disch := (first | omega | (simp only [go_sem] <;> omega) | fail)) only [go_sem, ints, bools, mat] | ((first | apply goIf_b | apply goG_b | apply goTG_b | apply goOG_b) <;> intro h <;> ((try simp only [Bool.not_eq_true', Bool.not_eq_false'] at h); (try simp only [h]); (try simp only [decide_eq_true_eq, decide_eq_false_iff_not, bne_iff_ne, bne_eq_false_iff_eq, beq_iff_eq, beq_eq_false_iff_ne, ne_eq, Int.not_lt, Int.not_le, Bool.and_eq_true, Bool.and_eq_false_iff, Bool.or_eq_true, Bool.or_eq_false_iff] at h)) <;> (try (exfalso; omega))))
                refine hJ2 (k + 1, N) ⟨by dsimp only; omega, hk, hs3⟩ (by dsimp only; omega) _ ?_
                simp -implicitDefEqProofs (maxSteps := 1000000) (disch := (first | omega | (simp only [go_sem] <;> omega) | fail)) only [go_sem, ints, bools, mat]
                all_goals rfl
            · rw [List.drop_eq_nil_of_le (by omega), awy, List.filter_nil, List.append_nil] at k3
              subst k3
              have hke : k = X.length := by omega
              by_cases hh : m' < c.length + 1 + mxX l d N
              · rw [fnO, List.length_append, List.length_singleton, if_pos hh, grR] at hden
                rw [← hA] at hh
                rw [fnO_hit hh, hA, ← hxl] at h4
                repeat' (first | simp -implicitDefEqProofs (maxSteps := 1000000) (disch := (first | omega | (simp only [go_sem] <;> omega) | fail)) only [go_sem, ints, bools, mat] | ((first | apply goIf_b | apply goG_b | apply goTG_b | apply goOG_b) <;> intro h <;> ((try simp only [Bool.not_eq_true', Bool.not_eq_false'] at h); (try simp only [h]); (try simp only [decide_eq_true_eq, decide_eq_false_iff_not, bne_iff_ne, bne_eq_false_iff_eq, beq_iff_eq, beq_eq_false_iff_ne, ne_eq, Int.not_lt, Int.not_le, Bool.and_eq_true, Bool.and_eq_false_iff, Bool.or_eq_true, Bool.or_eq_false_iff] at h)) <;> (try (exfalso; omega))))
                rw [goS_two]
                refine ⟨?_, ?_⟩
                · repeat' (first | simp -implicitDefEqProofs (maxSteps := 1000000) (disch := (first | omega | (simp only [go_sem] <;> omega) | fail)) only [go_sem, ints, bools, mat] | ((first | apply goIf_b | apply goG_b | apply goTG_b | apply goOG_b) <;> intro h <;> ((try simp only [Bool.not_eq_true', Bool.not_eq_false'] at h); (try simp only [h]); (try simp only [decide_eq_true_eq, decide_eq_false_iff_not, bne_iff_ne, bne_eq_false_iff_eq, beq_iff_eq, beq_eq_false_iff_ne, ne_eq, Int.not_lt, Int.not_le, Bool.and_eq_true, Bool.and_eq_false_iff, Bool.or_eq_true, Bool.or_eq_false_iff] at h)) <;> (try (exfalso; omega))))
                  first | refine goC_call [.r] (d_spec_l01Own c (by omega)) ?_ | refine goOC_call [.r] (d_spec_l01Own c (by omega)) ?_
                  repeat' (first | simp -implicitDefEqProofs (maxSteps := 1000000) (disch := (first | omega | (simp only [go_sem] <;> omega) | fail)) only [go_sem, ints, bools, mat, hwe] | ((first | apply goIf_b | apply goG_b | apply goTG_b | apply goOG_b) <;> intro h <;> ((try simp only [Bool.not_eq_true', Bool.not_eq_false'] at h); (try simp only [h]); (try simp only [decide_eq_true_eq, decide_eq_false_iff_not, bne_iff_ne, bne_eq_false_iff_eq, beq_iff_eq, beq_eq_false_iff_ne, ne_eq, Int.not_lt, Int.not_le, Bool.and_eq_true, Bool.and_eq_false_iff, Bool.or_eq_true, Bool.or_eq_false_iff] at h)) <;> (try (exfalso; omega))))
                  first | refine goC_call [.r, .f, .f, .r, .r] (hden) ?_ | refine goOC_call [.r, .f, .f, .r, .r] (hden) ?_
                  repeat' (first | simp -implicitDefEqProofs (maxSteps := 1000000) (disch := (first | omega | (simp only [go_sem] <;> omega) | fail)) only [go_sem, ints, bools, mat] | ((first | apply goIf_b | apply goG_b | apply goTG_b | apply goOG_b) <;> intro h <;> ((try simp only [Bool.not_eq_true', Bool.not_eq_false'] at h); (try simp only [h]); (try simp only [decide_eq_true_eq, decide_eq_false_iff_not, bne_iff_ne, bne_eq_false_iff_eq, beq_iff_eq, beq_eq_false_iff_ne, ne_eq, Int.not_lt, Int.not_le, Bool.and_eq_true, Bool.and_eq_false_iff, Bool.or_eq_true, Bool.or_eq_false_iff] at h)) <;> (try (exfalso; omega))))
                  refine hJ (i + 1, (c ++ [w] ++ bsX l d N).length, some (c ++ [w] ++ bsX l d N)) ⟨hg1, by dsimp only; omega, by dsimp only; omega, h4⟩ (by dsimp only [mu]; omega) _ ?_
                  simp -implicitDefEqProofs (maxSteps := 1000000) (disch := (first | omega | (simp only [go_sem] <;> omega) | fail)) only [go_sem, ints, bools, mat, grI]
                  all_goals rfl
                · repeat' (first | simp -implicitDefEqProofs (maxSteps := 1000000) (disch := (first | omega | (simp only [go_sem] <;> omega) | fail)) only [go_sem, ints, bools, mat] | ((first | apply goIf_b | apply goG_b | apply goTG_b | apply goOG_b) <;> intro h <;> ((try simp only [Bool.not_eq_true', Bool.not_eq_false'] at h); (try simp only [h]); (try simp only [decide_eq_true_eq, decide_eq_false_iff_not, bne_iff_ne, bne_eq_false_iff_eq, beq_iff_eq, beq_eq_false_iff_ne, ne_eq, Int.not_lt, Int.not_le, Bool.and_eq_true, Bool.and_eq_false_iff, Bool.or_eq_true, Bool.or_eq_false_iff] at h)) <;> (try (exfalso; omega))))
                  first | refine goC_call [.r] (d_spec_l01Own c (by omega)) ?_ | refine goOC_call [.r] (d_spec_l01Own c (by omega)) ?_
                  repeat' (first | simp -implicitDefEqProofs (maxSteps := 1000000) (disch := (first | omega | (simp only [go_sem] <;> omega) | fail)) only [go_sem, ints, bools, mat, hwe] | ((first | apply goIf_b | apply goG_b | apply goTG_b | apply goOG_b) <;> intro h <;> ((try simp only [Bool.not_eq_true', Bool.not_eq_false'] at h); (try simp only [h]); (try simp only [decide_eq_true_eq, decide_eq_false_iff_not, bne_iff_ne, bne_eq_false_iff_eq, beq_iff_eq, beq_eq_false_iff_ne, ne_eq, Int.not_lt, Int.not_le, Bool.and_eq_true, Bool.and_eq_false_iff, Bool.or_eq_true, Bool.or_eq_false_iff] at h)) <;> (try (exfalso; omega))))
                  first | refine goC_call [.r, .f, .f, .r, .r] (hden) ?_ | refine goOC_call [.r, .f, .f, .r, .r] (hden) ?_
                  repeat' (first | simp -implicitDefEqProofs (maxSteps := 1000000) (disch := (first | omega | (simp only [go_sem] <;> omega) | fail)) only [go_sem, ints, bools, mat] | ((first | apply goIf_b | apply goG_b | apply goTG_b | apply goOG_b) <;> intro h <;> ((try simp only [Bool.not_eq_true', Bool.not_eq_false'] at h); (try simp only [h]); (try simp only [decide_eq_true_eq, decide_eq_false_iff_not, bne_iff_ne, bne_eq_false_iff_eq, beq_iff_eq, beq_eq_false_iff_ne, ne_eq, Int.not_lt, Int.not_le, Bool.and_eq_true, Bool.and_eq_false_iff, Bool.or_eq_true, Bool.or_eq_false_iff] at h)) <;> (try (exfalso; omega))))
                  refine hJ (i + 1, (c ++ [w] ++ bsX l d N).length, some (c ++ [w] ++ bsX l d N)) ⟨hg1, by dsimp only; omega, by dsimp only; omega, h4⟩ (by dsimp only [mu]; omega) _ ?_
                  simp -implicitDefEqProofs (maxSteps := 1000000) (disch := (first | omega | (simp only [go_sem] <;> omega) | fail)) only [go_sem, ints, bools, mat, grI]
                  all_goals rfl
              · rw [fnO, List.length_append, List.length_singleton, if_neg hh, grR] at hden
                rw [← hA] at hh
                rw [fnO_miss hh] at h4
                repeat' (first | simp -implicitDefEqProofs (maxSteps := 1000000) (disch := (first | omega | (simp only [go_sem] <;> omega) | fail)) only [go_sem, ints, bools, mat] | ((first | apply goIf_b | apply goG_b | apply goTG_b | apply goOG_b) <;> intro h <;> ((try simp only [Bool.not_eq_true', Bool.not_eq_false'] at h); (try simp only [h]); (try simp only [decide_eq_true_eq, decide_eq_false_iff_not, bne_iff_ne, bne_eq_false_iff_eq, beq_iff_eq, beq_eq_false_iff_ne, ne_eq, Int.not_lt, Int.not_le, Bool.and_eq_true, Bool.and_eq_false_iff, Bool.or_eq_true, Bool.or_eq_false_iff] at h)) <;> (try (exfalso; omega))))
                rw [goS_two]
                refine ⟨?_, ?_⟩
                · repeat' (first | simp -implicitDefEqProofs (maxSteps := 1000000) (disch := (first | omega | (simp only [go_sem] <;> omega) | fail)) only [go_sem, ints, bools, mat] | ((first | apply goIf_b | apply goG_b | apply goTG_b | apply goOG_b) <;> intro h <;> ((try simp only [Bool.not_eq_true', Bool.not_eq_false'] at h); (try simp only [h]); (try simp only [decide_eq_true_eq, decide_eq_false_iff_not, bne_iff_ne, bne_eq_false_iff_eq, beq_iff_eq, beq_eq_false_iff_ne, ne_eq, Int.not_lt, Int.not_le, Bool.and_eq_true, Bool.and_eq_false_iff, Bool.or_eq_true, Bool.or_eq_false_iff] at h)) <;> (try (exfalso; omega))))
                  first | refine goC_call [.r] (d_spec_l01Own c (by omega)) ?_ | refine goOC_call [.r] (d_spec_l01Own c (by omega)) ?_
                  repeat' (first | simp -implicitDefEqProofs (maxSteps := 1000000) (disch := (first | omega | (simp only [go_sem] <;> omega) | fail)) only [go_sem, ints, bools, mat, hwe] | ((first | apply goIf_b | apply goG_b | apply goTG_b | apply goOG_b) <;> intro h <;> ((try simp only [Bool.not_eq_true', Bool.not_eq_false'] at h); (try simp only [h]); (try simp only [decide_eq_true_eq, decide_eq_false_iff_not, bne_iff_ne, bne_eq_false_iff_eq, beq_iff_eq, beq_eq_false_iff_ne, ne_eq, Int.not_lt, Int.not_le, Bool.and_eq_true, Bool.and_eq_false_iff, Bool.or_eq_true, Bool.or_eq_false_iff] at h)) <;> (try (exfalso; omega))))
                  first | refine goC_call [.r, .f, .f, .r, .r] (hden) ?_ | refine goOC_call [.r, .f, .f, .r, .r] (hden) ?_
                  repeat' (first | simp -implicitDefEqProofs (maxSteps := 1000000) (disch := (first | omega | (simp only [go_sem] <;> omega) | fail)) only [go_sem, ints, bools, mat] | ((first | apply goIf_b | apply goG_b | apply goTG_b | apply goOG_b) <;> intro h <;> ((try simp only [Bool.not_eq_true', Bool.not_eq_false'] at h); (try simp only [h]); (try simp only [decide_eq_true_eq, decide_eq_false_iff_not, bne_iff_ne, bne_eq_false_iff_eq, beq_iff_eq, beq_eq_false_iff_ne, ne_eq, Int.not_lt, Int.not_le, Bool.and_eq_true, Bool.and_eq_false_iff, Bool.or_eq_true, Bool.or_eq_false_iff] at h)) <;> (try (exfalso; omega))))
                  refine hJ (i + 1, m', some b) ⟨hg1, h2, h3, h4⟩ (by dsimp only [mu]; omega) _ ?_
                  simp -implicitDefEqProofs (maxSteps := 1000000) (disch := (first | omega | (simp only [go_sem] <;> omega) | fail)) only [go_sem, ints, bools, mat, grI]
                  all_goals rfl
                · repeat' (first | simp -implicitDefEqProofs (maxSteps := 1000000) (disch := (first | omega | (simp only [go_sem] <;> omega) | fail)) only [go_sem, ints, bools, mat] | ((first | apply goIf_b | apply goG_b | apply goTG_b | apply goOG_b) <;> intro h <;> ((try simp only [Bool.not_eq_true', Bool.not_eq_false'] at h); (try simp only [h]); (try simp only [decide_eq_true_eq, decide_eq_false_iff_not, bne_iff_ne, bne_eq_false_iff_eq, beq_iff_eq, beq_eq_false_iff_ne, ne_eq, Int.not_lt, Int.not_le, Bool.and_eq_true, Bool.and_eq_false_iff, Bool.or_eq_true, Bool.or_eq_false_iff] at h)) <;> (try (exfalso; omega))))
                  first | refine goC_call [.r] (d_spec_l01Own c (by omega)) ?_ | refine goOC_call [.r] (d_spec_l01Own c (by omega)) ?_
                  repeat' (first | simp -implicitDefEqProofs (maxSteps := 1000000) (disch := (first | omega | (simp only [go_sem] <;> omega) | fail)) only [go_sem, ints, bools, mat, hwe] | ((first | apply goIf_b | apply goG_b | apply goTG_b | apply goOG_b) <;> intro h <;> ((try simp only [Bool.not_eq_true', Bool.not_eq_false'] at h); (try simp only [h]); (try simp only [decide_eq_true_eq, decide_eq_false_iff_not, bne_iff_ne, bne_eq_false_iff_eq, beq_iff_eq, beq_eq_false_iff_ne, ne_eq, Int.not_lt, Int.not_le, Bool.and_eq_true, Bool.and_eq_false_iff, Bool.or_eq_true, Bool.or_eq_false_iff] at h)) <;> (try (exfalso; omega))))
                  first | refine goC_call [.r, .f, .f, .r, .r] (hden) ?_ | refine goOC_call [.r, .f, .f, .r, .r] (hden) ?_
                  repeat' (first | simp -implicitDefEqProofs (maxSteps := 1000000) (disch := (first | omega | (simp only [go_sem] <;> omega) | fail)) only [go_sem, ints, bools, mat] | ((first | apply goIf_b | apply goG_b | apply goTG_b | apply goOG_b) <;> intro h <;> ((try simp only [Bool.not_eq_true', Bool.not_eq_false'] at h); (try simp only [h]); (try simp only [decide_eq_true_eq, decide_eq_false_iff_not, bne_iff_ne, bne_eq_false_iff_eq, beq_iff_eq, beq_eq_false_iff_ne, ne_eq, Int.not_lt, Int.not_le, Bool.and_eq_true, Bool.and_eq_false_iff, Bool.or_eq_true, Bool.or_eq_false_iff] at h)) <;> (try (exfalso; omega))))
                  refine hJ (i + 1, m', some b) ⟨hg1, h2, h3, h4⟩ (by dsimp only [mu]; omega) _ ?_
                  simp -implicitDefEqProofs (maxSteps := 1000000) (disch := (first | omega | (simp only [go_sem] <;> omega) | fail)) only [go_sem, ints, bools, mat, grI]
                  all_goals rfl
      · rw [fnO_end (by rw [hdl]; omega)] at h4
        subst h4
        cases b with
        | none =>
          repeat' (first | simp -implicitDefEqProofs (maxSteps := 1000000) (disch := (first | omega | (simp only [go_sem] <;> omega) | fail)) only [go_sem, ints, bools, mat, c_spec_l04Grow, firstLoop, fstL, grI, grR, lastSeq] | ((first | apply goIf_b | apply goG_b | apply goTG_b | apply goOG_b) <;> intro h <;> ((try simp only [Bool.not_eq_true', Bool.not_eq_false'] at h); (try simp only [h]); (try simp only [decide_eq_true_eq, decide_eq_false_iff_not, bne_iff_ne, bne_eq_false_iff_eq, beq_iff_eq, beq_eq_false_iff_ne, ne_eq, Int.not_lt, Int.not_le, Bool.and_eq_true, Bool.and_eq_false_iff, Bool.or_eq_true, Bool.or_eq_false_iff] at h)) <;> (try (exfalso; omega))))
        | some b =>
          repeat' (first | simp -implicitDefEqProofs (maxSteps := 1000000) (disch := (first | omega | (simp only [go_sem] <;> omega) | fail)) only [go_sem, ints, bools, mat, c_spec_l04Grow, firstLoop, fstL, grI, grR, lastSeq] | ((first | apply goIf_b | apply goG_b | apply goTG_b | apply goOG_b) <;> intro h <;> ((try simp only [Bool.not_eq_true', Bool.not_eq_false'] at h); (try simp only [h]); (try simp only [decide_eq_true_eq, decide_eq_false_iff_not, bne_iff_ne, bne_eq_false_iff_eq, beq_iff_eq, beq_eq_false_iff_ne, ne_eq, Int.not_lt, Int.not_le, Bool.and_eq_true, Bool.and_eq_false_iff, Bool.or_eq_true, Bool.or_eq_false_iff] at h)) <;> (try (exfalso; omega))))
    by_cases hmc : m < c.length
    · rw [← fnO_start hmc] at hT
      repeat' (first | simp -implicitDefEqProofs (maxSteps := 1000000) (disch := (first | omega | (simp only [go_sem] <;> omega) | fail)) only [go_sem, ints, bools, mat, c_spec_l04Grow] | ((first | apply goIf_b | apply goG_b | apply goTG_b | apply goOG_b) <;> intro h <;> ((try simp only [Bool.not_eq_true', Bool.not_eq_false'] at h); (try simp only [h]); (try simp only [decide_eq_true_eq, decide_eq_false_iff_not, bne_iff_ne, bne_eq_false_iff_eq, beq_iff_eq, beq_eq_false_iff_ne, ne_eq, Int.not_lt, Int.not_le, Bool.and_eq_true, Bool.and_eq_false_iff, Bool.or_eq_true, Bool.or_eq_false_iff] at h)) <;> (try (exfalso; omega))))
      refine go_loop (grI l X c d) V mu (0, c.length, some c) ?_ ⟨Nat.zero_le _, Nat.le_refl _, by dsimp only; omega, hT⟩ hstep
      simp -implicitDefEqProofs (maxSteps := 1000000) (disch := (first | omega | (simp only [go_sem] <;> omega) | fail)) only [go_sem, ints, bools, mat, grI]
      all_goals rfl
    · repeat' (first | simp -implicitDefEqProofs (maxSteps := 1000000) (disch := (first | omega | (simp only [go_sem] <;> omega) | fail)) only [go_sem, ints, bools, mat, c_spec_l04Grow] | ((first | apply goIf_b | apply goG_b | apply goTG_b | apply goOG_b) <;> intro h <;> ((try simp only [Bool.not_eq_true', Bool.not_eq_false'] at h); (try simp only [h]); (try simp only [decide_eq_true_eq, decide_eq_false_iff_not, bne_iff_ne, bne_eq_false_iff_eq, beq_iff_eq, beq_eq_false_iff_ne, ne_eq, Int.not_lt, Int.not_le, Bool.and_eq_true, Bool.and_eq_false_iff, Bool.or_eq_true, Bool.or_eq_false_iff] at h)) <;> (try (exfalso; omega))))
      refine go_loop (grI l X c d) V mu (0, m, none) ?_ ⟨Nat.zero_le _, by dsimp only; omega, hm, hT⟩ hstep
      simp -implicitDefEqProofs (maxSteps := 1000000) (disch := (first | omega | (simp only [go_sem] <;> omega) | fail)) only [go_sem, ints, bools, mat, grI]
      all_goals rfl
theorem fnO_all {l : List Int} {d : Int} (hs : isSpaceM l = true) : fnO l d [] (allW l) 0 none = some (bsX l d (allW l)) := by
  have hp1 := prodM_pos (isSpaceM_szs hs)
  have hl := allW_len l
  have h0 : 0 < mxX l d (allW l) := by
    cases hX : allW l with
    | nil => rw [hX] at hl; simp at hl; omega
    | cons w X => rw [mxX_cons]; omega
  rw [fnO, if_pos (by simpa using h0), List.nil_append]
theorem d_spec_l04Most (l : List Int) (hs : isSpaceM l = true) (d : Int) : Den PA f_spec_l04Most [.d (.agg [ints l]), .d (di d)] [.any, .any] (.d (ints (bsX l d (allW l)))) := by
  have hp1 := prodM_pos (isSpaceM_szs hs)
  have hpr := isSpaceM_prod hs
  have hn := isSpaceM_n hs
  have hal := allW_len l
  have hden := d_spec_l04Grow l hs d ((allW l).length + 1) (allW l) [] 0 (by omega) (fun w hw => by have := (allW_mem l w).1 hw; omega) (by simp; omega) (by omega)
  rw [fnO_all hs, grR] at hden
  refine den_go [] l_spec_l04Most ?_
  repeat' (first | simp -implicitDefEqProofs (maxSteps := 1000000) (disch := (first | omega | (simp only [go_sem] <;> omega) | fail)) only [go_sem, ints, bools, mat, c_spec_l04Most] | ((first | apply goIf_b | apply goG_b | apply goTG_b | apply goOG_b) <;> intro h <;> ((try simp only [Bool.not_eq_true', Bool.not_eq_false'] at h); (try simp only [h]); (try simp only [decide_eq_true_eq, decide_eq_false_iff_not, bne_iff_ne, bne_eq_false_iff_eq, beq_iff_eq, beq_eq_false_iff_ne, ne_eq, Int.not_lt, Int.not_le, Bool.and_eq_true, Bool.and_eq_false_iff, Bool.or_eq_true, Bool.or_eq_false_iff] at h)) <;> (try (exfalso; omega))))
  refine go_loop (fun (j : Nat) => ⟨[(1, .d (di d)), (2, .ref 0 0), (5, .sl 1 0 j 1), (6, .d (di j))], [some (.var [ints l]), some (.dat 1 (((allW l).take j).map di))]⟩) (fun j => j ≤ (prodM l).toNat) (fun j => (prodM l).toNat - j) 0 ?_ ?_ ?_
  · simp -implicitDefEqProofs (maxSteps := 1000000) (disch := (first | omega | (simp only [go_sem] <;> omega) | fail)) only [go_sem, ints, bools, mat]
    all_goals rfl
  · exact Nat.zero_le _
  · intro j hj J hJ
    have htl : ((allW l).take j).length = j := by rw [List.length_take, hal]; omega
    by_cases hjl : j < (prodM l).toNat
    · have ht := take_allW l hjl
      repeat' (first | simp -implicitDefEqProofs (maxSteps := 1000000) (disch := (first | omega | (simp only [go_sem] <;> omega) | fail)) only [go_sem, ints, bools, mat] | ((first | apply goIf_b | apply goG_b | apply goTG_b | apply goOG_b) <;> intro h <;> ((try simp only [Bool.not_eq_true', Bool.not_eq_false'] at h); (try simp only [h]); (try simp only [decide_eq_true_eq, decide_eq_false_iff_not, bne_iff_ne, bne_eq_false_iff_eq, beq_iff_eq, beq_eq_false_iff_ne, ne_eq, Int.not_lt, Int.not_le, Bool.and_eq_true, Bool.and_eq_false_iff, Bool.or_eq_true, Bool.or_eq_false_iff] at h)) <;> (try (exfalso; omega))))
      first | refine goC_call [.r] (d_spec_l01N l (by omega) (isSpaceM_q hs)) ?_ | refine goOC_call [.r] (d_spec_l01N l (by omega) (isSpaceM_q hs)) ?_
      repeat' (first | simp -implicitDefEqProofs (maxSteps := 1000000) (disch := (first | omega | (simp only [go_sem] <;> omega) | fail)) only [go_sem, ints, bools, mat] | ((first | apply goIf_b | apply goG_b | apply goTG_b | apply goOG_b) <;> intro h <;> ((try simp only [Bool.not_eq_true', Bool.not_eq_false'] at h); (try simp only [h]); (try simp only [decide_eq_true_eq, decide_eq_false_iff_not, bne_iff_ne, bne_eq_false_iff_eq, beq_iff_eq, beq_eq_false_iff_ne, ne_eq, Int.not_lt, Int.not_le, Bool.and_eq_true, Bool.and_eq_false_iff, Bool.or_eq_true, Bool.or_eq_false_iff] at h)) <;> (try (exfalso; omega))))
      refine hJ (j + 1) (by omega) (by omega) _ ?_
      simp -implicitDefEqProofs (maxSteps := 1000000) (disch := (first | omega | (simp only [go_sem] <;> omega) | fail)) only [go_sem, ints, bools, mat, ht]
      all_goals rfl
    · have hje : j = (prodM l).toNat := by omega
      subst hje
      rw [show (allW l).take (prodM l).toNat = allW l by rw [← hal, List.take_length]]
      repeat' (first | simp -implicitDefEqProofs (maxSteps := 1000000) (disch := (first | omega | (simp only [go_sem] <;> omega) | fail)) only [go_sem, ints, bools, mat] | ((first | apply goIf_b | apply goG_b | apply goTG_b | apply goOG_b) <;> intro h <;> ((try simp only [Bool.not_eq_true', Bool.not_eq_false'] at h); (try simp only [h]); (try simp only [decide_eq_true_eq, decide_eq_false_iff_not, bne_iff_ne, bne_eq_false_iff_eq, beq_iff_eq, beq_eq_false_iff_ne, ne_eq, Int.not_lt, Int.not_le, Bool.and_eq_true, Bool.and_eq_false_iff, Bool.or_eq_true, Bool.or_eq_false_iff] at h)) <;> (try (exfalso; omega))))
      first | refine goC_call [.r] (d_spec_l01N l (by omega) (isSpaceM_q hs)) ?_ | refine goOC_call [.r] (d_spec_l01N l (by omega) (isSpaceM_q hs)) ?_
      repeat' (first | simp -implicitDefEqProofs (maxSteps := 1000000) (disch := (first | omega | (simp only [go_sem] <;> omega) | fail)) only [go_sem, ints, bools, mat] | ((first | apply goIf_b | apply goG_b | apply goTG_b | apply goOG_b) <;> intro h <;> ((try simp only [Bool.not_eq_true', Bool.not_eq_false'] at h); (try simp only [h]); (try simp only [decide_eq_true_eq, decide_eq_false_iff_not, bne_iff_ne, bne_eq_false_iff_eq, beq_iff_eq, beq_eq_false_iff_ne, ne_eq, Int.not_lt, Int.not_le, Bool.and_eq_true, Bool.and_eq_false_iff, Bool.or_eq_true, Bool.or_eq_false_iff] at h)) <;> (try (exfalso; omega))))
      first | refine goC_call [.r, .f, .f, .r, .r] (hden) ?_ | refine goOC_call [.r, .f, .f, .r, .r] (hden) ?_
      repeat' (first | simp -implicitDefEqProofs (maxSteps := 1000000) (disch := (first | omega | (simp only [go_sem] <;> omega) | fail)) only [go_sem, ints, bools, mat] | ((first | apply goIf_b | apply goG_b | apply goTG_b | apply goOG_b) <;> intro h <;> ((try simp only [Bool.not_eq_true', Bool.not_eq_false'] at h); (try simp only [h]); (try simp only [decide_eq_true_eq, decide_eq_false_iff_not, bne_iff_ne, bne_eq_false_iff_eq, beq_iff_eq, beq_eq_false_iff_ne, ne_eq, Int.not_lt, Int.not_le, Bool.and_eq_true, Bool.and_eq_false_iff, Bool.or_eq_true, Bool.or_eq_false_iff] at h)) <;> (try (exfalso; omega))))
theorem d_spec_GreatestNumber (l : List Int) (d : Int) (hl : l.length < 1048577) : Den PA f_spec_GreatestNumber [.d (.agg [ints l]), .d (di d)] [.any, .any] (gnR l d) := by
  refine den_go [] l_spec_GreatestNumber ?_
  repeat' (first | simp -implicitDefEqProofs (maxSteps := 1000000) (disch := (first | omega | (simp only [go_sem] <;> omega) | fail)) only [go_sem, ints, bools, mat, c_spec_GreatestNumber] | ((first | apply goIf_b | apply goG_b | apply goTG_b | apply goOG_b) <;> intro h <;> ((try simp only [Bool.not_eq_true', Bool.not_eq_false'] at h); (try simp only [h]); (try simp only [decide_eq_true_eq, decide_eq_false_iff_not, bne_iff_ne, bne_eq_false_iff_eq, beq_iff_eq, beq_eq_false_iff_ne, ne_eq, Int.not_lt, Int.not_le, Bool.and_eq_true, Bool.and_eq_false_iff, Bool.or_eq_true, Bool.or_eq_false_iff] at h)) <;> (try (exfalso; omega))))
  first | refine goC_call [.r, .r, .r, .r] (d_spec_l04Sought l hl d 2 9) ?_ | refine goOC_call [.r, .r, .r, .r] (d_spec_l04Sought l hl d 2 9) ?_
  by_cases h : scE l d 2 9 = 0
  · obtain ⟨hs, hr, h27⟩ := scE_ok h
    have hfl := mx_len hs (d := d)
    rw [gnR, if_pos h, h]
    repeat' (first | simp -implicitDefEqProofs (maxSteps := 1000000) (disch := (first | omega | (simp only [go_sem] <;> omega) | fail)) only [go_sem, ints, bools, mat] | ((first | apply goIf_b | apply goG_b | apply goTG_b | apply goOG_b) <;> intro h <;> ((try simp only [Bool.not_eq_true', Bool.not_eq_false'] at h); (try simp only [h]); (try simp only [decide_eq_true_eq, decide_eq_false_iff_not, bne_iff_ne, bne_eq_false_iff_eq, beq_iff_eq, beq_eq_false_iff_ne, ne_eq, Int.not_lt, Int.not_le, Bool.and_eq_true, Bool.and_eq_false_iff, Bool.or_eq_true, Bool.or_eq_false_iff] at h)) <;> (try (exfalso; omega))))
    first | refine goC_call [.r, .r] (d_spec_l04Most l hs d) ?_ | refine goOC_call [.r, .r] (d_spec_l04Most l hs d) ?_
    repeat' (first | simp -implicitDefEqProofs (maxSteps := 1000000) (disch := (first | omega | (simp only [go_sem] <;> omega) | fail)) only [go_sem, ints, bools, mat] | ((first | apply goIf_b | apply goG_b | apply goTG_b | apply goOG_b) <;> intro h <;> ((try simp only [Bool.not_eq_true', Bool.not_eq_false'] at h); (try simp only [h]); (try simp only [decide_eq_true_eq, decide_eq_false_iff_not, bne_iff_ne, bne_eq_false_iff_eq, beq_iff_eq, beq_eq_false_iff_ne, ne_eq, Int.not_lt, Int.not_le, Bool.and_eq_true, Bool.and_eq_false_iff, Bool.or_eq_true, Bool.or_eq_false_iff] at h)) <;> (try (exfalso; omega))))
  · rw [gnR, if_neg h]
    repeat' (first | simp -implicitDefEqProofs (maxSteps := 1000000) (disch := (first | omega | (simp only [go_sem] <;> omega) | fail)) only [go_sem, ints, bools, mat] | ((first | apply goIf_b | apply goG_b | apply goTG_b | apply goOG_b) <;> intro h <;> ((try simp only [Bool.not_eq_true', Bool.not_eq_false'] at h); (try simp only [h]); (try simp only [decide_eq_true_eq, decide_eq_false_iff_not, bne_iff_ne, bne_eq_false_iff_eq, beq_iff_eq, beq_eq_false_iff_ne, ne_eq, Int.not_lt, Int.not_le, Bool.and_eq_true, Bool.and_eq_false_iff, Bool.or_eq_true, Bool.or_eq_false_iff] at h)) <;> (try (exfalso; omega))))
theorem d_spec_FirstApart (l : List Int) (d : Int) (hl : l.length < 1048577) : Den PA f_spec_FirstApart [.d (.agg [ints l]), .d (di d)] [.any, .any] (lstF (scE l d 2 9) (bsX l d (allW l))) := by
  refine den_go [] l_spec_FirstApart ?_
  repeat' (first | simp -implicitDefEqProofs (maxSteps := 1000000) (disch := (first | omega | (simp only [go_sem] <;> omega) | fail)) only [go_sem, ints, bools, mat, c_spec_FirstApart] | ((first | apply goIf_b | apply goG_b | apply goTG_b | apply goOG_b) <;> intro h <;> ((try simp only [Bool.not_eq_true', Bool.not_eq_false'] at h); (try simp only [h]); (try simp only [decide_eq_true_eq, decide_eq_false_iff_not, bne_iff_ne, bne_eq_false_iff_eq, beq_iff_eq, beq_eq_false_iff_ne, ne_eq, Int.not_lt, Int.not_le, Bool.and_eq_true, Bool.and_eq_false_iff, Bool.or_eq_true, Bool.or_eq_false_iff] at h)) <;> (try (exfalso; omega))))
  first | refine goC_call [.r, .r, .r, .r] (d_spec_l04Sought l hl d 2 9) ?_ | refine goOC_call [.r, .r, .r, .r] (d_spec_l04Sought l hl d 2 9) ?_
  by_cases h : scE l d 2 9 = 0
  · obtain ⟨hs, hr, h27⟩ := scE_ok h
    rw [lstF, if_pos h, h]
    repeat' (first | simp -implicitDefEqProofs (maxSteps := 1000000) (disch := (first | omega | (simp only [go_sem] <;> omega) | fail)) only [go_sem, ints, bools, mat] | ((first | apply goIf_b | apply goG_b | apply goTG_b | apply goOG_b) <;> intro h <;> ((try simp only [Bool.not_eq_true', Bool.not_eq_false'] at h); (try simp only [h]); (try simp only [decide_eq_true_eq, decide_eq_false_iff_not, bne_iff_ne, bne_eq_false_iff_eq, beq_iff_eq, beq_eq_false_iff_ne, ne_eq, Int.not_lt, Int.not_le, Bool.and_eq_true, Bool.and_eq_false_iff, Bool.or_eq_true, Bool.or_eq_false_iff] at h)) <;> (try (exfalso; omega))))
    first | refine goC_call [.r, .r] (d_spec_l04Most l hs d) ?_ | refine goOC_call [.r, .r] (d_spec_l04Most l hs d) ?_
    repeat' (first | simp -implicitDefEqProofs (maxSteps := 1000000) (disch := (first | omega | (simp only [go_sem] <;> omega) | fail)) only [go_sem, ints, bools, mat] | ((first | apply goIf_b | apply goG_b | apply goTG_b | apply goOG_b) <;> intro h <;> ((try simp only [Bool.not_eq_true', Bool.not_eq_false'] at h); (try simp only [h]); (try simp only [decide_eq_true_eq, decide_eq_false_iff_not, bne_iff_ne, bne_eq_false_iff_eq, beq_iff_eq, beq_eq_false_iff_ne, ne_eq, Int.not_lt, Int.not_le, Bool.and_eq_true, Bool.and_eq_false_iff, Bool.or_eq_true, Bool.or_eq_false_iff] at h)) <;> (try (exfalso; omega))))
  · rw [lstF, if_neg h]
    repeat' (first | simp -implicitDefEqProofs (maxSteps := 1000000) (disch := (first | omega | (simp only [go_sem] <;> omega) | fail)) only [go_sem, ints, bools, mat] | ((first | apply goIf_b | apply goG_b | apply goTG_b | apply goOG_b) <;> intro h <;> ((try simp only [Bool.not_eq_true', Bool.not_eq_false'] at h); (try simp only [h]); (try simp only [decide_eq_true_eq, decide_eq_false_iff_not, bne_iff_ne, bne_eq_false_iff_eq, beq_iff_eq, beq_eq_false_iff_ne, ne_eq, Int.not_lt, Int.not_le, Bool.and_eq_true, Bool.and_eq_false_iff, Bool.or_eq_true, Bool.or_eq_false_iff] at h)) <;> (try (exfalso; omega))))
abbrev cvB (l c : List Int) (r : Int) : Bool := !decide (0 ∈ timesM l c r)
abbrev cvsR (l c : List Int) (r : Int) : R := .tup [.d (db (if ccM l c r = 0 then cvB l c r else false)), .d (di (ccM l c r))]
theorem d_impl_covers (l c : List Int) (r : Int) (hs : isSpaceM l = true) (hcc : isCodeM l c = true) (hc : c.length < 1048577) :
    Den PA f_impl_covers [.d (.agg [ints l]), .d (ints c), .d (di r)] [.any, .any, .any] (.d (db (cvB l c r))) := by
  have hp := isSpaceM_prod hs
  refine den_go [] l_impl_covers ?_
  repeat' (first | simp -implicitDefEqProofs (maxSteps := 1000000) (disch := (first | omega | (simp only [go_sem] <;> omega) | fail)) only [go_sem, ints, bools, mat, c_impl_covers] | ((first | apply goIf_b | apply goG_b | apply goTG_b | apply goOG_b) <;> intro h <;> ((try simp only [Bool.not_eq_true', Bool.not_eq_false'] at h); (try simp only [h]); (try simp only [decide_eq_true_eq, decide_eq_false_iff_not, bne_iff_ne, bne_eq_false_iff_eq, beq_iff_eq, beq_eq_false_iff_ne, ne_eq, Int.not_lt, Int.not_le, Bool.and_eq_true, Bool.and_eq_false_iff, Bool.or_eq_true, Bool.or_eq_false_iff] at h)) <;> (try (exfalso; omega))))
  first | refine goC_call [.r, .r, .r] (d_impl_times l c r hs hcc hc) ?_ | refine goOC_call [.r, .r, .r] (d_impl_times l c r hs hcc hc) ?_
  repeat' (first | simp -implicitDefEqProofs (maxSteps := 1000000) (disch := (first | omega | (simp only [go_sem] <;> omega) | fail)) only [go_sem, ints, bools, mat] | ((first | apply goIf_b | apply goG_b | apply goTG_b | apply goOG_b) <;> intro h <;> ((try simp only [Bool.not_eq_true', Bool.not_eq_false'] at h); (try simp only [h]); (try simp only [decide_eq_true_eq, decide_eq_false_iff_not, bne_iff_ne, bne_eq_false_iff_eq, beq_iff_eq, beq_eq_false_iff_ne, ne_eq, Int.not_lt, Int.not_le, Bool.and_eq_true, Bool.and_eq_false_iff, Bool.or_eq_true, Bool.or_eq_false_iff] at h)) <;> (try (exfalso; omega))))
  first | refine goC_call [.r, .r] (d_slices_Contains_int (timesM l c r) 0 (by rw [timesN_len]; omega)) ?_ | refine goOC_call [.r, .r] (d_slices_Contains_int (timesM l c r) 0 (by rw [timesN_len]; omega)) ?_
  repeat' (first | simp -implicitDefEqProofs (maxSteps := 1000000) (disch := (first | omega | (simp only [go_sem] <;> omega) | fail)) only [go_sem, ints, bools, mat] | ((first | apply goIf_b | apply goG_b | apply goTG_b | apply goOG_b) <;> intro h <;> ((try simp only [Bool.not_eq_true', Bool.not_eq_false'] at h); (try simp only [h]); (try simp only [decide_eq_true_eq, decide_eq_false_iff_not, bne_iff_ne, bne_eq_false_iff_eq, beq_iff_eq, beq_eq_false_iff_ne, ne_eq, Int.not_lt, Int.not_le, Bool.and_eq_true, Bool.and_eq_false_iff, Bool.or_eq_true, Bool.or_eq_false_iff] at h)) <;> (try (exfalso; omega))))
theorem d_impl_CoversSpace (l c : List Int) (r : Int) (hl : l.length < 1048577) (hc : c.length < 1048577) : Den PA f_impl_CoversSpace [.d (.agg [ints l]), .d (ints c), .d (di r)] [.any, .any, .any] (cvsR l c r) := by
  refine den_go [] l_impl_CoversSpace ?_
  repeat' (first | simp -implicitDefEqProofs (maxSteps := 1000000) (disch := (first | omega | (simp only [go_sem] <;> omega) | fail)) only [go_sem, ints, bools, mat, c_impl_CoversSpace] | ((first | apply goIf_b | apply goG_b | apply goTG_b | apply goOG_b) <;> intro h <;> ((try simp only [Bool.not_eq_true', Bool.not_eq_false'] at h); (try simp only [h]); (try simp only [decide_eq_true_eq, decide_eq_false_iff_not, bne_iff_ne, bne_eq_false_iff_eq, beq_iff_eq, beq_eq_false_iff_ne, ne_eq, Int.not_lt, Int.not_le, Bool.and_eq_true, Bool.and_eq_false_iff, Bool.or_eq_true, Bool.or_eq_false_iff] at h)) <;> (try (exfalso; omega))))
  first | refine goC_call [.r, .r, .r] (d_impl_coverCode l c hl hc r) ?_ | refine goOC_call [.r, .r, .r] (d_impl_coverCode l c hl hc r) ?_
  by_cases h : ccM l c r = 0
  · obtain ⟨hs, hcc, _⟩ := ccM_ok h
    rw [cvsR, if_pos h, h]
    repeat' (first | simp -implicitDefEqProofs (maxSteps := 1000000) (disch := (first | omega | (simp only [go_sem] <;> omega) | fail)) only [go_sem, ints, bools, mat] | ((first | apply goIf_b | apply goG_b | apply goTG_b | apply goOG_b) <;> intro h <;> ((try simp only [Bool.not_eq_true', Bool.not_eq_false'] at h); (try simp only [h]); (try simp only [decide_eq_true_eq, decide_eq_false_iff_not, bne_iff_ne, bne_eq_false_iff_eq, beq_iff_eq, beq_eq_false_iff_ne, ne_eq, Int.not_lt, Int.not_le, Bool.and_eq_true, Bool.and_eq_false_iff, Bool.or_eq_true, Bool.or_eq_false_iff] at h)) <;> (try (exfalso; omega))))
    first | refine goC_call [.r, .r, .r] (d_impl_covers l c r hs hcc hc) ?_ | refine goOC_call [.r, .r, .r] (d_impl_covers l c r hs hcc hc) ?_
    repeat' (first | simp -implicitDefEqProofs (maxSteps := 1000000) (disch := (first | omega | (simp only [go_sem] <;> omega) | fail)) only [go_sem, ints, bools, mat] | ((first | apply goIf_b | apply goG_b | apply goTG_b | apply goOG_b) <;> intro h <;> ((try simp only [Bool.not_eq_true', Bool.not_eq_false'] at h); (try simp only [h]); (try simp only [decide_eq_true_eq, decide_eq_false_iff_not, bne_iff_ne, bne_eq_false_iff_eq, beq_iff_eq, beq_eq_false_iff_ne, ne_eq, Int.not_lt, Int.not_le, Bool.and_eq_true, Bool.and_eq_false_iff, Bool.or_eq_true, Bool.or_eq_false_iff] at h)) <;> (try (exfalso; omega))))
  · rw [cvsR, if_neg h]
    generalize ccM l c r = b at h
    repeat' (first | simp -implicitDefEqProofs (maxSteps := 1000000) (disch := (first | omega | (simp only [go_sem] <;> omega) | fail)) only [go_sem, ints, bools, mat] | ((first | apply goIf_b | apply goG_b | apply goTG_b | apply goOG_b) <;> intro h <;> ((try simp only [Bool.not_eq_true', Bool.not_eq_false'] at h); (try simp only [h]); (try simp only [decide_eq_true_eq, decide_eq_false_iff_not, bne_iff_ne, bne_eq_false_iff_eq, beq_iff_eq, beq_eq_false_iff_ne, ne_eq, Int.not_lt, Int.not_le, Bool.and_eq_true, Bool.and_eq_false_iff, Bool.or_eq_true, Bool.or_eq_false_iff] at h)) <;> (try (exfalso; omega))))
abbrev pkR (l : List Int) (d : Int) : R := .tup [.d (di (if bcM l d = 0 then prodM l / bzM l ((d - 1) / 2) else 0)), .d (di (bcM l d))]
theorem d_impl_PackingBound (l : List Int) (d : Int) (hl : l.length < 1048577) : Den PA f_impl_PackingBound [.d (.agg [ints l]), .d (di d)] [.any, .any] (pkR l d) := by
  refine den_go [] l_impl_PackingBound ?_
  repeat' (first | simp -implicitDefEqProofs (maxSteps := 1000000) (disch := (first | omega | (simp only [go_sem] <;> omega) | fail)) only [go_sem, ints, bools, mat, c_impl_PackingBound] | ((first | apply goIf_b | apply goG_b | apply goTG_b | apply goOG_b) <;> intro h <;> ((try simp only [Bool.not_eq_true', Bool.not_eq_false'] at h); (try simp only [h]); (try simp only [decide_eq_true_eq, decide_eq_false_iff_not, bne_iff_ne, bne_eq_false_iff_eq, beq_iff_eq, beq_eq_false_iff_ne, ne_eq, Int.not_lt, Int.not_le, Bool.and_eq_true, Bool.and_eq_false_iff, Bool.or_eq_true, Bool.or_eq_false_iff] at h)) <;> (try (exfalso; omega))))
  first | refine goC_call [.r, .r] (d_impl_boundCode l hl d) ?_ | refine goOC_call [.r, .r] (d_impl_boundCode l hl d) ?_
  by_cases h : bcM l d = 0
  · rw [pkR, if_pos h, h]
    obtain ⟨hs, hd⟩ := bcM_ok h
    have hp1 := prodM_pos (isSpaceM_szs hs)
    have hpr := isSpaceM_prod hs
    have hr0 : 0 ≤ (d - 1) / 2 := by omega
    have hbz := bz_pos hs hr0
    have hq0 : 0 ≤ prodM l / bzM l ((d - 1) / 2) := Int.ediv_nonneg (by omega) (by omega)
    have hq1 : prodM l / bzM l ((d - 1) / 2) ≤ prodM l := Int.ediv_le_self _ (by omega)
    have hbl := ball_len hs 0 hr0
    repeat' (first | simp -implicitDefEqProofs (maxSteps := 1000000) (disch := (first | omega | (simp only [go_sem] <;> omega) | fail)) only [go_sem, ints, bools, mat] | ((first | apply goIf_b | apply goG_b | apply goTG_b | apply goOG_b) <;> intro h <;> ((try simp only [Bool.not_eq_true', Bool.not_eq_false'] at h); (try simp only [h]); (try simp only [decide_eq_true_eq, decide_eq_false_iff_not, bne_iff_ne, bne_eq_false_iff_eq, beq_iff_eq, beq_eq_false_iff_ne, ne_eq, Int.not_lt, Int.not_le, Bool.and_eq_true, Bool.and_eq_false_iff, Bool.or_eq_true, Bool.or_eq_false_iff] at h)) <;> (try (exfalso; omega))))
    first | refine goC_call [.r] (d_impl_count l hs) ?_ | refine goOC_call [.r] (d_impl_count l hs) ?_
    repeat' (first | simp -implicitDefEqProofs (maxSteps := 1000000) (disch := (first | omega | (simp only [go_sem] <;> omega) | fail)) only [go_sem, ints, bools, mat] | ((first | apply goIf_b | apply goG_b | apply goTG_b | apply goOG_b) <;> intro h <;> ((try simp only [Bool.not_eq_true', Bool.not_eq_false'] at h); (try simp only [h]); (try simp only [decide_eq_true_eq, decide_eq_false_iff_not, bne_iff_ne, bne_eq_false_iff_eq, beq_iff_eq, beq_eq_false_iff_ne, ne_eq, Int.not_lt, Int.not_le, Bool.and_eq_true, Bool.and_eq_false_iff, Bool.or_eq_true, Bool.or_eq_false_iff] at h)) <;> (try (exfalso; omega))))
    first | refine goC_call [.r, .r, .r] (d_impl_ball l hs 0 ((d - 1) / 2) (by omega) (by omega)) ?_ | refine goOC_call [.r, .r, .r] (d_impl_ball l hs 0 ((d - 1) / 2) (by omega) (by omega)) ?_
    repeat' (first | simp -implicitDefEqProofs (maxSteps := 1000000) (disch := (first | omega | (simp only [go_sem] <;> omega) | fail)) only [go_sem, ints, bools, mat, hbl] | ((first | apply goIf_b | apply goG_b | apply goTG_b | apply goOG_b) <;> intro h <;> ((try simp only [Bool.not_eq_true', Bool.not_eq_false'] at h); (try simp only [h]); (try simp only [decide_eq_true_eq, decide_eq_false_iff_not, bne_iff_ne, bne_eq_false_iff_eq, beq_iff_eq, beq_eq_false_iff_ne, ne_eq, Int.not_lt, Int.not_le, Bool.and_eq_true, Bool.and_eq_false_iff, Bool.or_eq_true, Bool.or_eq_false_iff] at h)) <;> (try (exfalso; omega))))
  · rw [pkR, if_neg h]
    generalize bcM l d = b at h
    repeat' (first | simp -implicitDefEqProofs (maxSteps := 1000000) (disch := (first | omega | (simp only [go_sem] <;> omega) | fail)) only [go_sem, ints, bools, mat] | ((first | apply goIf_b | apply goG_b | apply goTG_b | apply goOG_b) <;> intro h <;> ((try simp only [Bool.not_eq_true', Bool.not_eq_false'] at h); (try simp only [h]); (try simp only [decide_eq_true_eq, decide_eq_false_iff_not, bne_iff_ne, bne_eq_false_iff_eq, beq_iff_eq, beq_eq_false_iff_ne, ne_eq, Int.not_lt, Int.not_le, Bool.and_eq_true, Bool.and_eq_false_iff, Bool.or_eq_true, Bool.or_eq_false_iff] at h)) <;> (try (exfalso; omega))))
theorem d_spec_PackingBound (l : List Int) (d : Int) (hl : l.length < 1048577) : Den PA f_spec_PackingBound [.d (.agg [ints l]), .d (di d)] [.any, .any] (pkR l d) := by
  refine den_go [] l_spec_PackingBound ?_
  repeat' (first | simp -implicitDefEqProofs (maxSteps := 1000000) (disch := (first | omega | (simp only [go_sem] <;> omega) | fail)) only [go_sem, ints, bools, mat, c_spec_PackingBound] | ((first | apply goIf_b | apply goG_b | apply goTG_b | apply goOG_b) <;> intro h <;> ((try simp only [Bool.not_eq_true', Bool.not_eq_false'] at h); (try simp only [h]); (try simp only [decide_eq_true_eq, decide_eq_false_iff_not, bne_iff_ne, bne_eq_false_iff_eq, beq_iff_eq, beq_eq_false_iff_ne, ne_eq, Int.not_lt, Int.not_le, Bool.and_eq_true, Bool.and_eq_false_iff, Bool.or_eq_true, Bool.or_eq_false_iff] at h)) <;> (try (exfalso; omega))))
  first | refine goC_call [.r, .r, .r, .r] (d_spec_l04Code9 l hl d) ?_ | refine goOC_call [.r, .r, .r, .r] (d_spec_l04Code9 l hl d) ?_
  by_cases h : bcM l d = 0
  · rw [pkR, if_pos h, h]
    obtain ⟨hs, hd⟩ := bcM_ok h
    have hp1 := prodM_pos (isSpaceM_szs hs)
    have hpr := isSpaceM_prod hs
    have hn := isSpaceM_n hs
    have hr0 : 0 ≤ (d - 1) / 2 := by omega
    have hbz := bz_pos hs hr0
    have hq0 : 0 ≤ prodM l / bzM l ((d - 1) / 2) := Int.ediv_nonneg (by omega) (by omega)
    have hq1 : prodM l / bzM l ((d - 1) / 2) ≤ prodM l := Int.ediv_le_self _ (by omega)
    repeat' (first | simp -implicitDefEqProofs (maxSteps := 1000000) (disch := (first | omega | (simp only [go_sem] <;> omega) | fail)) only [go_sem, ints, bools, mat] | ((first | apply goIf_b | apply goG_b | apply goTG_b | apply goOG_b) <;> intro h <;> ((try simp only [Bool.not_eq_true', Bool.not_eq_false'] at h); (try simp only [h]); (try simp only [decide_eq_true_eq, decide_eq_false_iff_not, bne_iff_ne, bne_eq_false_iff_eq, beq_iff_eq, beq_eq_false_iff_ne, ne_eq, Int.not_lt, Int.not_le, Bool.and_eq_true, Bool.and_eq_false_iff, Bool.or_eq_true, Bool.or_eq_false_iff] at h)) <;> (try (exfalso; omega))))
    first | refine goC_call [.r] (d_spec_l01N l (by omega) (isSpaceM_q hs)) ?_ | refine goOC_call [.r] (d_spec_l01N l (by omega) (isSpaceM_q hs)) ?_
    repeat' (first | simp -implicitDefEqProofs (maxSteps := 1000000) (disch := (first | omega | (simp only [go_sem] <;> omega) | fail)) only [go_sem, ints, bools, mat] | ((first | apply goIf_b | apply goG_b | apply goTG_b | apply goOG_b) <;> intro h <;> ((try simp only [Bool.not_eq_true', Bool.not_eq_false'] at h); (try simp only [h]); (try simp only [decide_eq_true_eq, decide_eq_false_iff_not, bne_iff_ne, bne_eq_false_iff_eq, beq_iff_eq, beq_eq_false_iff_ne, ne_eq, Int.not_lt, Int.not_le, Bool.and_eq_true, Bool.and_eq_false_iff, Bool.or_eq_true, Bool.or_eq_false_iff] at h)) <;> (try (exfalso; omega))))
    first | refine goC_call [.r, .r] (d_spec_l01Size l hs ((d - 1) / 2) hr0 (by omega)) ?_ | refine goOC_call [.r, .r] (d_spec_l01Size l hs ((d - 1) / 2) hr0 (by omega)) ?_
    repeat' (first | simp -implicitDefEqProofs (maxSteps := 1000000) (disch := (first | omega | (simp only [go_sem] <;> omega) | fail)) only [go_sem, ints, bools, mat] | ((first | apply goIf_b | apply goG_b | apply goTG_b | apply goOG_b) <;> intro h <;> ((try simp only [Bool.not_eq_true', Bool.not_eq_false'] at h); (try simp only [h]); (try simp only [decide_eq_true_eq, decide_eq_false_iff_not, bne_iff_ne, bne_eq_false_iff_eq, beq_iff_eq, beq_eq_false_iff_ne, ne_eq, Int.not_lt, Int.not_le, Bool.and_eq_true, Bool.and_eq_false_iff, Bool.or_eq_true, Bool.or_eq_false_iff] at h)) <;> (try (exfalso; omega))))
  · rw [pkR, if_neg h]
    generalize bcM l d = b at h
    repeat' (first | simp -implicitDefEqProofs (maxSteps := 1000000) (disch := (first | omega | (simp only [go_sem] <;> omega) | fail)) only [go_sem, ints, bools, mat] | ((first | apply goIf_b | apply goG_b | apply goTG_b | apply goOG_b) <;> intro h <;> ((try simp only [Bool.not_eq_true', Bool.not_eq_false'] at h); (try simp only [h]); (try simp only [decide_eq_true_eq, decide_eq_false_iff_not, bne_iff_ne, bne_eq_false_iff_eq, beq_iff_eq, beq_eq_false_iff_ne, ne_eq, Int.not_lt, Int.not_le, Bool.and_eq_true, Bool.and_eq_false_iff, Bool.or_eq_true, Bool.or_eq_false_iff] at h)) <;> (try (exfalso; omega))))
theorem ex_l04Draw {cd : D} {l : List Int} (H : SrcH cd l) {lo hi : Int} (h0 : 0 ≤ lo) (h1 : lo ≤ 2) (h2 : 0 ≤ hi) (h3 : hi ≤ 9) : ∃ (X : D) (o : List Int) (d : Int), drL X o ∧ in64 d ∧ Den PA f_spec_l04Draw [.d cd, .d (di lo), .d (di hi)] [.any, .any, .any] (.tup [.d (.agg [X]), .d (di d)]) := by
  obtain ⟨s0, hs0, d0⟩ := ex_from H
  obtain ⟨x, s1, hs1, hx, d1⟩ := ex_draw H hs0
  have hd1 := d1.le .frzA
  obtain ⟨X, o, s2, hs2, hX, d2⟩ := ex_bad H hs1 hx
  obtain ⟨n, s3, hs3, hn, d3⟩ := ex_near H hs2 (most := hi) h2 (by omega)
  obtain ⟨d, s4, hs4, hd, d4⟩ := ex_pik H hs3 [lo, lo + 1, lo + 2, n] (by simp) (by simp)
  have hdi : in64 d := by
    simp only [List.mem_cons, List.mem_nil_iff, or_false] at hd
    unfold in64 at *
    omega
  refine ⟨X, o, d, hX, hdi, den_go [] l_spec_l04Draw ?_⟩
  repeat' (first | simp -implicitDefEqProofs (maxSteps := 1000000) (disch := (first | omega | (simp only [go_sem] <;> omega) | fail)) only [go_sem, ints, bools, mat, c_spec_l04Draw, srcR] | ((first | apply goIf_b | apply goG_b | apply goTG_b | apply goOG_b) <;> intro h <;> ((try simp only [Bool.not_eq_true', Bool.not_eq_false'] at h); (try simp only [h]); (try simp only [decide_eq_true_eq, decide_eq_false_iff_not, bne_iff_ne, bne_eq_false_iff_eq, beq_iff_eq, beq_eq_false_iff_ne, ne_eq, Int.not_lt, Int.not_le, Bool.and_eq_true, Bool.and_eq_false_iff, Bool.or_eq_true, Bool.or_eq_false_iff] at h)) <;> (try (exfalso; omega))))
  first | refine goC_call [.r] (d0) ?_ | refine goOC_call [.r] (d0) ?_
  repeat' (first | simp -implicitDefEqProofs (maxSteps := 1000000) (disch := (first | omega | (simp only [go_sem] <;> omega) | fail)) only [go_sem, ints, bools, mat] | ((first | apply goIf_b | apply goG_b | apply goTG_b | apply goOG_b) <;> intro h <;> ((try simp only [Bool.not_eq_true', Bool.not_eq_false'] at h); (try simp only [h]); (try simp only [decide_eq_true_eq, decide_eq_false_iff_not, bne_iff_ne, bne_eq_false_iff_eq, beq_iff_eq, beq_eq_false_iff_ne, ne_eq, Int.not_lt, Int.not_le, Bool.and_eq_true, Bool.and_eq_false_iff, Bool.or_eq_true, Bool.or_eq_false_iff] at h)) <;> (try (exfalso; omega))))
  first | refine goC_call [.bm] (hd1) ?_ | refine goOC_call [.bm] (hd1) ?_
  repeat' (first | simp -implicitDefEqProofs (maxSteps := 1000000) (disch := (first | omega | (simp only [go_sem] <;> omega) | fail)) only [go_sem, ints, bools, mat] | ((first | apply goIf_b | apply goG_b | apply goTG_b | apply goOG_b) <;> intro h <;> ((try simp only [Bool.not_eq_true', Bool.not_eq_false'] at h); (try simp only [h]); (try simp only [decide_eq_true_eq, decide_eq_false_iff_not, bne_iff_ne, bne_eq_false_iff_eq, beq_iff_eq, beq_eq_false_iff_ne, ne_eq, Int.not_lt, Int.not_le, Bool.and_eq_true, Bool.and_eq_false_iff, Bool.or_eq_true, Bool.or_eq_false_iff] at h)) <;> (try (exfalso; omega))))
  first | refine goC_call [.bm, .r] (d2) ?_ | refine goOC_call [.bm, .r] (d2) ?_
  repeat' (first | simp -implicitDefEqProofs (maxSteps := 1000000) (disch := (first | omega | (simp only [go_sem] <;> omega) | fail)) only [go_sem, ints, bools, mat] | ((first | apply goIf_b | apply goG_b | apply goTG_b | apply goOG_b) <;> intro h <;> ((try simp only [Bool.not_eq_true', Bool.not_eq_false'] at h); (try simp only [h]); (try simp only [decide_eq_true_eq, decide_eq_false_iff_not, bne_iff_ne, bne_eq_false_iff_eq, beq_iff_eq, beq_eq_false_iff_ne, ne_eq, Int.not_lt, Int.not_le, Bool.and_eq_true, Bool.and_eq_false_iff, Bool.or_eq_true, Bool.or_eq_false_iff] at h)) <;> (try (exfalso; omega))))
  first | refine goC_call [.bm, .r] (d3) ?_ | refine goOC_call [.bm, .r] (d3) ?_
  repeat' (first | simp -implicitDefEqProofs (maxSteps := 1000000) (disch := (first | omega | (simp only [go_sem] <;> omega) | fail)) only [go_sem, ints, bools, mat] | ((first | apply goIf_b | apply goG_b | apply goTG_b | apply goOG_b) <;> intro h <;> ((try simp only [Bool.not_eq_true', Bool.not_eq_false'] at h); (try simp only [h]); (try simp only [decide_eq_true_eq, decide_eq_false_iff_not, bne_iff_ne, bne_eq_false_iff_eq, beq_iff_eq, beq_eq_false_iff_ne, ne_eq, Int.not_lt, Int.not_le, Bool.and_eq_true, Bool.and_eq_false_iff, Bool.or_eq_true, Bool.or_eq_false_iff] at h)) <;> (try (exfalso; omega))))
  first | refine goC_call [.bm, .f] (d4) ?_ | refine goOC_call [.bm, .f] (d4) ?_
  repeat' (first | simp -implicitDefEqProofs (maxSteps := 1000000) (disch := (first | omega | (simp only [go_sem] <;> omega) | fail)) only [go_sem, ints, bools, mat] | ((first | apply goIf_b | apply goG_b | apply goTG_b | apply goOG_b) <;> intro h <;> ((try simp only [Bool.not_eq_true', Bool.not_eq_false'] at h); (try simp only [h]); (try simp only [decide_eq_true_eq, decide_eq_false_iff_not, bne_iff_ne, bne_eq_false_iff_eq, beq_iff_eq, beq_eq_false_iff_ne, ne_eq, Int.not_lt, Int.not_le, Bool.and_eq_true, Bool.and_eq_false_iff, Bool.or_eq_true, Bool.or_eq_false_iff] at h)) <;> (try (exfalso; omega))))
def fewT : List (List Int) := [[2], [3], [2, 2], [2, 3], [3, 3], [4, 3], [2, 2, 2], [2, 2, 3], [2, 3, 3], [3, 3, 3], [2, 2, 2, 2], [4, 4], [2, 3, 4], [2, 2, 4], [4, 2, 3], [3, 2, 2, 2]]
theorem fewT_ok : ∀ i : Fin 16, isSpaceM (fewT.getD i.1 []) = true := by decide
theorem few_row {n : Nat} (h : n < 16) : (flat (fewT.map ints))[n]? = some (ints (fewT.getD n [])) := by
  rw [show flat (fewT.map ints) = fewT.map ints from rfl]
  rw [List.getElem?_map, List.getElem?_eq_getElem (show n < fewT.length from h), List.getD_eq_getElem?_getD, List.getElem?_eq_getElem (show n < fewT.length from h)]; rfl
theorem ex_l04Few {cd : D} {l : List Int} (H : SrcH cd l) {lo hi : Int} (h0 : 0 ≤ lo) (h1 : lo ≤ 2) (h2 : 0 ≤ hi) (h3 : hi ≤ 9) : ∃ (X : D) (o : List Int) (d : Int), drL X o ∧ in64 d ∧ Den PA f_spec_l04Few [.d cd, .d (di lo), .d (di hi)] [.any, .any, .any] (.tup [.d (.agg [X]), .d (di d)]) := by
  obtain ⟨s0, hs0, d0⟩ := ex_from H
  obtain ⟨v, s1, hs1, v1, v2, d1⟩ := ex_nxt H hs0 (q := 16) (by omega)
  obtain ⟨i, rfl⟩ : ∃ i : Nat, v = (i : Int) := ⟨v.toNat, by omega⟩
  have hi16 : i < 16 := by omega
  have hx0 := fewT_ok ⟨i, hi16⟩
  have hn0 := isSpaceM_n hx0
  have hrow := few_row hi16
  dsimp only at hx0 hn0
  generalize fewT.getD i [] = x0 at *
  have hown := (d_own_f (x := x0) (by omega)).le .frz
  obtain ⟨v2, s2, hs2, _, _, d2⟩ := ex_nxt H hs1 (q := 20) (by omega)
  by_cases hv : v2 = 0
  · subst hv
    obtain ⟨x, s3, hs3, hx, d3⟩ := ex_draw H hs2
    have hd3 := d3.le .frzA
    obtain ⟨X, o, s4, hs4, hX, d4⟩ := ex_bad H hs3 hx
    obtain ⟨n, s5, hs5, hn, d5⟩ := ex_near H hs4 (most := hi) h2 (by omega)
    obtain ⟨d, s6, hs6, hd, d6⟩ := ex_pik H hs5 [lo, lo, lo + 1, lo + 2, n] (by simp) (by simp)
    have hdi : in64 d := by
      simp only [List.mem_cons, List.mem_nil_iff, or_false] at hd
      unfold in64 at *
      omega
    refine ⟨X, o, d, hX, hdi, den_go [] l_spec_l04Few ?_⟩
    repeat' (first | simp -implicitDefEqProofs (maxSteps := 1000000) (disch := (first | omega | (simp only [go_sem] <;> omega) | fail)) only [go_sem, ints, bools, mat, c_spec_l04Few, srcR] | ((first | apply goIf_b | apply goG_b | apply goTG_b | apply goOG_b) <;> intro h <;> ((try simp only [Bool.not_eq_true', Bool.not_eq_false'] at h); (try simp only [h]); (try simp only [decide_eq_true_eq, decide_eq_false_iff_not, bne_iff_ne, bne_eq_false_iff_eq, beq_iff_eq, beq_eq_false_iff_ne, ne_eq, Int.not_lt, Int.not_le, Bool.and_eq_true, Bool.and_eq_false_iff, Bool.or_eq_true, Bool.or_eq_false_iff] at h)) <;> (try (exfalso; omega))))
    first | refine goC_call [.r] (d0) ?_ | refine goOC_call [.r] (d0) ?_
    repeat' (first | simp -implicitDefEqProofs (maxSteps := 1000000) (disch := (first | omega | (simp only [go_sem] <;> omega) | fail)) only [go_sem, ints, bools, mat] | ((first | apply goIf_b | apply goG_b | apply goTG_b | apply goOG_b) <;> intro h <;> ((try simp only [Bool.not_eq_true', Bool.not_eq_false'] at h); (try simp only [h]); (try simp only [decide_eq_true_eq, decide_eq_false_iff_not, bne_iff_ne, bne_eq_false_iff_eq, beq_iff_eq, beq_eq_false_iff_ne, ne_eq, Int.not_lt, Int.not_le, Bool.and_eq_true, Bool.and_eq_false_iff, Bool.or_eq_true, Bool.or_eq_false_iff] at h)) <;> (try (exfalso; omega))))
    first | refine goC_call [.bm, .r] (d1) ?_ | refine goOC_call [.bm, .r] (d1) ?_
    repeat' (first | simp -implicitDefEqProofs (maxSteps := 1000000) (disch := (first | omega | (simp only [go_sem] <;> omega) | fail)) only [go_sem, ints, bools, mat] | ((first | apply goIf_b | apply goG_b | apply goTG_b | apply goOG_b) <;> intro h <;> ((try simp only [Bool.not_eq_true', Bool.not_eq_false'] at h); (try simp only [h]); (try simp only [decide_eq_true_eq, decide_eq_false_iff_not, bne_iff_ne, bne_eq_false_iff_eq, beq_iff_eq, beq_eq_false_iff_ne, ne_eq, Int.not_lt, Int.not_le, Bool.and_eq_true, Bool.and_eq_false_iff, Bool.or_eq_true, Bool.or_eq_false_iff] at h)) <;> (try (exfalso; omega))))
    erw [hrow]
    repeat' (first | simp -implicitDefEqProofs (maxSteps := 1000000) (disch := (first | omega | (simp only [go_sem] <;> omega) | fail)) only [go_sem, ints, bools, mat] | ((first | apply goIf_b | apply goG_b | apply goTG_b | apply goOG_b) <;> intro h <;> ((try simp only [Bool.not_eq_true', Bool.not_eq_false'] at h); (try simp only [h]); (try simp only [decide_eq_true_eq, decide_eq_false_iff_not, bne_iff_ne, bne_eq_false_iff_eq, beq_iff_eq, beq_eq_false_iff_ne, ne_eq, Int.not_lt, Int.not_le, Bool.and_eq_true, Bool.and_eq_false_iff, Bool.or_eq_true, Bool.or_eq_false_iff] at h)) <;> (try (exfalso; omega))))
    first | refine goC_call [.r] (hown) ?_ | refine goOC_call [.r] (hown) ?_
    repeat' (first | simp -implicitDefEqProofs (maxSteps := 1000000) (disch := (first | omega | (simp only [go_sem] <;> omega) | fail)) only [go_sem, ints, bools, mat] | ((first | apply goIf_b | apply goG_b | apply goTG_b | apply goOG_b) <;> intro h <;> ((try simp only [Bool.not_eq_true', Bool.not_eq_false'] at h); (try simp only [h]); (try simp only [decide_eq_true_eq, decide_eq_false_iff_not, bne_iff_ne, bne_eq_false_iff_eq, beq_iff_eq, beq_eq_false_iff_ne, ne_eq, Int.not_lt, Int.not_le, Bool.and_eq_true, Bool.and_eq_false_iff, Bool.or_eq_true, Bool.or_eq_false_iff] at h)) <;> (try (exfalso; omega))))
    first | refine goC_call [.bm, .r] (d2) ?_ | refine goOC_call [.bm, .r] (d2) ?_
    repeat' (first | simp -implicitDefEqProofs (maxSteps := 1000000) (disch := (first | omega | (simp only [go_sem] <;> omega) | fail)) only [go_sem, ints, bools, mat] | ((first | apply goIf_b | apply goG_b | apply goTG_b | apply goOG_b) <;> intro h <;> ((try simp only [Bool.not_eq_true', Bool.not_eq_false'] at h); (try simp only [h]); (try simp only [decide_eq_true_eq, decide_eq_false_iff_not, bne_iff_ne, bne_eq_false_iff_eq, beq_iff_eq, beq_eq_false_iff_ne, ne_eq, Int.not_lt, Int.not_le, Bool.and_eq_true, Bool.and_eq_false_iff, Bool.or_eq_true, Bool.or_eq_false_iff] at h)) <;> (try (exfalso; omega))))
    first | refine goC_call [.bm] (hd3) ?_ | refine goOC_call [.bm] (hd3) ?_
    repeat' (first | simp -implicitDefEqProofs (maxSteps := 1000000) (disch := (first | omega | (simp only [go_sem] <;> omega) | fail)) only [go_sem, ints, bools, mat] | ((first | apply goIf_b | apply goG_b | apply goTG_b | apply goOG_b) <;> intro h <;> ((try simp only [Bool.not_eq_true', Bool.not_eq_false'] at h); (try simp only [h]); (try simp only [decide_eq_true_eq, decide_eq_false_iff_not, bne_iff_ne, bne_eq_false_iff_eq, beq_iff_eq, beq_eq_false_iff_ne, ne_eq, Int.not_lt, Int.not_le, Bool.and_eq_true, Bool.and_eq_false_iff, Bool.or_eq_true, Bool.or_eq_false_iff] at h)) <;> (try (exfalso; omega))))
    first | refine goC_call [.bm, .r] (d4) ?_ | refine goOC_call [.bm, .r] (d4) ?_
    repeat' (first | simp -implicitDefEqProofs (maxSteps := 1000000) (disch := (first | omega | (simp only [go_sem] <;> omega) | fail)) only [go_sem, ints, bools, mat] | ((first | apply goIf_b | apply goG_b | apply goTG_b | apply goOG_b) <;> intro h <;> ((try simp only [Bool.not_eq_true', Bool.not_eq_false'] at h); (try simp only [h]); (try simp only [decide_eq_true_eq, decide_eq_false_iff_not, bne_iff_ne, bne_eq_false_iff_eq, beq_iff_eq, beq_eq_false_iff_ne, ne_eq, Int.not_lt, Int.not_le, Bool.and_eq_true, Bool.and_eq_false_iff, Bool.or_eq_true, Bool.or_eq_false_iff] at h)) <;> (try (exfalso; omega))))
    first | refine goC_call [.bm, .r] (d5) ?_ | refine goOC_call [.bm, .r] (d5) ?_
    repeat' (first | simp -implicitDefEqProofs (maxSteps := 1000000) (disch := (first | omega | (simp only [go_sem] <;> omega) | fail)) only [go_sem, ints, bools, mat] | ((first | apply goIf_b | apply goG_b | apply goTG_b | apply goOG_b) <;> intro h <;> ((try simp only [Bool.not_eq_true', Bool.not_eq_false'] at h); (try simp only [h]); (try simp only [decide_eq_true_eq, decide_eq_false_iff_not, bne_iff_ne, bne_eq_false_iff_eq, beq_iff_eq, beq_eq_false_iff_ne, ne_eq, Int.not_lt, Int.not_le, Bool.and_eq_true, Bool.and_eq_false_iff, Bool.or_eq_true, Bool.or_eq_false_iff] at h)) <;> (try (exfalso; omega))))
    first | refine goC_call [.bm, .f] (d6) ?_ | refine goOC_call [.bm, .f] (d6) ?_
    repeat' (first | simp -implicitDefEqProofs (maxSteps := 1000000) (disch := (first | omega | (simp only [go_sem] <;> omega) | fail)) only [go_sem, ints, bools, mat] | ((first | apply goIf_b | apply goG_b | apply goTG_b | apply goOG_b) <;> intro h <;> ((try simp only [Bool.not_eq_true', Bool.not_eq_false'] at h); (try simp only [h]); (try simp only [decide_eq_true_eq, decide_eq_false_iff_not, bne_iff_ne, bne_eq_false_iff_eq, beq_iff_eq, beq_eq_false_iff_ne, ne_eq, Int.not_lt, Int.not_le, Bool.and_eq_true, Bool.and_eq_false_iff, Bool.or_eq_true, Bool.or_eq_false_iff] at h)) <;> (try (exfalso; omega))))
  · obtain ⟨X, o, s4, hs4, hX, d4⟩ := ex_bad H hs2 hx0
    obtain ⟨n, s5, hs5, hn, d5⟩ := ex_near H hs4 (most := hi) h2 (by omega)
    obtain ⟨d, s6, hs6, hd, d6⟩ := ex_pik H hs5 [lo, lo, lo + 1, lo + 2, n] (by simp) (by simp)
    have hdi : in64 d := by
      simp only [List.mem_cons, List.mem_nil_iff, or_false] at hd
      unfold in64 at *
      omega
    refine ⟨X, o, d, hX, hdi, den_go [] l_spec_l04Few ?_⟩
    repeat' (first | simp -implicitDefEqProofs (maxSteps := 1000000) (disch := (first | omega | (simp only [go_sem] <;> omega) | fail)) only [go_sem, ints, bools, mat, c_spec_l04Few, srcR] | ((first | apply goIf_b | apply goG_b | apply goTG_b | apply goOG_b) <;> intro h <;> ((try simp only [Bool.not_eq_true', Bool.not_eq_false'] at h); (try simp only [h]); (try simp only [decide_eq_true_eq, decide_eq_false_iff_not, bne_iff_ne, bne_eq_false_iff_eq, beq_iff_eq, beq_eq_false_iff_ne, ne_eq, Int.not_lt, Int.not_le, Bool.and_eq_true, Bool.and_eq_false_iff, Bool.or_eq_true, Bool.or_eq_false_iff] at h)) <;> (try (exfalso; omega))))
    first | refine goC_call [.r] (d0) ?_ | refine goOC_call [.r] (d0) ?_
    repeat' (first | simp -implicitDefEqProofs (maxSteps := 1000000) (disch := (first | omega | (simp only [go_sem] <;> omega) | fail)) only [go_sem, ints, bools, mat] | ((first | apply goIf_b | apply goG_b | apply goTG_b | apply goOG_b) <;> intro h <;> ((try simp only [Bool.not_eq_true', Bool.not_eq_false'] at h); (try simp only [h]); (try simp only [decide_eq_true_eq, decide_eq_false_iff_not, bne_iff_ne, bne_eq_false_iff_eq, beq_iff_eq, beq_eq_false_iff_ne, ne_eq, Int.not_lt, Int.not_le, Bool.and_eq_true, Bool.and_eq_false_iff, Bool.or_eq_true, Bool.or_eq_false_iff] at h)) <;> (try (exfalso; omega))))
    first | refine goC_call [.bm, .r] (d1) ?_ | refine goOC_call [.bm, .r] (d1) ?_
    repeat' (first | simp -implicitDefEqProofs (maxSteps := 1000000) (disch := (first | omega | (simp only [go_sem] <;> omega) | fail)) only [go_sem, ints, bools, mat] | ((first | apply goIf_b | apply goG_b | apply goTG_b | apply goOG_b) <;> intro h <;> ((try simp only [Bool.not_eq_true', Bool.not_eq_false'] at h); (try simp only [h]); (try simp only [decide_eq_true_eq, decide_eq_false_iff_not, bne_iff_ne, bne_eq_false_iff_eq, beq_iff_eq, beq_eq_false_iff_ne, ne_eq, Int.not_lt, Int.not_le, Bool.and_eq_true, Bool.and_eq_false_iff, Bool.or_eq_true, Bool.or_eq_false_iff] at h)) <;> (try (exfalso; omega))))
    erw [hrow]
    repeat' (first | simp -implicitDefEqProofs (maxSteps := 1000000) (disch := (first | omega | (simp only [go_sem] <;> omega) | fail)) only [go_sem, ints, bools, mat] | ((first | apply goIf_b | apply goG_b | apply goTG_b | apply goOG_b) <;> intro h <;> ((try simp only [Bool.not_eq_true', Bool.not_eq_false'] at h); (try simp only [h]); (try simp only [decide_eq_true_eq, decide_eq_false_iff_not, bne_iff_ne, bne_eq_false_iff_eq, beq_iff_eq, beq_eq_false_iff_ne, ne_eq, Int.not_lt, Int.not_le, Bool.and_eq_true, Bool.and_eq_false_iff, Bool.or_eq_true, Bool.or_eq_false_iff] at h)) <;> (try (exfalso; omega))))
    first | refine goC_call [.r] (hown) ?_ | refine goOC_call [.r] (hown) ?_
    repeat' (first | simp -implicitDefEqProofs (maxSteps := 1000000) (disch := (first | omega | (simp only [go_sem] <;> omega) | fail)) only [go_sem, ints, bools, mat] | ((first | apply goIf_b | apply goG_b | apply goTG_b | apply goOG_b) <;> intro h <;> ((try simp only [Bool.not_eq_true', Bool.not_eq_false'] at h); (try simp only [h]); (try simp only [decide_eq_true_eq, decide_eq_false_iff_not, bne_iff_ne, bne_eq_false_iff_eq, beq_iff_eq, beq_eq_false_iff_ne, ne_eq, Int.not_lt, Int.not_le, Bool.and_eq_true, Bool.and_eq_false_iff, Bool.or_eq_true, Bool.or_eq_false_iff] at h)) <;> (try (exfalso; omega))))
    first | refine goC_call [.bm, .r] (d2) ?_ | refine goOC_call [.bm, .r] (d2) ?_
    repeat' (first | simp -implicitDefEqProofs (maxSteps := 1000000) (disch := (first | omega | (simp only [go_sem] <;> omega) | fail)) only [go_sem, ints, bools, mat] | ((first | apply goIf_b | apply goG_b | apply goTG_b | apply goOG_b) <;> intro h <;> ((try simp only [Bool.not_eq_true', Bool.not_eq_false'] at h); (try simp only [h]); (try simp only [decide_eq_true_eq, decide_eq_false_iff_not, bne_iff_ne, bne_eq_false_iff_eq, beq_iff_eq, beq_eq_false_iff_ne, ne_eq, Int.not_lt, Int.not_le, Bool.and_eq_true, Bool.and_eq_false_iff, Bool.or_eq_true, Bool.or_eq_false_iff] at h)) <;> (try (exfalso; omega))))
    first | refine goC_call [.bm, .r] (d4) ?_ | refine goOC_call [.bm, .r] (d4) ?_
    repeat' (first | simp -implicitDefEqProofs (maxSteps := 1000000) (disch := (first | omega | (simp only [go_sem] <;> omega) | fail)) only [go_sem, ints, bools, mat] | ((first | apply goIf_b | apply goG_b | apply goTG_b | apply goOG_b) <;> intro h <;> ((try simp only [Bool.not_eq_true', Bool.not_eq_false'] at h); (try simp only [h]); (try simp only [decide_eq_true_eq, decide_eq_false_iff_not, bne_iff_ne, bne_eq_false_iff_eq, beq_iff_eq, beq_eq_false_iff_ne, ne_eq, Int.not_lt, Int.not_le, Bool.and_eq_true, Bool.and_eq_false_iff, Bool.or_eq_true, Bool.or_eq_false_iff] at h)) <;> (try (exfalso; omega))))
    first | refine goC_call [.bm, .r] (d5) ?_ | refine goOC_call [.bm, .r] (d5) ?_
    repeat' (first | simp -implicitDefEqProofs (maxSteps := 1000000) (disch := (first | omega | (simp only [go_sem] <;> omega) | fail)) only [go_sem, ints, bools, mat] | ((first | apply goIf_b | apply goG_b | apply goTG_b | apply goOG_b) <;> intro h <;> ((try simp only [Bool.not_eq_true', Bool.not_eq_false'] at h); (try simp only [h]); (try simp only [decide_eq_true_eq, decide_eq_false_iff_not, bne_iff_ne, bne_eq_false_iff_eq, beq_iff_eq, beq_eq_false_iff_ne, ne_eq, Int.not_lt, Int.not_le, Bool.and_eq_true, Bool.and_eq_false_iff, Bool.or_eq_true, Bool.or_eq_false_iff] at h)) <;> (try (exfalso; omega))))
    first | refine goC_call [.bm, .f] (d6) ?_ | refine goOC_call [.bm, .f] (d6) ?_
    repeat' (first | simp -implicitDefEqProofs (maxSteps := 1000000) (disch := (first | omega | (simp only [go_sem] <;> omega) | fail)) only [go_sem, ints, bools, mat] | ((first | apply goIf_b | apply goG_b | apply goTG_b | apply goOG_b) <;> intro h <;> ((try simp only [Bool.not_eq_true', Bool.not_eq_false'] at h); (try simp only [h]); (try simp only [decide_eq_true_eq, decide_eq_false_iff_not, bne_iff_ne, bne_eq_false_iff_eq, beq_iff_eq, beq_eq_false_iff_ne, ne_eq, Int.not_lt, Int.not_le, Bool.and_eq_true, Bool.and_eq_false_iff, Bool.or_eq_true, Bool.or_eq_false_iff] at h)) <;> (try (exfalso; omega))))
theorem ex_firstApart {cd : D} {l : List Int} (H : SrcH cd l) : ∃ (X : D) (o : List Int) (d : Int), drL X o ∧ in64 d ∧ Den PA f_spec_DrawFirstApart [.d cd] [.any] (.tup [.d (.agg [X]), .d (di d)]) := by
  obtain ⟨X, o, d, hX, hd, d0⟩ := ex_l04Few H (lo := 2) (hi := 9) (by omega) (by omega) (by omega) (by omega)
  refine ⟨X, o, d, hX, hd, den_go [] l_spec_DrawFirstApart ?_⟩
  repeat' (first | simp -implicitDefEqProofs (maxSteps := 1000000) (disch := (first | omega | (simp only [go_sem] <;> omega) | fail)) only [go_sem, ints, bools, mat, c_spec_DrawFirstApart] | ((first | apply goIf_b | apply goG_b | apply goTG_b | apply goOG_b) <;> intro h <;> ((try simp only [Bool.not_eq_true', Bool.not_eq_false'] at h); (try simp only [h]); (try simp only [decide_eq_true_eq, decide_eq_false_iff_not, bne_iff_ne, bne_eq_false_iff_eq, beq_iff_eq, beq_eq_false_iff_ne, ne_eq, Int.not_lt, Int.not_le, Bool.and_eq_true, Bool.and_eq_false_iff, Bool.or_eq_true, Bool.or_eq_false_iff] at h)) <;> (try (exfalso; omega))))
  first | refine goC_call [.r, .r, .r] (d0) ?_ | refine goOC_call [.r, .r, .r] (d0) ?_
  repeat' (first | simp -implicitDefEqProofs (maxSteps := 1000000) (disch := (first | omega | (simp only [go_sem] <;> omega) | fail)) only [go_sem, ints, bools, mat] | ((first | apply goIf_b | apply goG_b | apply goTG_b | apply goOG_b) <;> intro h <;> ((try simp only [Bool.not_eq_true', Bool.not_eq_false'] at h); (try simp only [h]); (try simp only [decide_eq_true_eq, decide_eq_false_iff_not, bne_iff_ne, bne_eq_false_iff_eq, beq_iff_eq, beq_eq_false_iff_ne, ne_eq, Int.not_lt, Int.not_le, Bool.and_eq_true, Bool.and_eq_false_iff, Bool.or_eq_true, Bool.or_eq_false_iff] at h)) <;> (try (exfalso; omega))))
theorem ex_greedyApart {cd : D} {l : List Int} (H : SrcH cd l) : ∃ (X : D) (o : List Int) (d : Int), drL X o ∧ in64 d ∧ Den PA f_spec_DrawGreedyApart [.d cd] [.any] (.tup [.d (.agg [X]), .d (di d)]) := by
  obtain ⟨X, o, d, hX, hd, d0⟩ := ex_l04Draw H (lo := 1) (hi := 9) (by omega) (by omega) (by omega) (by omega)
  refine ⟨X, o, d, hX, hd, den_go [] l_spec_DrawGreedyApart ?_⟩
  repeat' (first | simp -implicitDefEqProofs (maxSteps := 1000000) (disch := (first | omega | (simp only [go_sem] <;> omega) | fail)) only [go_sem, ints, bools, mat, c_spec_DrawGreedyApart] | ((first | apply goIf_b | apply goG_b | apply goTG_b | apply goOG_b) <;> intro h <;> ((try simp only [Bool.not_eq_true', Bool.not_eq_false'] at h); (try simp only [h]); (try simp only [decide_eq_true_eq, decide_eq_false_iff_not, bne_iff_ne, bne_eq_false_iff_eq, beq_iff_eq, beq_eq_false_iff_ne, ne_eq, Int.not_lt, Int.not_le, Bool.and_eq_true, Bool.and_eq_false_iff, Bool.or_eq_true, Bool.or_eq_false_iff] at h)) <;> (try (exfalso; omega))))
  first | refine goC_call [.r, .r, .r] (d0) ?_ | refine goOC_call [.r, .r, .r] (d0) ?_
  repeat' (first | simp -implicitDefEqProofs (maxSteps := 1000000) (disch := (first | omega | (simp only [go_sem] <;> omega) | fail)) only [go_sem, ints, bools, mat] | ((first | apply goIf_b | apply goG_b | apply goTG_b | apply goOG_b) <;> intro h <;> ((try simp only [Bool.not_eq_true', Bool.not_eq_false'] at h); (try simp only [h]); (try simp only [decide_eq_true_eq, decide_eq_false_iff_not, bne_iff_ne, bne_eq_false_iff_eq, beq_iff_eq, beq_eq_false_iff_ne, ne_eq, Int.not_lt, Int.not_le, Bool.and_eq_true, Bool.and_eq_false_iff, Bool.or_eq_true, Bool.or_eq_false_iff] at h)) <;> (try (exfalso; omega))))
theorem greed_in {x : List Int} (hx : isSpaceM x = true) (d : Int) : inC x (greedM x d) ∧ (greedM x d).length ≤ 1024 := by
  have hp := isSpaceM_prod hx
  have hp1 := prodM_pos (isSpaceM_szs hx)
  obtain ⟨h1, h2⟩ := greedN_ok x d (prodM x).toNat
  refine ⟨fun u hu => ?_, by show (greedN x d (prodM x).toNat).length ≤ 1024; omega⟩
  obtain ⟨k, hk, rfl⟩ := List.mem_iff_getElem.1 hu
  have := h2 k hk
  rw [List.getD_eq_getElem?_getD, List.getElem?_eq_getElem hk, Option.getD_some] at this
  omega
theorem ex_drawApart {cd : D} {l : List Int} (H : SrcH cd l) : ∃ (X : D) (o c : List Int) (d : Int), drL X o ∧ c.length < 1048577 ∧ (∀ n, n ∈ c → in64 n) ∧ in64 d ∧ Den PA f_spec_l04DrawApart [.d cd] [.any] (.tup [.d (.agg [X]), .own 1 (c.map di), .d (di d)]) := by
  obtain ⟨s0, hs0, d0⟩ := ex_from H
  obtain ⟨x, s1, hs1, hx, d1⟩ := ex_small H hs0
  have hd1 := d1.le .frzA
  have hn := isSpaceM_n hx
  obtain ⟨c0, s2, hs2, hc0, hcx, d2⟩ := ex_drawCode H hs1 hx
  have hd2 := d2.le .frz
  obtain ⟨n, s3, hs3, hn3, d3⟩ := ex_near H hs2 (most := 9) (by omega) (by omega)
  obtain ⟨d, s4, hs4, hd, d4⟩ := ex_pik H hs3 [1, 2, 3, n] (by simp) (by simp)
  have hdi : in64 d := by
    simp only [List.mem_cons, List.mem_nil_iff, or_false] at hd
    unfold in64 at *
    omega
  obtain ⟨v, s5, hs5, v1, v2, d5⟩ := ex_nxt H hs4 (q := 2) (by omega)
  have hdb := hdi
  unfold in64 at hdb
  by_cases hv : v = 0
  · subst hv
    have hd9 : 1 ≤ (if (if 9 < d then (9 : Int) else d) < 1 then 1 else if 9 < d then 9 else d) ∧ (if (if 9 < d then (9 : Int) else d) < 1 then 1 else if 9 < d then 9 else d) ≤ 9 := by
      repeat' split
      all_goals omega
    generalize hdm : (if (if 9 < d then (9 : Int) else d) < 1 then 1 else if 9 < d then 9 else d) = dm at *
    have hg := d_spec_GreedyApart x dm (by omega)
    have hbc : bcM x dm = 0 := by unfold bcM; rw [if_pos hx, if_pos hd9]
    rw [lstR_ok hbc] at hg
    obtain ⟨g1, g2⟩ := greed_in hx dm
    generalize greedM x dm = G at *
    by_cases hG : 0 < G.length
    · obtain ⟨w, s6, hs6, w1, w2, d6⟩ := ex_nxt H hs5 (q := 2) (by omega)
      obtain ⟨X, o, s7, hs7, hX, d7⟩ := ex_bad H hs6 hx
      by_cases hw : w = 0
      · subst hw
        have gt : ∀ n, n ∈ G.take (G.length - 1) → in64 n := fun n hn => inC_in64 hx g1 n (List.mem_of_mem_take hn)
        obtain ⟨c, s8, hs8, hcl, hci, d8⟩ := ex_badCode H hs7 hx (c := G.take (G.length - 1)) (by rw [List.length_take]; omega) gt
        refine ⟨X, o, c, d, hX, hcl, hci, hdi, den_go [] l_spec_l04DrawApart ?_⟩
        repeat' (first | simp -implicitDefEqProofs (maxSteps := 1000000) (disch := (first | omega | (simp only [go_sem] <;> omega) | fail)) only [go_sem, ints, bools, mat, c_spec_l04DrawApart, srcR] | ((first | apply goIf_b | apply goG_b | apply goTG_b | apply goOG_b) <;> intro h <;> ((try simp only [Bool.not_eq_true', Bool.not_eq_false'] at h); (try simp only [h]); (try simp only [decide_eq_true_eq, decide_eq_false_iff_not, bne_iff_ne, bne_eq_false_iff_eq, beq_iff_eq, beq_eq_false_iff_ne, ne_eq, Int.not_lt, Int.not_le, Bool.and_eq_true, Bool.and_eq_false_iff, Bool.or_eq_true, Bool.or_eq_false_iff] at h)) <;> (try (exfalso; omega))))
        first | refine goC_call [.r] (d0) ?_ | refine goOC_call [.r] (d0) ?_
        repeat' (first | simp -implicitDefEqProofs (maxSteps := 1000000) (disch := (first | omega | (simp only [go_sem] <;> omega) | fail)) only [go_sem, ints, bools, mat] | ((first | apply goIf_b | apply goG_b | apply goTG_b | apply goOG_b) <;> intro h <;> ((try simp only [Bool.not_eq_true', Bool.not_eq_false'] at h); (try simp only [h]); (try simp only [decide_eq_true_eq, decide_eq_false_iff_not, bne_iff_ne, bne_eq_false_iff_eq, beq_iff_eq, beq_eq_false_iff_ne, ne_eq, Int.not_lt, Int.not_le, Bool.and_eq_true, Bool.and_eq_false_iff, Bool.or_eq_true, Bool.or_eq_false_iff] at h)) <;> (try (exfalso; omega))))
        first | refine goC_call [.bm] (hd1) ?_ | refine goOC_call [.bm] (hd1) ?_
        repeat' (first | simp -implicitDefEqProofs (maxSteps := 1000000) (disch := (first | omega | (simp only [go_sem] <;> omega) | fail)) only [go_sem, ints, bools, mat] | ((first | apply goIf_b | apply goG_b | apply goTG_b | apply goOG_b) <;> intro h <;> ((try simp only [Bool.not_eq_true', Bool.not_eq_false'] at h); (try simp only [h]); (try simp only [decide_eq_true_eq, decide_eq_false_iff_not, bne_iff_ne, bne_eq_false_iff_eq, beq_iff_eq, beq_eq_false_iff_ne, ne_eq, Int.not_lt, Int.not_le, Bool.and_eq_true, Bool.and_eq_false_iff, Bool.or_eq_true, Bool.or_eq_false_iff] at h)) <;> (try (exfalso; omega))))
        first | refine goC_call [.bm, .r] (hd2) ?_ | refine goOC_call [.bm, .r] (hd2) ?_
        repeat' (first | simp -implicitDefEqProofs (maxSteps := 1000000) (disch := (first | omega | (simp only [go_sem] <;> omega) | fail)) only [go_sem, ints, bools, mat] | ((first | apply goIf_b | apply goG_b | apply goTG_b | apply goOG_b) <;> intro h <;> ((try simp only [Bool.not_eq_true', Bool.not_eq_false'] at h); (try simp only [h]); (try simp only [decide_eq_true_eq, decide_eq_false_iff_not, bne_iff_ne, bne_eq_false_iff_eq, beq_iff_eq, beq_eq_false_iff_ne, ne_eq, Int.not_lt, Int.not_le, Bool.and_eq_true, Bool.and_eq_false_iff, Bool.or_eq_true, Bool.or_eq_false_iff] at h)) <;> (try (exfalso; omega))))
        first | refine goC_call [.bm, .r] (d3) ?_ | refine goOC_call [.bm, .r] (d3) ?_
        repeat' (first | simp -implicitDefEqProofs (maxSteps := 1000000) (disch := (first | omega | (simp only [go_sem] <;> omega) | fail)) only [go_sem, ints, bools, mat] | ((first | apply goIf_b | apply goG_b | apply goTG_b | apply goOG_b) <;> intro h <;> ((try simp only [Bool.not_eq_true', Bool.not_eq_false'] at h); (try simp only [h]); (try simp only [decide_eq_true_eq, decide_eq_false_iff_not, bne_iff_ne, bne_eq_false_iff_eq, beq_iff_eq, beq_eq_false_iff_ne, ne_eq, Int.not_lt, Int.not_le, Bool.and_eq_true, Bool.and_eq_false_iff, Bool.or_eq_true, Bool.or_eq_false_iff] at h)) <;> (try (exfalso; omega))))
        first | refine goC_call [.bm, .f] (d4) ?_ | refine goOC_call [.bm, .f] (d4) ?_
        repeat' (first | simp -implicitDefEqProofs (maxSteps := 1000000) (disch := (first | omega | (simp only [go_sem] <;> omega) | fail)) only [go_sem, ints, bools, mat] | ((first | apply goIf_b | apply goG_b | apply goTG_b | apply goOG_b) <;> intro h <;> ((try simp only [Bool.not_eq_true', Bool.not_eq_false'] at h); (try simp only [h]); (try simp only [decide_eq_true_eq, decide_eq_false_iff_not, bne_iff_ne, bne_eq_false_iff_eq, beq_iff_eq, beq_eq_false_iff_ne, ne_eq, Int.not_lt, Int.not_le, Bool.and_eq_true, Bool.and_eq_false_iff, Bool.or_eq_true, Bool.or_eq_false_iff] at h)) <;> (try (exfalso; omega))))
        first | refine goC_call [.bm, .r] (d5) ?_ | refine goOC_call [.bm, .r] (d5) ?_
        repeat' (first | simp -implicitDefEqProofs (maxSteps := 1000000) (disch := (first | omega | (simp only [go_sem] <;> omega) | fail)) only [go_sem, ints, bools, mat, hdm] | ((first | apply goIf_b | apply goG_b | apply goTG_b | apply goOG_b) <;> intro h <;> ((try simp only [Bool.not_eq_true', Bool.not_eq_false'] at h); (try simp only [h]); (try simp only [decide_eq_true_eq, decide_eq_false_iff_not, bne_iff_ne, bne_eq_false_iff_eq, beq_iff_eq, beq_eq_false_iff_ne, ne_eq, Int.not_lt, Int.not_le, Bool.and_eq_true, Bool.and_eq_false_iff, Bool.or_eq_true, Bool.or_eq_false_iff] at h)) <;> (try (exfalso; omega))))
        first | refine goC_call [.r, .r] (hg) ?_ | refine goOC_call [.r, .r] (hg) ?_
        repeat' (first | simp -implicitDefEqProofs (maxSteps := 1000000) (disch := (first | omega | (simp only [go_sem] <;> omega) | fail)) only [go_sem, ints, bools, mat] | ((first | apply goIf_b | apply goG_b | apply goTG_b | apply goOG_b) <;> intro h <;> ((try simp only [Bool.not_eq_true', Bool.not_eq_false'] at h); (try simp only [h]); (try simp only [decide_eq_true_eq, decide_eq_false_iff_not, bne_iff_ne, bne_eq_false_iff_eq, beq_iff_eq, beq_eq_false_iff_ne, ne_eq, Int.not_lt, Int.not_le, Bool.and_eq_true, Bool.and_eq_false_iff, Bool.or_eq_true, Bool.or_eq_false_iff] at h)) <;> (try (exfalso; omega))))
        first | refine goC_call [.bm, .r] (d6) ?_ | refine goOC_call [.bm, .r] (d6) ?_
        repeat' (first | simp -implicitDefEqProofs (maxSteps := 1000000) (disch := (first | omega | (simp only [go_sem] <;> omega) | fail)) only [go_sem, ints, bools, mat] | ((first | apply goIf_b | apply goG_b | apply goTG_b | apply goOG_b) <;> intro h <;> ((try simp only [Bool.not_eq_true', Bool.not_eq_false'] at h); (try simp only [h]); (try simp only [decide_eq_true_eq, decide_eq_false_iff_not, bne_iff_ne, bne_eq_false_iff_eq, beq_iff_eq, beq_eq_false_iff_ne, ne_eq, Int.not_lt, Int.not_le, Bool.and_eq_true, Bool.and_eq_false_iff, Bool.or_eq_true, Bool.or_eq_false_iff] at h)) <;> (try (exfalso; omega))))
        first | refine goC_call [.bm, .r] (d7) ?_ | refine goOC_call [.bm, .r] (d7) ?_
        repeat' (first | simp -implicitDefEqProofs (maxSteps := 1000000) (disch := (first | omega | (simp only [go_sem] <;> omega) | fail)) only [go_sem, ints, bools, mat] | ((first | apply goIf_b | apply goG_b | apply goTG_b | apply goOG_b) <;> intro h <;> ((try simp only [Bool.not_eq_true', Bool.not_eq_false'] at h); (try simp only [h]); (try simp only [decide_eq_true_eq, decide_eq_false_iff_not, bne_iff_ne, bne_eq_false_iff_eq, beq_iff_eq, beq_eq_false_iff_ne, ne_eq, Int.not_lt, Int.not_le, Bool.and_eq_true, Bool.and_eq_false_iff, Bool.or_eq_true, Bool.or_eq_false_iff] at h)) <;> (try (exfalso; omega))))
        first | refine goC_call [.bm, .r, .f] (d8) ?_ | refine goOC_call [.bm, .r, .f] (d8) ?_
        repeat' (first | simp -implicitDefEqProofs (maxSteps := 1000000) (disch := (first | omega | (simp only [go_sem] <;> omega) | fail)) only [go_sem, ints, bools, mat] | ((first | apply goIf_b | apply goG_b | apply goTG_b | apply goOG_b) <;> intro h <;> ((try simp only [Bool.not_eq_true', Bool.not_eq_false'] at h); (try simp only [h]); (try simp only [decide_eq_true_eq, decide_eq_false_iff_not, bne_iff_ne, bne_eq_false_iff_eq, beq_iff_eq, beq_eq_false_iff_ne, ne_eq, Int.not_lt, Int.not_le, Bool.and_eq_true, Bool.and_eq_false_iff, Bool.or_eq_true, Bool.or_eq_false_iff] at h)) <;> (try (exfalso; omega))))
      · obtain ⟨c, s8, hs8, hcl, hci, d8⟩ := ex_badCode H hs7 hx (c := G) (by omega) (inC_in64 hx g1)
        refine ⟨X, o, c, d, hX, hcl, hci, hdi, den_go [] l_spec_l04DrawApart ?_⟩
        repeat' (first | simp -implicitDefEqProofs (maxSteps := 1000000) (disch := (first | omega | (simp only [go_sem] <;> omega) | fail)) only [go_sem, ints, bools, mat, c_spec_l04DrawApart, srcR] | ((first | apply goIf_b | apply goG_b | apply goTG_b | apply goOG_b) <;> intro h <;> ((try simp only [Bool.not_eq_true', Bool.not_eq_false'] at h); (try simp only [h]); (try simp only [decide_eq_true_eq, decide_eq_false_iff_not, bne_iff_ne, bne_eq_false_iff_eq, beq_iff_eq, beq_eq_false_iff_ne, ne_eq, Int.not_lt, Int.not_le, Bool.and_eq_true, Bool.and_eq_false_iff, Bool.or_eq_true, Bool.or_eq_false_iff] at h)) <;> (try (exfalso; omega))))
        first | refine goC_call [.r] (d0) ?_ | refine goOC_call [.r] (d0) ?_
        repeat' (first | simp -implicitDefEqProofs (maxSteps := 1000000) (disch := (first | omega | (simp only [go_sem] <;> omega) | fail)) only [go_sem, ints, bools, mat] | ((first | apply goIf_b | apply goG_b | apply goTG_b | apply goOG_b) <;> intro h <;> ((try simp only [Bool.not_eq_true', Bool.not_eq_false'] at h); (try simp only [h]); (try simp only [decide_eq_true_eq, decide_eq_false_iff_not, bne_iff_ne, bne_eq_false_iff_eq, beq_iff_eq, beq_eq_false_iff_ne, ne_eq, Int.not_lt, Int.not_le, Bool.and_eq_true, Bool.and_eq_false_iff, Bool.or_eq_true, Bool.or_eq_false_iff] at h)) <;> (try (exfalso; omega))))
        first | refine goC_call [.bm] (hd1) ?_ | refine goOC_call [.bm] (hd1) ?_
        repeat' (first | simp -implicitDefEqProofs (maxSteps := 1000000) (disch := (first | omega | (simp only [go_sem] <;> omega) | fail)) only [go_sem, ints, bools, mat] | ((first | apply goIf_b | apply goG_b | apply goTG_b | apply goOG_b) <;> intro h <;> ((try simp only [Bool.not_eq_true', Bool.not_eq_false'] at h); (try simp only [h]); (try simp only [decide_eq_true_eq, decide_eq_false_iff_not, bne_iff_ne, bne_eq_false_iff_eq, beq_iff_eq, beq_eq_false_iff_ne, ne_eq, Int.not_lt, Int.not_le, Bool.and_eq_true, Bool.and_eq_false_iff, Bool.or_eq_true, Bool.or_eq_false_iff] at h)) <;> (try (exfalso; omega))))
        first | refine goC_call [.bm, .r] (hd2) ?_ | refine goOC_call [.bm, .r] (hd2) ?_
        repeat' (first | simp -implicitDefEqProofs (maxSteps := 1000000) (disch := (first | omega | (simp only [go_sem] <;> omega) | fail)) only [go_sem, ints, bools, mat] | ((first | apply goIf_b | apply goG_b | apply goTG_b | apply goOG_b) <;> intro h <;> ((try simp only [Bool.not_eq_true', Bool.not_eq_false'] at h); (try simp only [h]); (try simp only [decide_eq_true_eq, decide_eq_false_iff_not, bne_iff_ne, bne_eq_false_iff_eq, beq_iff_eq, beq_eq_false_iff_ne, ne_eq, Int.not_lt, Int.not_le, Bool.and_eq_true, Bool.and_eq_false_iff, Bool.or_eq_true, Bool.or_eq_false_iff] at h)) <;> (try (exfalso; omega))))
        first | refine goC_call [.bm, .r] (d3) ?_ | refine goOC_call [.bm, .r] (d3) ?_
        repeat' (first | simp -implicitDefEqProofs (maxSteps := 1000000) (disch := (first | omega | (simp only [go_sem] <;> omega) | fail)) only [go_sem, ints, bools, mat] | ((first | apply goIf_b | apply goG_b | apply goTG_b | apply goOG_b) <;> intro h <;> ((try simp only [Bool.not_eq_true', Bool.not_eq_false'] at h); (try simp only [h]); (try simp only [decide_eq_true_eq, decide_eq_false_iff_not, bne_iff_ne, bne_eq_false_iff_eq, beq_iff_eq, beq_eq_false_iff_ne, ne_eq, Int.not_lt, Int.not_le, Bool.and_eq_true, Bool.and_eq_false_iff, Bool.or_eq_true, Bool.or_eq_false_iff] at h)) <;> (try (exfalso; omega))))
        first | refine goC_call [.bm, .f] (d4) ?_ | refine goOC_call [.bm, .f] (d4) ?_
        repeat' (first | simp -implicitDefEqProofs (maxSteps := 1000000) (disch := (first | omega | (simp only [go_sem] <;> omega) | fail)) only [go_sem, ints, bools, mat] | ((first | apply goIf_b | apply goG_b | apply goTG_b | apply goOG_b) <;> intro h <;> ((try simp only [Bool.not_eq_true', Bool.not_eq_false'] at h); (try simp only [h]); (try simp only [decide_eq_true_eq, decide_eq_false_iff_not, bne_iff_ne, bne_eq_false_iff_eq, beq_iff_eq, beq_eq_false_iff_ne, ne_eq, Int.not_lt, Int.not_le, Bool.and_eq_true, Bool.and_eq_false_iff, Bool.or_eq_true, Bool.or_eq_false_iff] at h)) <;> (try (exfalso; omega))))
        first | refine goC_call [.bm, .r] (d5) ?_ | refine goOC_call [.bm, .r] (d5) ?_
        repeat' (first | simp -implicitDefEqProofs (maxSteps := 1000000) (disch := (first | omega | (simp only [go_sem] <;> omega) | fail)) only [go_sem, ints, bools, mat, hdm] | ((first | apply goIf_b | apply goG_b | apply goTG_b | apply goOG_b) <;> intro h <;> ((try simp only [Bool.not_eq_true', Bool.not_eq_false'] at h); (try simp only [h]); (try simp only [decide_eq_true_eq, decide_eq_false_iff_not, bne_iff_ne, bne_eq_false_iff_eq, beq_iff_eq, beq_eq_false_iff_ne, ne_eq, Int.not_lt, Int.not_le, Bool.and_eq_true, Bool.and_eq_false_iff, Bool.or_eq_true, Bool.or_eq_false_iff] at h)) <;> (try (exfalso; omega))))
        first | refine goC_call [.r, .r] (hg) ?_ | refine goOC_call [.r, .r] (hg) ?_
        repeat' (first | simp -implicitDefEqProofs (maxSteps := 1000000) (disch := (first | omega | (simp only [go_sem] <;> omega) | fail)) only [go_sem, ints, bools, mat] | ((first | apply goIf_b | apply goG_b | apply goTG_b | apply goOG_b) <;> intro h <;> ((try simp only [Bool.not_eq_true', Bool.not_eq_false'] at h); (try simp only [h]); (try simp only [decide_eq_true_eq, decide_eq_false_iff_not, bne_iff_ne, bne_eq_false_iff_eq, beq_iff_eq, beq_eq_false_iff_ne, ne_eq, Int.not_lt, Int.not_le, Bool.and_eq_true, Bool.and_eq_false_iff, Bool.or_eq_true, Bool.or_eq_false_iff] at h)) <;> (try (exfalso; omega))))
        first | refine goC_call [.bm, .r] (d6) ?_ | refine goOC_call [.bm, .r] (d6) ?_
        repeat' (first | simp -implicitDefEqProofs (maxSteps := 1000000) (disch := (first | omega | (simp only [go_sem] <;> omega) | fail)) only [go_sem, ints, bools, mat] | ((first | apply goIf_b | apply goG_b | apply goTG_b | apply goOG_b) <;> intro h <;> ((try simp only [Bool.not_eq_true', Bool.not_eq_false'] at h); (try simp only [h]); (try simp only [decide_eq_true_eq, decide_eq_false_iff_not, bne_iff_ne, bne_eq_false_iff_eq, beq_iff_eq, beq_eq_false_iff_ne, ne_eq, Int.not_lt, Int.not_le, Bool.and_eq_true, Bool.and_eq_false_iff, Bool.or_eq_true, Bool.or_eq_false_iff] at h)) <;> (try (exfalso; omega))))
        first | refine goC_call [.bm, .r] (d7) ?_ | refine goOC_call [.bm, .r] (d7) ?_
        repeat' (first | simp -implicitDefEqProofs (maxSteps := 1000000) (disch := (first | omega | (simp only [go_sem] <;> omega) | fail)) only [go_sem, ints, bools, mat] | ((first | apply goIf_b | apply goG_b | apply goTG_b | apply goOG_b) <;> intro h <;> ((try simp only [Bool.not_eq_true', Bool.not_eq_false'] at h); (try simp only [h]); (try simp only [decide_eq_true_eq, decide_eq_false_iff_not, bne_iff_ne, bne_eq_false_iff_eq, beq_iff_eq, beq_eq_false_iff_ne, ne_eq, Int.not_lt, Int.not_le, Bool.and_eq_true, Bool.and_eq_false_iff, Bool.or_eq_true, Bool.or_eq_false_iff] at h)) <;> (try (exfalso; omega))))
        first | refine goC_call [.bm, .r, .f] (d8) ?_ | refine goOC_call [.bm, .r, .f] (d8) ?_
        repeat' (first | simp -implicitDefEqProofs (maxSteps := 1000000) (disch := (first | omega | (simp only [go_sem] <;> omega) | fail)) only [go_sem, ints, bools, mat] | ((first | apply goIf_b | apply goG_b | apply goTG_b | apply goOG_b) <;> intro h <;> ((try simp only [Bool.not_eq_true', Bool.not_eq_false'] at h); (try simp only [h]); (try simp only [decide_eq_true_eq, decide_eq_false_iff_not, bne_iff_ne, bne_eq_false_iff_eq, beq_iff_eq, beq_eq_false_iff_ne, ne_eq, Int.not_lt, Int.not_le, Bool.and_eq_true, Bool.and_eq_false_iff, Bool.or_eq_true, Bool.or_eq_false_iff] at h)) <;> (try (exfalso; omega))))
    · obtain ⟨X, o, s7, hs7, hX, d7⟩ := ex_bad H hs5 hx
      obtain ⟨c, s8, hs8, hcl, hci, d8⟩ := ex_badCode H hs7 hx (c := G) (by omega) (inC_in64 hx g1)
      refine ⟨X, o, c, d, hX, hcl, hci, hdi, den_go [] l_spec_l04DrawApart ?_⟩
      repeat' (first | simp -implicitDefEqProofs (maxSteps := 1000000) (disch := (first | omega | (simp only [go_sem] <;> omega) | fail)) only [go_sem, ints, bools, mat, c_spec_l04DrawApart, srcR] | ((first | apply goIf_b | apply goG_b | apply goTG_b | apply goOG_b) <;> intro h <;> ((try simp only [Bool.not_eq_true', Bool.not_eq_false'] at h); (try simp only [h]); (try simp only [decide_eq_true_eq, decide_eq_false_iff_not, bne_iff_ne, bne_eq_false_iff_eq, beq_iff_eq, beq_eq_false_iff_ne, ne_eq, Int.not_lt, Int.not_le, Bool.and_eq_true, Bool.and_eq_false_iff, Bool.or_eq_true, Bool.or_eq_false_iff] at h)) <;> (try (exfalso; omega))))
      first | refine goC_call [.r] (d0) ?_ | refine goOC_call [.r] (d0) ?_
      repeat' (first | simp -implicitDefEqProofs (maxSteps := 1000000) (disch := (first | omega | (simp only [go_sem] <;> omega) | fail)) only [go_sem, ints, bools, mat] | ((first | apply goIf_b | apply goG_b | apply goTG_b | apply goOG_b) <;> intro h <;> ((try simp only [Bool.not_eq_true', Bool.not_eq_false'] at h); (try simp only [h]); (try simp only [decide_eq_true_eq, decide_eq_false_iff_not, bne_iff_ne, bne_eq_false_iff_eq, beq_iff_eq, beq_eq_false_iff_ne, ne_eq, Int.not_lt, Int.not_le, Bool.and_eq_true, Bool.and_eq_false_iff, Bool.or_eq_true, Bool.or_eq_false_iff] at h)) <;> (try (exfalso; omega))))
      first | refine goC_call [.bm] (hd1) ?_ | refine goOC_call [.bm] (hd1) ?_
      repeat' (first | simp -implicitDefEqProofs (maxSteps := 1000000) (disch := (first | omega | (simp only [go_sem] <;> omega) | fail)) only [go_sem, ints, bools, mat] | ((first | apply goIf_b | apply goG_b | apply goTG_b | apply goOG_b) <;> intro h <;> ((try simp only [Bool.not_eq_true', Bool.not_eq_false'] at h); (try simp only [h]); (try simp only [decide_eq_true_eq, decide_eq_false_iff_not, bne_iff_ne, bne_eq_false_iff_eq, beq_iff_eq, beq_eq_false_iff_ne, ne_eq, Int.not_lt, Int.not_le, Bool.and_eq_true, Bool.and_eq_false_iff, Bool.or_eq_true, Bool.or_eq_false_iff] at h)) <;> (try (exfalso; omega))))
      first | refine goC_call [.bm, .r] (hd2) ?_ | refine goOC_call [.bm, .r] (hd2) ?_
      repeat' (first | simp -implicitDefEqProofs (maxSteps := 1000000) (disch := (first | omega | (simp only [go_sem] <;> omega) | fail)) only [go_sem, ints, bools, mat] | ((first | apply goIf_b | apply goG_b | apply goTG_b | apply goOG_b) <;> intro h <;> ((try simp only [Bool.not_eq_true', Bool.not_eq_false'] at h); (try simp only [h]); (try simp only [decide_eq_true_eq, decide_eq_false_iff_not, bne_iff_ne, bne_eq_false_iff_eq, beq_iff_eq, beq_eq_false_iff_ne, ne_eq, Int.not_lt, Int.not_le, Bool.and_eq_true, Bool.and_eq_false_iff, Bool.or_eq_true, Bool.or_eq_false_iff] at h)) <;> (try (exfalso; omega))))
      first | refine goC_call [.bm, .r] (d3) ?_ | refine goOC_call [.bm, .r] (d3) ?_
      repeat' (first | simp -implicitDefEqProofs (maxSteps := 1000000) (disch := (first | omega | (simp only [go_sem] <;> omega) | fail)) only [go_sem, ints, bools, mat] | ((first | apply goIf_b | apply goG_b | apply goTG_b | apply goOG_b) <;> intro h <;> ((try simp only [Bool.not_eq_true', Bool.not_eq_false'] at h); (try simp only [h]); (try simp only [decide_eq_true_eq, decide_eq_false_iff_not, bne_iff_ne, bne_eq_false_iff_eq, beq_iff_eq, beq_eq_false_iff_ne, ne_eq, Int.not_lt, Int.not_le, Bool.and_eq_true, Bool.and_eq_false_iff, Bool.or_eq_true, Bool.or_eq_false_iff] at h)) <;> (try (exfalso; omega))))
      first | refine goC_call [.bm, .f] (d4) ?_ | refine goOC_call [.bm, .f] (d4) ?_
      repeat' (first | simp -implicitDefEqProofs (maxSteps := 1000000) (disch := (first | omega | (simp only [go_sem] <;> omega) | fail)) only [go_sem, ints, bools, mat] | ((first | apply goIf_b | apply goG_b | apply goTG_b | apply goOG_b) <;> intro h <;> ((try simp only [Bool.not_eq_true', Bool.not_eq_false'] at h); (try simp only [h]); (try simp only [decide_eq_true_eq, decide_eq_false_iff_not, bne_iff_ne, bne_eq_false_iff_eq, beq_iff_eq, beq_eq_false_iff_ne, ne_eq, Int.not_lt, Int.not_le, Bool.and_eq_true, Bool.and_eq_false_iff, Bool.or_eq_true, Bool.or_eq_false_iff] at h)) <;> (try (exfalso; omega))))
      first | refine goC_call [.bm, .r] (d5) ?_ | refine goOC_call [.bm, .r] (d5) ?_
      repeat' (first | simp -implicitDefEqProofs (maxSteps := 1000000) (disch := (first | omega | (simp only [go_sem] <;> omega) | fail)) only [go_sem, ints, bools, mat, hdm] | ((first | apply goIf_b | apply goG_b | apply goTG_b | apply goOG_b) <;> intro h <;> ((try simp only [Bool.not_eq_true', Bool.not_eq_false'] at h); (try simp only [h]); (try simp only [decide_eq_true_eq, decide_eq_false_iff_not, bne_iff_ne, bne_eq_false_iff_eq, beq_iff_eq, beq_eq_false_iff_ne, ne_eq, Int.not_lt, Int.not_le, Bool.and_eq_true, Bool.and_eq_false_iff, Bool.or_eq_true, Bool.or_eq_false_iff] at h)) <;> (try (exfalso; omega))))
      first | refine goC_call [.r, .r] (hg) ?_ | refine goOC_call [.r, .r] (hg) ?_
      repeat' (first | simp -implicitDefEqProofs (maxSteps := 1000000) (disch := (first | omega | (simp only [go_sem] <;> omega) | fail)) only [go_sem, ints, bools, mat] | ((first | apply goIf_b | apply goG_b | apply goTG_b | apply goOG_b) <;> intro h <;> ((try simp only [Bool.not_eq_true', Bool.not_eq_false'] at h); (try simp only [h]); (try simp only [decide_eq_true_eq, decide_eq_false_iff_not, bne_iff_ne, bne_eq_false_iff_eq, beq_iff_eq, beq_eq_false_iff_ne, ne_eq, Int.not_lt, Int.not_le, Bool.and_eq_true, Bool.and_eq_false_iff, Bool.or_eq_true, Bool.or_eq_false_iff] at h)) <;> (try (exfalso; omega))))
      first | refine goC_call [.bm, .r] (d7) ?_ | refine goOC_call [.bm, .r] (d7) ?_
      repeat' (first | simp -implicitDefEqProofs (maxSteps := 1000000) (disch := (first | omega | (simp only [go_sem] <;> omega) | fail)) only [go_sem, ints, bools, mat] | ((first | apply goIf_b | apply goG_b | apply goTG_b | apply goOG_b) <;> intro h <;> ((try simp only [Bool.not_eq_true', Bool.not_eq_false'] at h); (try simp only [h]); (try simp only [decide_eq_true_eq, decide_eq_false_iff_not, bne_iff_ne, bne_eq_false_iff_eq, beq_iff_eq, beq_eq_false_iff_ne, ne_eq, Int.not_lt, Int.not_le, Bool.and_eq_true, Bool.and_eq_false_iff, Bool.or_eq_true, Bool.or_eq_false_iff] at h)) <;> (try (exfalso; omega))))
      first | refine goC_call [.bm, .r, .f] (d8) ?_ | refine goOC_call [.bm, .r, .f] (d8) ?_
      repeat' (first | simp -implicitDefEqProofs (maxSteps := 1000000) (disch := (first | omega | (simp only [go_sem] <;> omega) | fail)) only [go_sem, ints, bools, mat] | ((first | apply goIf_b | apply goG_b | apply goTG_b | apply goOG_b) <;> intro h <;> ((try simp only [Bool.not_eq_true', Bool.not_eq_false'] at h); (try simp only [h]); (try simp only [decide_eq_true_eq, decide_eq_false_iff_not, bne_iff_ne, bne_eq_false_iff_eq, beq_iff_eq, beq_eq_false_iff_ne, ne_eq, Int.not_lt, Int.not_le, Bool.and_eq_true, Bool.and_eq_false_iff, Bool.or_eq_true, Bool.or_eq_false_iff] at h)) <;> (try (exfalso; omega))))
  · obtain ⟨X, o, s7, hs7, hX, d7⟩ := ex_bad H hs5 hx
    obtain ⟨c, s8, hs8, hcl, hci, d8⟩ := ex_badCode H hs7 hx (c := c0) (by omega) (inC_in64 hx hcx)
    refine ⟨X, o, c, d, hX, hcl, hci, hdi, den_go [] l_spec_l04DrawApart ?_⟩
    repeat' (first | simp -implicitDefEqProofs (maxSteps := 1000000) (disch := (first | omega | (simp only [go_sem] <;> omega) | fail)) only [go_sem, ints, bools, mat, c_spec_l04DrawApart, srcR] | ((first | apply goIf_b | apply goG_b | apply goTG_b | apply goOG_b) <;> intro h <;> ((try simp only [Bool.not_eq_true', Bool.not_eq_false'] at h); (try simp only [h]); (try simp only [decide_eq_true_eq, decide_eq_false_iff_not, bne_iff_ne, bne_eq_false_iff_eq, beq_iff_eq, beq_eq_false_iff_ne, ne_eq, Int.not_lt, Int.not_le, Bool.and_eq_true, Bool.and_eq_false_iff, Bool.or_eq_true, Bool.or_eq_false_iff] at h)) <;> (try (exfalso; omega))))
    first | refine goC_call [.r] (d0) ?_ | refine goOC_call [.r] (d0) ?_
    repeat' (first | simp -implicitDefEqProofs (maxSteps := 1000000) (disch := (first | omega | (simp only [go_sem] <;> omega) | fail)) only [go_sem, ints, bools, mat] | ((first | apply goIf_b | apply goG_b | apply goTG_b | apply goOG_b) <;> intro h <;> ((try simp only [Bool.not_eq_true', Bool.not_eq_false'] at h); (try simp only [h]); (try simp only [decide_eq_true_eq, decide_eq_false_iff_not, bne_iff_ne, bne_eq_false_iff_eq, beq_iff_eq, beq_eq_false_iff_ne, ne_eq, Int.not_lt, Int.not_le, Bool.and_eq_true, Bool.and_eq_false_iff, Bool.or_eq_true, Bool.or_eq_false_iff] at h)) <;> (try (exfalso; omega))))
    first | refine goC_call [.bm] (hd1) ?_ | refine goOC_call [.bm] (hd1) ?_
    repeat' (first | simp -implicitDefEqProofs (maxSteps := 1000000) (disch := (first | omega | (simp only [go_sem] <;> omega) | fail)) only [go_sem, ints, bools, mat] | ((first | apply goIf_b | apply goG_b | apply goTG_b | apply goOG_b) <;> intro h <;> ((try simp only [Bool.not_eq_true', Bool.not_eq_false'] at h); (try simp only [h]); (try simp only [decide_eq_true_eq, decide_eq_false_iff_not, bne_iff_ne, bne_eq_false_iff_eq, beq_iff_eq, beq_eq_false_iff_ne, ne_eq, Int.not_lt, Int.not_le, Bool.and_eq_true, Bool.and_eq_false_iff, Bool.or_eq_true, Bool.or_eq_false_iff] at h)) <;> (try (exfalso; omega))))
    first | refine goC_call [.bm, .r] (hd2) ?_ | refine goOC_call [.bm, .r] (hd2) ?_
    repeat' (first | simp -implicitDefEqProofs (maxSteps := 1000000) (disch := (first | omega | (simp only [go_sem] <;> omega) | fail)) only [go_sem, ints, bools, mat] | ((first | apply goIf_b | apply goG_b | apply goTG_b | apply goOG_b) <;> intro h <;> ((try simp only [Bool.not_eq_true', Bool.not_eq_false'] at h); (try simp only [h]); (try simp only [decide_eq_true_eq, decide_eq_false_iff_not, bne_iff_ne, bne_eq_false_iff_eq, beq_iff_eq, beq_eq_false_iff_ne, ne_eq, Int.not_lt, Int.not_le, Bool.and_eq_true, Bool.and_eq_false_iff, Bool.or_eq_true, Bool.or_eq_false_iff] at h)) <;> (try (exfalso; omega))))
    first | refine goC_call [.bm, .r] (d3) ?_ | refine goOC_call [.bm, .r] (d3) ?_
    repeat' (first | simp -implicitDefEqProofs (maxSteps := 1000000) (disch := (first | omega | (simp only [go_sem] <;> omega) | fail)) only [go_sem, ints, bools, mat] | ((first | apply goIf_b | apply goG_b | apply goTG_b | apply goOG_b) <;> intro h <;> ((try simp only [Bool.not_eq_true', Bool.not_eq_false'] at h); (try simp only [h]); (try simp only [decide_eq_true_eq, decide_eq_false_iff_not, bne_iff_ne, bne_eq_false_iff_eq, beq_iff_eq, beq_eq_false_iff_ne, ne_eq, Int.not_lt, Int.not_le, Bool.and_eq_true, Bool.and_eq_false_iff, Bool.or_eq_true, Bool.or_eq_false_iff] at h)) <;> (try (exfalso; omega))))
    first | refine goC_call [.bm, .f] (d4) ?_ | refine goOC_call [.bm, .f] (d4) ?_
    repeat' (first | simp -implicitDefEqProofs (maxSteps := 1000000) (disch := (first | omega | (simp only [go_sem] <;> omega) | fail)) only [go_sem, ints, bools, mat] | ((first | apply goIf_b | apply goG_b | apply goTG_b | apply goOG_b) <;> intro h <;> ((try simp only [Bool.not_eq_true', Bool.not_eq_false'] at h); (try simp only [h]); (try simp only [decide_eq_true_eq, decide_eq_false_iff_not, bne_iff_ne, bne_eq_false_iff_eq, beq_iff_eq, beq_eq_false_iff_ne, ne_eq, Int.not_lt, Int.not_le, Bool.and_eq_true, Bool.and_eq_false_iff, Bool.or_eq_true, Bool.or_eq_false_iff] at h)) <;> (try (exfalso; omega))))
    first | refine goC_call [.bm, .r] (d5) ?_ | refine goOC_call [.bm, .r] (d5) ?_
    repeat' (first | simp -implicitDefEqProofs (maxSteps := 1000000) (disch := (first | omega | (simp only [go_sem] <;> omega) | fail)) only [go_sem, ints, bools, mat] | ((first | apply goIf_b | apply goG_b | apply goTG_b | apply goOG_b) <;> intro h <;> ((try simp only [Bool.not_eq_true', Bool.not_eq_false'] at h); (try simp only [h]); (try simp only [decide_eq_true_eq, decide_eq_false_iff_not, bne_iff_ne, bne_eq_false_iff_eq, beq_iff_eq, beq_eq_false_iff_ne, ne_eq, Int.not_lt, Int.not_le, Bool.and_eq_true, Bool.and_eq_false_iff, Bool.or_eq_true, Bool.or_eq_false_iff] at h)) <;> (try (exfalso; omega))))
    first | refine goC_call [.bm, .r] (d7) ?_ | refine goOC_call [.bm, .r] (d7) ?_
    repeat' (first | simp -implicitDefEqProofs (maxSteps := 1000000) (disch := (first | omega | (simp only [go_sem] <;> omega) | fail)) only [go_sem, ints, bools, mat] | ((first | apply goIf_b | apply goG_b | apply goTG_b | apply goOG_b) <;> intro h <;> ((try simp only [Bool.not_eq_true', Bool.not_eq_false'] at h); (try simp only [h]); (try simp only [decide_eq_true_eq, decide_eq_false_iff_not, bne_iff_ne, bne_eq_false_iff_eq, beq_iff_eq, beq_eq_false_iff_ne, ne_eq, Int.not_lt, Int.not_le, Bool.and_eq_true, Bool.and_eq_false_iff, Bool.or_eq_true, Bool.or_eq_false_iff] at h)) <;> (try (exfalso; omega))))
    first | refine goC_call [.bm, .r, .r] (d8) ?_ | refine goOC_call [.bm, .r, .r] (d8) ?_
    repeat' (first | simp -implicitDefEqProofs (maxSteps := 1000000) (disch := (first | omega | (simp only [go_sem] <;> omega) | fail)) only [go_sem, ints, bools, mat] | ((first | apply goIf_b | apply goG_b | apply goTG_b | apply goOG_b) <;> intro h <;> ((try simp only [Bool.not_eq_true', Bool.not_eq_false'] at h); (try simp only [h]); (try simp only [decide_eq_true_eq, decide_eq_false_iff_not, bne_iff_ne, bne_eq_false_iff_eq, beq_iff_eq, beq_eq_false_iff_ne, ne_eq, Int.not_lt, Int.not_le, Bool.and_eq_true, Bool.and_eq_false_iff, Bool.or_eq_true, Bool.or_eq_false_iff] at h)) <;> (try (exfalso; omega))))
theorem ex_canGrow {cd : D} {l : List Int} (H : SrcH cd l) : ∃ (X : D) (o c : List Int) (d : Int), drL X o ∧ c.length < 1048577 ∧ (∀ n, n ∈ c → in64 n) ∧ in64 d ∧ Den PA f_spec_DrawCanGrow [.d cd] [.any] (.tup [.d (.agg [X]), .own 1 (c.map di), .d (di d)]) := by
  obtain ⟨X, o, c, d, hX, hcl, hci, hd, d0⟩ := ex_drawApart H
  refine ⟨X, o, c, d, hX, hcl, hci, hd, den_go [] l_spec_DrawCanGrow ?_⟩
  repeat' (first | simp -implicitDefEqProofs (maxSteps := 1000000) (disch := (first | omega | (simp only [go_sem] <;> omega) | fail)) only [go_sem, ints, bools, mat, c_spec_DrawCanGrow] | ((first | apply goIf_b | apply goG_b | apply goTG_b | apply goOG_b) <;> intro h <;> ((try simp only [Bool.not_eq_true', Bool.not_eq_false'] at h); (try simp only [h]); (try simp only [decide_eq_true_eq, decide_eq_false_iff_not, bne_iff_ne, bne_eq_false_iff_eq, beq_iff_eq, beq_eq_false_iff_ne, ne_eq, Int.not_lt, Int.not_le, Bool.and_eq_true, Bool.and_eq_false_iff, Bool.or_eq_true, Bool.or_eq_false_iff] at h)) <;> (try (exfalso; omega))))
  first | refine goC_call [.r] (d0) ?_ | refine goOC_call [.r] (d0) ?_
  repeat' (first | simp -implicitDefEqProofs (maxSteps := 1000000) (disch := (first | omega | (simp only [go_sem] <;> omega) | fail)) only [go_sem, ints, bools, mat] | ((first | apply goIf_b | apply goG_b | apply goTG_b | apply goOG_b) <;> intro h <;> ((try simp only [Bool.not_eq_true', Bool.not_eq_false'] at h); (try simp only [h]); (try simp only [decide_eq_true_eq, decide_eq_false_iff_not, bne_iff_ne, bne_eq_false_iff_eq, beq_iff_eq, beq_eq_false_iff_ne, ne_eq, Int.not_lt, Int.not_le, Bool.and_eq_true, Bool.and_eq_false_iff, Bool.or_eq_true, Bool.or_eq_false_iff] at h)) <;> (try (exfalso; omega))))
theorem farM_tri : ∀ (a b c : List Int), a.length = b.length → b.length = c.length → farM a c ≤ farM a b + farM b c
  | [], [], [], _, _ => by simp [farM]
  | x :: a, y :: b, z :: c, h1, h2 => by
    have ih := farM_tri a b c (by simpa using h1) (by simpa using h2)
    simp only [farM]
    by_cases e1 : x = y
    · by_cases e2 : y = z
      · rw [if_pos e1, if_pos e2, if_pos (e1.trans e2)]; omega
      · rw [if_neg e2, if_neg (fun e => e2 (e1.symm.trans e))]; split <;> omega
    · rw [if_neg e1]; split <;> split <;> omega
theorem distM_tri (l : List Int) (u v w : Int) : distM l u w ≤ distM l u v + distM l v w := farM_tri _ _ _ (by rw [digM_len, digM_len]) (by rw [digM_len, digM_len])
abbrev Apt (l : List Int) (d : Int) (L : List Int) : Prop := L.Pairwise fun a b => d ≤ distM l a b
theorem code_sub {l c : List Int} (h : c.Sublist (allW l)) : isCodeM l c = true := by
  have ha := (allW_asc l).sublist h
  refine (isCodeM_ok l c).2 ⟨fun j hj => sub_rng h (getD_mem hj), fun j hj => asc_lt ha (by omega) hj⟩
theorem apartB_apt {l c : List Int} {d : Int} (h : Apt l d c) : apartB l c d = true := by
  refine (apartB_ok l c d).2 fun i hi k hk => ?_
  have h1 := List.pairwise_iff_getElem.1 h k i (by omega) hi hk
  rw [distM_comm, List.getD_eq_getElem?_getD, List.getD_eq_getElem?_getD, List.getElem?_eq_getElem hi, List.getElem?_eq_getElem (show k < c.length by omega)]
  exact h1
theorem apt_place {l c : List Int} {d : Int} (hs : isSpaceM l = true) (hd : 1 ≤ d) (h : Apt l d c) : (c.length : Int) ≤ divM l (d - 1).toNat :=
  apart_le hs (h.imp fun {a b} h => by omega)
theorem apt_pack {l : List Int} {d : Int} (hs : isSpaceM l = true) (hd : 1 ≤ d) : ∀ {c : List Int}, (∀ w, w ∈ c → 0 ≤ w ∧ w < prodM l) → Apt l d c → (c.flatMap fun w => ballM l w ((d - 1) / 2)).Nodup ∧ (((c.flatMap fun w => ballM l w ((d - 1) / 2)).length : Int) = c.length * bzM l ((d - 1) / 2))
  | [], _, _ => by simp
  | w :: c, hin, h => by
    obtain ⟨h1, h2⟩ := List.pairwise_cons.1 h
    obtain ⟨i1, i2⟩ := apt_pack (c := c) hs hd (fun u hu => hin u (List.mem_cons_of_mem _ hu)) h2
    rw [List.flatMap_cons]
    refine ⟨List.nodup_append.2 ⟨ballM_nodup l w _, i1, fun a ha b hb e => ?_⟩, ?_⟩
    · subst e
      obtain ⟨u, hu, hb⟩ := List.mem_flatMap.1 hb
      have e1 := ((ballM_mem l w _ a).1 ha).2
      have e2 := ((ballM_mem l u _ a).1 hb).2
      have e3 := distM_tri l w a u
      rw [distM_comm l w a] at e3
      have := h1 u hu
      omega
    · rw [List.length_append, Int.natCast_add, i2, ball_len hs w (show 0 ≤ (d - 1) / 2 by omega), List.length_cons, Int.natCast_add, Int.add_mul]; simp; omega
theorem apt_packing {l c : List Int} {d : Int} (hs : isSpaceM l = true) (hd : 1 ≤ d) (hin : ∀ w, w ∈ c → 0 ≤ w ∧ w < prodM l) (h : Apt l d c) : (c.length : Int) ≤ prodM l / bzM l ((d - 1) / 2) := by
  obtain ⟨h1, h2⟩ := apt_pack hs hd hin h
  have hb := bz_pos hs (show 0 ≤ (d - 1) / 2 by omega)
  rw [Int.le_ediv_iff_mul_le (by omega), ← h2]
  have h3 := sub_lenG (c := allW l) h1 fun y hy => by
    obtain ⟨u, _, hu⟩ := List.mem_flatMap.1 hy
    exact (List.mem_filter.1 hu).1
  rw [allW_len] at h3
  omega
theorem mxX_ge (l : List Int) (d : Int) : ∀ (n : Nat) (X L : List Int), X.length ≤ n → L.Sublist X → Apt l d L → L.length ≤ mxX l d X
  | _, [], L, _, h, _ => by rw [List.sublist_nil.1 h]; exact Nat.zero_le _
  | 0, w :: X, L, hn, _, _ => by simp at hn
  | n + 1, w :: X, L, hn, h, ha => by
    have hal := awy_len l d w X
    simp only [List.length_cons] at hn
    rw [mxX_cons]
    cases h with
    | cons _ h => have := mxX_ge l d n X L (by omega) h ha; omega
    | cons_cons _ h =>
      rename_i L'
      obtain ⟨h1, h2⟩ := List.pairwise_cons.1 ha
      have h3 : L'.Sublist (awy l d w X) := by
        have e : L'.filter (fun u => decide (d ≤ distM l w u)) = L' := List.filter_eq_self.2 fun u hu => decide_eq_true (h1 u hu)
        rw [← e]; exact h.filter _
      have := mxX_ge l d n (awy l d w X) L' (by omega) h3 h2
      rw [List.length_cons]; omega
theorem greedN_sub (l : List Int) (d : Int) : ∀ j : Nat, j ≤ (prodM l).toNat → (greedN l d j).Sublist ((allW l).take j) ∧ Apt l d (greedN l d j)
  | 0, _ => by simp [greedN]
  | j + 1, hj => by
    obtain ⟨h1, h2⟩ := greedN_sub l d j (by omega)
    rw [greedN, greedS, take_allW l (by omega)]
    split
    · rename_i h
      refine ⟨h1.append (.refl _), List.pairwise_append.2 ⟨h2, List.pairwise_singleton _ _, fun a ha b hb => ?_⟩⟩
      rw [List.mem_singleton] at hb
      subst hb
      obtain ⟨k, hk, rfl⟩ := List.mem_iff_getElem.1 ha
      have := h k hk
      rw [distM_comm, List.getD_eq_getElem?_getD, List.getElem?_eq_getElem hk] at this
      exact this
    · exact ⟨h1.trans (List.sublist_append_left _ _), h2⟩
theorem greedN_mono (l : List Int) (d : Int) {u : Int} : ∀ {j k : Nat}, j ≤ k → u ∈ greedN l d j → u ∈ greedN l d k
  | j, 0, h, hu => by rw [show j = 0 by omega] at hu; exact hu
  | j, k + 1, h, hu => by
    by_cases e : j = k + 1
    · subst e; exact hu
    · have := greedN_mono l d (k := k) (show j ≤ k by omega) hu
      rw [greedN, greedS]
      split
      · exact List.mem_append_left _ this
      · exact this
theorem greedN_max (l : List Int) (d : Int) {w : Nat} (hw : w < (prodM l).toNat) : (w : Int) ∈ greedM l d ∨ ∃ u, u ∈ greedM l d ∧ distM l w u < d := by
  by_cases h : ∀ k, k < (greedN l d w).length → d ≤ distM l w ((greedN l d w).getD k 0)
  · left
    refine greedN_mono l d (j := w + 1) (by omega) ?_
    rw [greedN, greedS, if_pos h]; simp
  · right
    obtain ⟨k, hk⟩ := Classical.not_forall.1 h
    obtain ⟨hk1, hk2⟩ := Classical.not_imp.1 hk
    exact ⟨_, greedN_mono l d (by omega) (getD_mem hk1), by omega⟩
theorem greed_facts {l : List Int} {d : Int} (h : bcM l d = 0) : acM l (greedM l d) d = 0 ∧ apartB l (greedM l d) d = true ∧ growB l (greedM l d) d = false ∧ ((greedM l d).length : Int) ≤ prodM l / bzM l ((d - 1) / 2) ∧ ((greedM l d).length : Int) ≤ divM l (d - 1).toNat ∧ (greedM l d).length ≤ 1024 ∧ (greedM l d).length ≤ mxX l d (allW l) := by
  obtain ⟨hs, h1, h9⟩ := bcM_ok h
  obtain ⟨g1, g2⟩ := greedN_sub l d (prodM l).toNat (Nat.le_refl _)
  have gs : (greedM l d).Sublist (allW l) := g1.trans (List.take_sublist _ _)
  have hgl := (greed_in hs d).2
  refine ⟨?_, apartB_apt g2, ?_, apt_packing hs h1 (fun w hw => sub_rng gs hw) g2, apt_place hs h1 g2, hgl, mxX_ge l d _ _ _ (Nat.le_refl _) gs g2⟩
  · rw [acM, ggM, if_pos hs, if_pos (code_sub gs), if_pos rfl, if_pos ⟨h1, h9⟩]
  · cases hb : growB l (greedM l d) d with
    | false => rfl
    | true =>
      refine (growB_no (fun w hw => ?_) hb).elim
      cases hp : growP l (greedM l d) d w with
      | false => rfl
      | true =>
        obtain ⟨p1, p2⟩ := growP_ok.1 hp
        rcases greedN_max l d hw with hm | ⟨u, hu, hdu⟩
        · rw [List.any_eq_false] at p1
          exact absurd (p1 _ hm) (by simp)
        · obtain ⟨k, hk, rfl⟩ := List.mem_iff_getElem.1 hu
          have := p2 k hk
          rw [List.getD_eq_getElem?_getD, List.getElem?_eq_getElem hk, Option.getD_some] at this
          omega
theorem cntN_pos {l c : List Int} {r u : Int} {k : Nat} (h : distM l (c.getD k 0) u ≤ r) : ∀ {j : Nat}, k < j → 1 ≤ cntN l c r u j
  | 0, hk => by omega
  | j + 1, hk => by
    rw [cntN]
    by_cases e : k = j
    · subst e; rw [if_pos h]; have := cntN_bnd l c r u k; omega
    · have := cntN_pos h (show k < j by omega); split <;> omega
theorem cvB_yes {l c : List Int} {r : Int} (h : ∀ w : Nat, w < (prodM l).toNat → ∃ k, k < c.length ∧ distM l (c.getD k 0) w ≤ r) : cvB l c r = true := by
  unfold cvB
  rw [Bool.not_eq_true', decide_eq_false_iff_not]
  intro hm
  obtain ⟨i, hi, e⟩ := List.mem_iff_getElem.1 hm
  have hi2 : i < (prodM l).toNat := by rw [← timesN_len l c r c.length]; exact hi
  obtain ⟨k, hk, hd⟩ := h i hi2
  have h1 := cntN_pos hd (j := c.length) hk
  have h2 := timesN_get c r c.length hi2
  have h3 : (timesN l c r c.length).getD i 0 = 0 := by rw [List.getD_eq_getElem?_getD, List.getElem?_eq_getElem hi, Option.getD_some]; exact e
  omega
theorem grow_covers {l c : List Int} {d : Int} (h : acM l c d = 0) (hg : growB l c d = false) : ccM l c (d - 1) = 0 ∧ cvB l c (d - 1) = true := by
  obtain ⟨hs, hcc, h1, h9⟩ := acM_ok h
  refine ⟨by rw [ccM, ggM, if_pos hs, if_pos hcc, if_pos rfl, if_pos (by omega)], cvB_yes fun w hw => ?_⟩
  by_cases hp : growP l c d w = true
  · rw [growB_yes hw hp] at hg; cases hg
  · rw [growP_ok, Classical.not_and_iff_not_or_not] at hp
    rcases hp with hp | hp
    · rw [Bool.not_eq_false, List.any_eq_true] at hp
      obtain ⟨x, hx, e⟩ := hp
      rw [beq_iff_eq] at e
      obtain ⟨k, hk, rfl⟩ := List.mem_iff_getElem.1 hx
      refine ⟨k, hk, ?_⟩
      rw [List.getD_eq_getElem?_getD, List.getElem?_eq_getElem hk, Option.getD_some, e]
      have := ball_self (l := l) (w := (w : Int)) (r := 0) (by omega) (Int.le_refl _)
      have := ((ballM_mem l _ 0 _).1 this).2
      omega
    · obtain ⟨k, hk⟩ := Classical.not_forall.1 hp
      obtain ⟨hk1, hk2⟩ := Classical.not_imp.1 hk
      exact ⟨k, hk1, by rw [distM_comm]; omega⟩
theorem best_facts {l : List Int} {d : Int} (h : scE l d 2 9 = 0) : bcM l d = 0 ∧ acM l (bsX l d (allW l)) d = 0 ∧ apartB l (bsX l d (allW l)) d = true ∧ ((bsX l d (allW l)).length : Int) ≤ prodM l / bzM l ((d - 1) / 2) ∧ ((bsX l d (allW l)).length : Int) ≤ divM l (d - 1).toNat ∧ (bsX l d (allW l)).length ≤ 1024 ∧ (greedM l d).length ≤ (bsX l d (allW l)).length := by
  obtain ⟨hs, hr, h27⟩ := scE_ok h
  have hb : bcM l d = 0 := by rw [bcM, if_pos hs, if_pos (by omega)]
  obtain ⟨_, g2, g3⟩ := naX_sound l d _ _ (allW l) _ (Nat.le_refl _) (naX_bs l d (allW l))
  obtain ⟨_, _, _, _, _, _, g4⟩ := greed_facts hb
  refine ⟨hb, ?_, apartB_apt g3, apt_packing hs (by omega) (fun w hw => sub_rng g2 hw) g3, apt_place hs (by omega) g3, mx_len hs, by rw [bsX_len]; exact g4⟩
  rw [acM, ggM, if_pos hs, if_pos (code_sub g2), if_pos rfl, if_pos (by omega)]
theorem d_nil_impl_soughtCode (n lo hi : Int) : Den PA f_impl_soughtCode [.d (.agg [nil]), .d (di n), .d (di lo), .d (di hi)] [.any, .any, .any, .any] (.d (di 1)) := by
  refine den_go [] l_impl_soughtCode ?_
  repeat' (first | simp -implicitDefEqProofs (maxSteps := 1000000) (disch := (first | omega | (simp only [go_sem] <;> omega) | fail)) only [go_sem, ints, bools, mat, c_impl_soughtCode] | ((first | apply goIf_b | apply goG_b | apply goTG_b | apply goOG_b) <;> intro h <;> ((try simp only [Bool.not_eq_true', Bool.not_eq_false'] at h); (try simp only [h]); (try simp only [decide_eq_true_eq, decide_eq_false_iff_not, bne_iff_ne, bne_eq_false_iff_eq, beq_iff_eq, beq_eq_false_iff_ne, ne_eq, Int.not_lt, Int.not_le, Bool.and_eq_true, Bool.and_eq_false_iff, Bool.or_eq_true, Bool.or_eq_false_iff] at h)) <;> (try (exfalso; omega))))
  first | refine goC_call [.r] (d_nil_impl_IsSpace) ?_ | refine goOC_call [.r] (d_nil_impl_IsSpace) ?_
  repeat' (first | simp -implicitDefEqProofs (maxSteps := 1000000) (disch := (first | omega | (simp only [go_sem] <;> omega) | fail)) only [go_sem, ints, bools, mat] | ((first | apply goIf_b | apply goG_b | apply goTG_b | apply goOG_b) <;> intro h <;> ((try simp only [Bool.not_eq_true', Bool.not_eq_false'] at h); (try simp only [h]); (try simp only [decide_eq_true_eq, decide_eq_false_iff_not, bne_iff_ne, bne_eq_false_iff_eq, beq_iff_eq, beq_eq_false_iff_ne, ne_eq, Int.not_lt, Int.not_le, Bool.and_eq_true, Bool.and_eq_false_iff, Bool.or_eq_true, Bool.or_eq_false_iff] at h)) <;> (try (exfalso; omega))))
theorem d_nil_spec_l04Code (n lo hi : Int) : Den PA f_spec_l04Code [.d (.agg [nil]), .d (di n), .d (di lo), .d (di hi)] [.any, .any, .any, .any] (.d (di 1)) := by
  refine den_go [] l_spec_l04Code ?_
  repeat' (first | simp -implicitDefEqProofs (maxSteps := 1000000) (disch := (first | omega | (simp only [go_sem] <;> omega) | fail)) only [go_sem, ints, bools, mat, c_spec_l04Code] | ((first | apply goIf_b | apply goG_b | apply goTG_b | apply goOG_b) <;> intro h <;> ((try simp only [Bool.not_eq_true', Bool.not_eq_false'] at h); (try simp only [h]); (try simp only [decide_eq_true_eq, decide_eq_false_iff_not, bne_iff_ne, bne_eq_false_iff_eq, beq_iff_eq, beq_eq_false_iff_ne, ne_eq, Int.not_lt, Int.not_le, Bool.and_eq_true, Bool.and_eq_false_iff, Bool.or_eq_true, Bool.or_eq_false_iff] at h)) <;> (try (exfalso; omega))))
  first | refine goC_call [.r] (d_nil_spec_l01Is) ?_ | refine goOC_call [.r] (d_nil_spec_l01Is) ?_
  repeat' (first | simp -implicitDefEqProofs (maxSteps := 1000000) (disch := (first | omega | (simp only [go_sem] <;> omega) | fail)) only [go_sem, ints, bools, mat] | ((first | apply goIf_b | apply goG_b | apply goTG_b | apply goOG_b) <;> intro h <;> ((try simp only [Bool.not_eq_true', Bool.not_eq_false'] at h); (try simp only [h]); (try simp only [decide_eq_true_eq, decide_eq_false_iff_not, bne_iff_ne, bne_eq_false_iff_eq, beq_iff_eq, beq_eq_false_iff_ne, ne_eq, Int.not_lt, Int.not_le, Bool.and_eq_true, Bool.and_eq_false_iff, Bool.or_eq_true, Bool.or_eq_false_iff] at h)) <;> (try (exfalso; omega))))
theorem d_nil_spec_l04Sought (n lo hi : Int) : Den PA f_spec_l04Sought [.d (.agg [nil]), .d (di n), .d (di lo), .d (di hi)] [.any, .any, .any, .any] (.d (di 1)) := by
  refine den_go [] l_spec_l04Sought ?_
  repeat' (first | simp -implicitDefEqProofs (maxSteps := 1000000) (disch := (first | omega | (simp only [go_sem] <;> omega) | fail)) only [go_sem, ints, bools, mat, c_spec_l04Sought] | ((first | apply goIf_b | apply goG_b | apply goTG_b | apply goOG_b) <;> intro h <;> ((try simp only [Bool.not_eq_true', Bool.not_eq_false'] at h); (try simp only [h]); (try simp only [decide_eq_true_eq, decide_eq_false_iff_not, bne_iff_ne, bne_eq_false_iff_eq, beq_iff_eq, beq_eq_false_iff_ne, ne_eq, Int.not_lt, Int.not_le, Bool.and_eq_true, Bool.and_eq_false_iff, Bool.or_eq_true, Bool.or_eq_false_iff] at h)) <;> (try (exfalso; omega))))
  first | refine goC_call [.r, .r, .r, .r] (d_nil_spec_l04Code n lo hi) ?_ | refine goOC_call [.r, .r, .r, .r] (d_nil_spec_l04Code n lo hi) ?_
  repeat' (first | simp -implicitDefEqProofs (maxSteps := 1000000) (disch := (first | omega | (simp only [go_sem] <;> omega) | fail)) only [go_sem, ints, bools, mat] | ((first | apply goIf_b | apply goG_b | apply goTG_b | apply goOG_b) <;> intro h <;> ((try simp only [Bool.not_eq_true', Bool.not_eq_false'] at h); (try simp only [h]); (try simp only [decide_eq_true_eq, decide_eq_false_iff_not, bne_iff_ne, bne_eq_false_iff_eq, beq_iff_eq, beq_eq_false_iff_ne, ne_eq, Int.not_lt, Int.not_le, Bool.and_eq_true, Bool.and_eq_false_iff, Bool.or_eq_true, Bool.or_eq_false_iff] at h)) <;> (try (exfalso; omega))))
theorem d_nil_impl_boundCode (d : Int) : Den PA f_impl_boundCode [.d (.agg [nil]), .d (di d)] [.any, .any] (.d (di 1)) := by
  refine den_go [] l_impl_boundCode ?_
  repeat' (first | simp -implicitDefEqProofs (maxSteps := 1000000) (disch := (first | omega | (simp only [go_sem] <;> omega) | fail)) only [go_sem, ints, bools, mat, c_impl_boundCode] | ((first | apply goIf_b | apply goG_b | apply goTG_b | apply goOG_b) <;> intro h <;> ((try simp only [Bool.not_eq_true', Bool.not_eq_false'] at h); (try simp only [h]); (try simp only [decide_eq_true_eq, decide_eq_false_iff_not, bne_iff_ne, bne_eq_false_iff_eq, beq_iff_eq, beq_eq_false_iff_ne, ne_eq, Int.not_lt, Int.not_le, Bool.and_eq_true, Bool.and_eq_false_iff, Bool.or_eq_true, Bool.or_eq_false_iff] at h)) <;> (try (exfalso; omega))))
  first | refine goC_call [.r] (d_nil_impl_IsSpace) ?_ | refine goOC_call [.r] (d_nil_impl_IsSpace) ?_
  repeat' (first | simp -implicitDefEqProofs (maxSteps := 1000000) (disch := (first | omega | (simp only [go_sem] <;> omega) | fail)) only [go_sem, ints, bools, mat] | ((first | apply goIf_b | apply goG_b | apply goTG_b | apply goOG_b) <;> intro h <;> ((try simp only [Bool.not_eq_true', Bool.not_eq_false'] at h); (try simp only [h]); (try simp only [decide_eq_true_eq, decide_eq_false_iff_not, bne_iff_ne, bne_eq_false_iff_eq, beq_iff_eq, beq_eq_false_iff_ne, ne_eq, Int.not_lt, Int.not_le, Bool.and_eq_true, Bool.and_eq_false_iff, Bool.or_eq_true, Bool.or_eq_false_iff] at h)) <;> (try (exfalso; omega))))
theorem d_nil_impl_apartCode (c : D) (d : Int) : Den PA f_impl_apartCode [.d (.agg [nil]), .d c, .d (di d)] [.any, .any, .any] (.d (di 1)) := by
  refine den_go [] l_impl_apartCode ?_
  repeat' (first | simp -implicitDefEqProofs (maxSteps := 1000000) (disch := (first | omega | (simp only [go_sem] <;> omega) | fail)) only [go_sem, ints, bools, mat, c_impl_apartCode] | ((first | apply goIf_b | apply goG_b | apply goTG_b | apply goOG_b) <;> intro h <;> ((try simp only [Bool.not_eq_true', Bool.not_eq_false'] at h); (try simp only [h]); (try simp only [decide_eq_true_eq, decide_eq_false_iff_not, bne_iff_ne, bne_eq_false_iff_eq, beq_iff_eq, beq_eq_false_iff_ne, ne_eq, Int.not_lt, Int.not_le, Bool.and_eq_true, Bool.and_eq_false_iff, Bool.or_eq_true, Bool.or_eq_false_iff] at h)) <;> (try (exfalso; omega))))
  first | refine goC_call [.r, .r, .r] (d_nil_impl_codeCode c nil) ?_ | refine goOC_call [.r, .r, .r] (d_nil_impl_codeCode c nil) ?_
  repeat' (first | simp -implicitDefEqProofs (maxSteps := 1000000) (disch := (first | omega | (simp only [go_sem] <;> omega) | fail)) only [go_sem, ints, bools, mat] | ((first | apply goIf_b | apply goG_b | apply goTG_b | apply goOG_b) <;> intro h <;> ((try simp only [Bool.not_eq_true', Bool.not_eq_false'] at h); (try simp only [h]); (try simp only [decide_eq_true_eq, decide_eq_false_iff_not, bne_iff_ne, bne_eq_false_iff_eq, beq_iff_eq, beq_eq_false_iff_ne, ne_eq, Int.not_lt, Int.not_le, Bool.and_eq_true, Bool.and_eq_false_iff, Bool.or_eq_true, Bool.or_eq_false_iff] at h)) <;> (try (exfalso; omega))))
theorem d_nil_spec_l04Given (c : D) (d : Int) : Den PA f_spec_l04Given [.d (.agg [nil]), .d c, .d (di d)] [.any, .any, .any] (.d (di 1)) := by
  refine den_go [] l_spec_l04Given ?_
  repeat' (first | simp -implicitDefEqProofs (maxSteps := 1000000) (disch := (first | omega | (simp only [go_sem] <;> omega) | fail)) only [go_sem, ints, bools, mat, c_spec_l04Given] | ((first | apply goIf_b | apply goG_b | apply goTG_b | apply goOG_b) <;> intro h <;> ((try simp only [Bool.not_eq_true', Bool.not_eq_false'] at h); (try simp only [h]); (try simp only [decide_eq_true_eq, decide_eq_false_iff_not, bne_iff_ne, bne_eq_false_iff_eq, beq_iff_eq, beq_eq_false_iff_ne, ne_eq, Int.not_lt, Int.not_le, Bool.and_eq_true, Bool.and_eq_false_iff, Bool.or_eq_true, Bool.or_eq_false_iff] at h)) <;> (try (exfalso; omega))))
  first | refine goC_call [.r, .r] (d_nil_spec_l01Given c) ?_ | refine goOC_call [.r, .r] (d_nil_spec_l01Given c) ?_
  repeat' (first | simp -implicitDefEqProofs (maxSteps := 1000000) (disch := (first | omega | (simp only [go_sem] <;> omega) | fail)) only [go_sem, ints, bools, mat] | ((first | apply goIf_b | apply goG_b | apply goTG_b | apply goOG_b) <;> intro h <;> ((try simp only [Bool.not_eq_true', Bool.not_eq_false'] at h); (try simp only [h]); (try simp only [decide_eq_true_eq, decide_eq_false_iff_not, bne_iff_ne, bne_eq_false_iff_eq, beq_iff_eq, beq_eq_false_iff_ne, ne_eq, Int.not_lt, Int.not_le, Bool.and_eq_true, Bool.and_eq_false_iff, Bool.or_eq_true, Bool.or_eq_false_iff] at h)) <;> (try (exfalso; omega))))
theorem d_nil_impl_FirstApart (d : Int) : DenG PA f_impl_FirstApart 2 [.d (.agg [nil]), .d (di d), tabR] [.any, .any, .any] (.tup [.d nil, .d (di 1)]) := by
  refine den_goL [2] [(g_math_bits_deBruijn64tab, 2)] l_impl_FirstApart (by simp) (fun q hq => by simp at hq; subst hq; exact ⟨_, rfl⟩) ?_
  repeat' (first | simp -implicitDefEqProofs (maxSteps := 1000000) (disch := (first | omega | (simp only [go_sem] <;> omega) | fail)) only [go_sem, ints, bools, mat, c_impl_FirstApart, tabR, g_math_bits_deBruijn64tab] | ((first | apply goIf_b | apply goG_b | apply goTG_b | apply goOG_b) <;> intro h <;> ((try simp only [Bool.not_eq_true', Bool.not_eq_false'] at h); (try simp only [h]); (try simp only [decide_eq_true_eq, decide_eq_false_iff_not, bne_iff_ne, bne_eq_false_iff_eq, beq_iff_eq, beq_eq_false_iff_ne, ne_eq, Int.not_lt, Int.not_le, Bool.and_eq_true, Bool.and_eq_false_iff, Bool.or_eq_true, Bool.or_eq_false_iff] at h)) <;> (try (exfalso; omega))))
  first | refine goC_call [.r, .r, .r, .r] (d_nil_impl_soughtCode d 2 9) ?_ | refine goOC_call [.r, .r, .r, .r] (d_nil_impl_soughtCode d 2 9) ?_
  repeat' (first | simp -implicitDefEqProofs (maxSteps := 1000000) (disch := (first | omega | (simp only [go_sem] <;> omega) | fail)) only [go_sem, ints, bools, mat] | ((first | apply goIf_b | apply goG_b | apply goTG_b | apply goOG_b) <;> intro h <;> ((try simp only [Bool.not_eq_true', Bool.not_eq_false'] at h); (try simp only [h]); (try simp only [decide_eq_true_eq, decide_eq_false_iff_not, bne_iff_ne, bne_eq_false_iff_eq, beq_iff_eq, beq_eq_false_iff_ne, ne_eq, Int.not_lt, Int.not_le, Bool.and_eq_true, Bool.and_eq_false_iff, Bool.or_eq_true, Bool.or_eq_false_iff] at h)) <;> (try (exfalso; omega))))
theorem d_nil_spec_FirstApart (d : Int) : Den PA f_spec_FirstApart [.d (.agg [nil]), .d (di d)] [.any, .any] (.tup [.d nil, .d (di 1)]) := by
  refine den_go [] l_spec_FirstApart ?_
  repeat' (first | simp -implicitDefEqProofs (maxSteps := 1000000) (disch := (first | omega | (simp only [go_sem] <;> omega) | fail)) only [go_sem, ints, bools, mat, c_spec_FirstApart] | ((first | apply goIf_b | apply goG_b | apply goTG_b | apply goOG_b) <;> intro h <;> ((try simp only [Bool.not_eq_true', Bool.not_eq_false'] at h); (try simp only [h]); (try simp only [decide_eq_true_eq, decide_eq_false_iff_not, bne_iff_ne, bne_eq_false_iff_eq, beq_iff_eq, beq_eq_false_iff_ne, ne_eq, Int.not_lt, Int.not_le, Bool.and_eq_true, Bool.and_eq_false_iff, Bool.or_eq_true, Bool.or_eq_false_iff] at h)) <;> (try (exfalso; omega))))
  first | refine goC_call [.r, .r, .r, .r] (d_nil_spec_l04Sought d 2 9) ?_ | refine goOC_call [.r, .r, .r, .r] (d_nil_spec_l04Sought d 2 9) ?_
  repeat' (first | simp -implicitDefEqProofs (maxSteps := 1000000) (disch := (first | omega | (simp only [go_sem] <;> omega) | fail)) only [go_sem, ints, bools, mat] | ((first | apply goIf_b | apply goG_b | apply goTG_b | apply goOG_b) <;> intro h <;> ((try simp only [Bool.not_eq_true', Bool.not_eq_false'] at h); (try simp only [h]); (try simp only [decide_eq_true_eq, decide_eq_false_iff_not, bne_iff_ne, bne_eq_false_iff_eq, beq_iff_eq, beq_eq_false_iff_ne, ne_eq, Int.not_lt, Int.not_le, Bool.and_eq_true, Bool.and_eq_false_iff, Bool.or_eq_true, Bool.or_eq_false_iff] at h)) <;> (try (exfalso; omega))))
theorem d_nil_impl_GreatestNumber (d : Int) : DenG PA f_impl_GreatestNumber 2 [.d (.agg [nil]), .d (di d), tabR] [.any, .any, .any] (.tup [.d (di 0), .d (di 1)]) := by
  refine den_goL [2] [(g_math_bits_deBruijn64tab, 2)] l_impl_GreatestNumber (by simp) (fun q hq => by simp at hq; subst hq; exact ⟨_, rfl⟩) ?_
  repeat' (first | simp -implicitDefEqProofs (maxSteps := 1000000) (disch := (first | omega | (simp only [go_sem] <;> omega) | fail)) only [go_sem, ints, bools, mat, c_impl_GreatestNumber, tabR, g_math_bits_deBruijn64tab] | ((first | apply goIf_b | apply goG_b | apply goTG_b | apply goOG_b) <;> intro h <;> ((try simp only [Bool.not_eq_true', Bool.not_eq_false'] at h); (try simp only [h]); (try simp only [decide_eq_true_eq, decide_eq_false_iff_not, bne_iff_ne, bne_eq_false_iff_eq, beq_iff_eq, beq_eq_false_iff_ne, ne_eq, Int.not_lt, Int.not_le, Bool.and_eq_true, Bool.and_eq_false_iff, Bool.or_eq_true, Bool.or_eq_false_iff] at h)) <;> (try (exfalso; omega))))
  first | refine goC_call [.r, .r, .r, .r] (d_nil_impl_soughtCode d 2 9) ?_ | refine goOC_call [.r, .r, .r, .r] (d_nil_impl_soughtCode d 2 9) ?_
  repeat' (first | simp -implicitDefEqProofs (maxSteps := 1000000) (disch := (first | omega | (simp only [go_sem] <;> omega) | fail)) only [go_sem, ints, bools, mat] | ((first | apply goIf_b | apply goG_b | apply goTG_b | apply goOG_b) <;> intro h <;> ((try simp only [Bool.not_eq_true', Bool.not_eq_false'] at h); (try simp only [h]); (try simp only [decide_eq_true_eq, decide_eq_false_iff_not, bne_iff_ne, bne_eq_false_iff_eq, beq_iff_eq, beq_eq_false_iff_ne, ne_eq, Int.not_lt, Int.not_le, Bool.and_eq_true, Bool.and_eq_false_iff, Bool.or_eq_true, Bool.or_eq_false_iff] at h)) <;> (try (exfalso; omega))))
theorem d_nil_spec_GreatestNumber (d : Int) : Den PA f_spec_GreatestNumber [.d (.agg [nil]), .d (di d)] [.any, .any] (.tup [.d (di 0), .d (di 1)]) := by
  refine den_go [] l_spec_GreatestNumber ?_
  repeat' (first | simp -implicitDefEqProofs (maxSteps := 1000000) (disch := (first | omega | (simp only [go_sem] <;> omega) | fail)) only [go_sem, ints, bools, mat, c_spec_GreatestNumber] | ((first | apply goIf_b | apply goG_b | apply goTG_b | apply goOG_b) <;> intro h <;> ((try simp only [Bool.not_eq_true', Bool.not_eq_false'] at h); (try simp only [h]); (try simp only [decide_eq_true_eq, decide_eq_false_iff_not, bne_iff_ne, bne_eq_false_iff_eq, beq_iff_eq, beq_eq_false_iff_ne, ne_eq, Int.not_lt, Int.not_le, Bool.and_eq_true, Bool.and_eq_false_iff, Bool.or_eq_true, Bool.or_eq_false_iff] at h)) <;> (try (exfalso; omega))))
  first | refine goC_call [.r, .r, .r, .r] (d_nil_spec_l04Sought d 2 9) ?_ | refine goOC_call [.r, .r, .r, .r] (d_nil_spec_l04Sought d 2 9) ?_
  repeat' (first | simp -implicitDefEqProofs (maxSteps := 1000000) (disch := (first | omega | (simp only [go_sem] <;> omega) | fail)) only [go_sem, ints, bools, mat] | ((first | apply goIf_b | apply goG_b | apply goTG_b | apply goOG_b) <;> intro h <;> ((try simp only [Bool.not_eq_true', Bool.not_eq_false'] at h); (try simp only [h]); (try simp only [decide_eq_true_eq, decide_eq_false_iff_not, bne_iff_ne, bne_eq_false_iff_eq, beq_iff_eq, beq_eq_false_iff_ne, ne_eq, Int.not_lt, Int.not_le, Bool.and_eq_true, Bool.and_eq_false_iff, Bool.or_eq_true, Bool.or_eq_false_iff] at h)) <;> (try (exfalso; omega))))
theorem d_nil_impl_GreedyApart (d : Int) : Den PA f_impl_GreedyApart [.d (.agg [nil]), .d (di d)] [.any, .any] (.tup [.d nil, .d (di 1)]) := by
  refine den_go [] l_impl_GreedyApart ?_
  repeat' (first | simp -implicitDefEqProofs (maxSteps := 1000000) (disch := (first | omega | (simp only [go_sem] <;> omega) | fail)) only [go_sem, ints, bools, mat, c_impl_GreedyApart] | ((first | apply goIf_b | apply goG_b | apply goTG_b | apply goOG_b) <;> intro h <;> ((try simp only [Bool.not_eq_true', Bool.not_eq_false'] at h); (try simp only [h]); (try simp only [decide_eq_true_eq, decide_eq_false_iff_not, bne_iff_ne, bne_eq_false_iff_eq, beq_iff_eq, beq_eq_false_iff_ne, ne_eq, Int.not_lt, Int.not_le, Bool.and_eq_true, Bool.and_eq_false_iff, Bool.or_eq_true, Bool.or_eq_false_iff] at h)) <;> (try (exfalso; omega))))
  first | refine goC_call [.r, .r] (d_nil_impl_boundCode d) ?_ | refine goOC_call [.r, .r] (d_nil_impl_boundCode d) ?_
  repeat' (first | simp -implicitDefEqProofs (maxSteps := 1000000) (disch := (first | omega | (simp only [go_sem] <;> omega) | fail)) only [go_sem, ints, bools, mat] | ((first | apply goIf_b | apply goG_b | apply goTG_b | apply goOG_b) <;> intro h <;> ((try simp only [Bool.not_eq_true', Bool.not_eq_false'] at h); (try simp only [h]); (try simp only [decide_eq_true_eq, decide_eq_false_iff_not, bne_iff_ne, bne_eq_false_iff_eq, beq_iff_eq, beq_eq_false_iff_ne, ne_eq, Int.not_lt, Int.not_le, Bool.and_eq_true, Bool.and_eq_false_iff, Bool.or_eq_true, Bool.or_eq_false_iff] at h)) <;> (try (exfalso; omega))))
theorem d_nil_spec_GreedyApart (d : Int) : Den PA f_spec_GreedyApart [.d (.agg [nil]), .d (di d)] [.any, .any] (.tup [.d nil, .d (di 1)]) := by
  refine den_go [] l_spec_GreedyApart ?_
  repeat' (first | simp -implicitDefEqProofs (maxSteps := 1000000) (disch := (first | omega | (simp only [go_sem] <;> omega) | fail)) only [go_sem, ints, bools, mat, c_spec_GreedyApart] | ((first | apply goIf_b | apply goG_b | apply goTG_b | apply goOG_b) <;> intro h <;> ((try simp only [Bool.not_eq_true', Bool.not_eq_false'] at h); (try simp only [h]); (try simp only [decide_eq_true_eq, decide_eq_false_iff_not, bne_iff_ne, bne_eq_false_iff_eq, beq_iff_eq, beq_eq_false_iff_ne, ne_eq, Int.not_lt, Int.not_le, Bool.and_eq_true, Bool.and_eq_false_iff, Bool.or_eq_true, Bool.or_eq_false_iff] at h)) <;> (try (exfalso; omega))))
  first | refine goC_call [.r, .r, .r, .r] (d_nil_spec_l04Code d 1 9) ?_ | refine goOC_call [.r, .r, .r, .r] (d_nil_spec_l04Code d 1 9) ?_
  repeat' (first | simp -implicitDefEqProofs (maxSteps := 1000000) (disch := (first | omega | (simp only [go_sem] <;> omega) | fail)) only [go_sem, ints, bools, mat] | ((first | apply goIf_b | apply goG_b | apply goTG_b | apply goOG_b) <;> intro h <;> ((try simp only [Bool.not_eq_true', Bool.not_eq_false'] at h); (try simp only [h]); (try simp only [decide_eq_true_eq, decide_eq_false_iff_not, bne_iff_ne, bne_eq_false_iff_eq, beq_iff_eq, beq_eq_false_iff_ne, ne_eq, Int.not_lt, Int.not_le, Bool.and_eq_true, Bool.and_eq_false_iff, Bool.or_eq_true, Bool.or_eq_false_iff] at h)) <;> (try (exfalso; omega))))
theorem d_nil_impl_PackingBound (d : Int) : Den PA f_impl_PackingBound [.d (.agg [nil]), .d (di d)] [.any, .any] (.tup [.d (di 0), .d (di 1)]) := by
  refine den_go [] l_impl_PackingBound ?_
  repeat' (first | simp -implicitDefEqProofs (maxSteps := 1000000) (disch := (first | omega | (simp only [go_sem] <;> omega) | fail)) only [go_sem, ints, bools, mat, c_impl_PackingBound] | ((first | apply goIf_b | apply goG_b | apply goTG_b | apply goOG_b) <;> intro h <;> ((try simp only [Bool.not_eq_true', Bool.not_eq_false'] at h); (try simp only [h]); (try simp only [decide_eq_true_eq, decide_eq_false_iff_not, bne_iff_ne, bne_eq_false_iff_eq, beq_iff_eq, beq_eq_false_iff_ne, ne_eq, Int.not_lt, Int.not_le, Bool.and_eq_true, Bool.and_eq_false_iff, Bool.or_eq_true, Bool.or_eq_false_iff] at h)) <;> (try (exfalso; omega))))
  first | refine goC_call [.r, .r] (d_nil_impl_boundCode d) ?_ | refine goOC_call [.r, .r] (d_nil_impl_boundCode d) ?_
  repeat' (first | simp -implicitDefEqProofs (maxSteps := 1000000) (disch := (first | omega | (simp only [go_sem] <;> omega) | fail)) only [go_sem, ints, bools, mat] | ((first | apply goIf_b | apply goG_b | apply goTG_b | apply goOG_b) <;> intro h <;> ((try simp only [Bool.not_eq_true', Bool.not_eq_false'] at h); (try simp only [h]); (try simp only [decide_eq_true_eq, decide_eq_false_iff_not, bne_iff_ne, bne_eq_false_iff_eq, beq_iff_eq, beq_eq_false_iff_ne, ne_eq, Int.not_lt, Int.not_le, Bool.and_eq_true, Bool.and_eq_false_iff, Bool.or_eq_true, Bool.or_eq_false_iff] at h)) <;> (try (exfalso; omega))))
theorem d_nil_spec_PackingBound (d : Int) : Den PA f_spec_PackingBound [.d (.agg [nil]), .d (di d)] [.any, .any] (.tup [.d (di 0), .d (di 1)]) := by
  refine den_go [] l_spec_PackingBound ?_
  repeat' (first | simp -implicitDefEqProofs (maxSteps := 1000000) (disch := (first | omega | (simp only [go_sem] <;> omega) | fail)) only [go_sem, ints, bools, mat, c_spec_PackingBound] | ((first | apply goIf_b | apply goG_b | apply goTG_b | apply goOG_b) <;> intro h <;> ((try simp only [Bool.not_eq_true', Bool.not_eq_false'] at h); (try simp only [h]); (try simp only [decide_eq_true_eq, decide_eq_false_iff_not, bne_iff_ne, bne_eq_false_iff_eq, beq_iff_eq, beq_eq_false_iff_ne, ne_eq, Int.not_lt, Int.not_le, Bool.and_eq_true, Bool.and_eq_false_iff, Bool.or_eq_true, Bool.or_eq_false_iff] at h)) <;> (try (exfalso; omega))))
  first | refine goC_call [.r, .r, .r, .r] (d_nil_spec_l04Code d 1 9) ?_ | refine goOC_call [.r, .r, .r, .r] (d_nil_spec_l04Code d 1 9) ?_
  repeat' (first | simp -implicitDefEqProofs (maxSteps := 1000000) (disch := (first | omega | (simp only [go_sem] <;> omega) | fail)) only [go_sem, ints, bools, mat] | ((first | apply goIf_b | apply goG_b | apply goTG_b | apply goOG_b) <;> intro h <;> ((try simp only [Bool.not_eq_true', Bool.not_eq_false'] at h); (try simp only [h]); (try simp only [decide_eq_true_eq, decide_eq_false_iff_not, bne_iff_ne, bne_eq_false_iff_eq, beq_iff_eq, beq_eq_false_iff_ne, ne_eq, Int.not_lt, Int.not_le, Bool.and_eq_true, Bool.and_eq_false_iff, Bool.or_eq_true, Bool.or_eq_false_iff] at h)) <;> (try (exfalso; omega))))
theorem d_nil_impl_PlaceBound (d : Int) : Den PA f_impl_PlaceBound [.d (.agg [nil]), .d (di d)] [.any, .any] (.tup [.d (di 0), .d (di 1)]) := by
  refine den_go [] l_impl_PlaceBound ?_
  repeat' (first | simp -implicitDefEqProofs (maxSteps := 1000000) (disch := (first | omega | (simp only [go_sem] <;> omega) | fail)) only [go_sem, ints, bools, mat, c_impl_PlaceBound] | ((first | apply goIf_b | apply goG_b | apply goTG_b | apply goOG_b) <;> intro h <;> ((try simp only [Bool.not_eq_true', Bool.not_eq_false'] at h); (try simp only [h]); (try simp only [decide_eq_true_eq, decide_eq_false_iff_not, bne_iff_ne, bne_eq_false_iff_eq, beq_iff_eq, beq_eq_false_iff_ne, ne_eq, Int.not_lt, Int.not_le, Bool.and_eq_true, Bool.and_eq_false_iff, Bool.or_eq_true, Bool.or_eq_false_iff] at h)) <;> (try (exfalso; omega))))
  first | refine goC_call [.r, .r] (d_nil_impl_boundCode d) ?_ | refine goOC_call [.r, .r] (d_nil_impl_boundCode d) ?_
  repeat' (first | simp -implicitDefEqProofs (maxSteps := 1000000) (disch := (first | omega | (simp only [go_sem] <;> omega) | fail)) only [go_sem, ints, bools, mat] | ((first | apply goIf_b | apply goG_b | apply goTG_b | apply goOG_b) <;> intro h <;> ((try simp only [Bool.not_eq_true', Bool.not_eq_false'] at h); (try simp only [h]); (try simp only [decide_eq_true_eq, decide_eq_false_iff_not, bne_iff_ne, bne_eq_false_iff_eq, beq_iff_eq, beq_eq_false_iff_ne, ne_eq, Int.not_lt, Int.not_le, Bool.and_eq_true, Bool.and_eq_false_iff, Bool.or_eq_true, Bool.or_eq_false_iff] at h)) <;> (try (exfalso; omega))))
theorem d_nil_spec_PlaceBound (d : Int) : Den PA f_spec_PlaceBound [.d (.agg [nil]), .d (di d)] [.any, .any] (.tup [.d (di 0), .d (di 1)]) := by
  refine den_go [] l_spec_PlaceBound ?_
  repeat' (first | simp -implicitDefEqProofs (maxSteps := 1000000) (disch := (first | omega | (simp only [go_sem] <;> omega) | fail)) only [go_sem, ints, bools, mat, c_spec_PlaceBound] | ((first | apply goIf_b | apply goG_b | apply goTG_b | apply goOG_b) <;> intro h <;> ((try simp only [Bool.not_eq_true', Bool.not_eq_false'] at h); (try simp only [h]); (try simp only [decide_eq_true_eq, decide_eq_false_iff_not, bne_iff_ne, bne_eq_false_iff_eq, beq_iff_eq, beq_eq_false_iff_ne, ne_eq, Int.not_lt, Int.not_le, Bool.and_eq_true, Bool.and_eq_false_iff, Bool.or_eq_true, Bool.or_eq_false_iff] at h)) <;> (try (exfalso; omega))))
  first | refine goC_call [.r, .r, .r, .r] (d_nil_spec_l04Code d 1 9) ?_ | refine goOC_call [.r, .r, .r, .r] (d_nil_spec_l04Code d 1 9) ?_
  repeat' (first | simp -implicitDefEqProofs (maxSteps := 1000000) (disch := (first | omega | (simp only [go_sem] <;> omega) | fail)) only [go_sem, ints, bools, mat] | ((first | apply goIf_b | apply goG_b | apply goTG_b | apply goOG_b) <;> intro h <;> ((try simp only [Bool.not_eq_true', Bool.not_eq_false'] at h); (try simp only [h]); (try simp only [decide_eq_true_eq, decide_eq_false_iff_not, bne_iff_ne, bne_eq_false_iff_eq, beq_iff_eq, beq_eq_false_iff_ne, ne_eq, Int.not_lt, Int.not_le, Bool.and_eq_true, Bool.and_eq_false_iff, Bool.or_eq_true, Bool.or_eq_false_iff] at h)) <;> (try (exfalso; omega))))
theorem d_nil_impl_CanGrow (c : D) (d : Int) : Den PA f_impl_CanGrow [.d (.agg [nil]), .d c, .d (di d)] [.any, .any, .any] (.tup [.d (db false), .d (di 1)]) := by
  refine den_go [] l_impl_CanGrow ?_
  repeat' (first | simp -implicitDefEqProofs (maxSteps := 1000000) (disch := (first | omega | (simp only [go_sem] <;> omega) | fail)) only [go_sem, ints, bools, mat, c_impl_CanGrow] | ((first | apply goIf_b | apply goG_b | apply goTG_b | apply goOG_b) <;> intro h <;> ((try simp only [Bool.not_eq_true', Bool.not_eq_false'] at h); (try simp only [h]); (try simp only [decide_eq_true_eq, decide_eq_false_iff_not, bne_iff_ne, bne_eq_false_iff_eq, beq_iff_eq, beq_eq_false_iff_ne, ne_eq, Int.not_lt, Int.not_le, Bool.and_eq_true, Bool.and_eq_false_iff, Bool.or_eq_true, Bool.or_eq_false_iff] at h)) <;> (try (exfalso; omega))))
  first | refine goC_call [.r, .r, .r] (d_nil_impl_apartCode c d) ?_ | refine goOC_call [.r, .r, .r] (d_nil_impl_apartCode c d) ?_
  repeat' (first | simp -implicitDefEqProofs (maxSteps := 1000000) (disch := (first | omega | (simp only [go_sem] <;> omega) | fail)) only [go_sem, ints, bools, mat] | ((first | apply goIf_b | apply goG_b | apply goTG_b | apply goOG_b) <;> intro h <;> ((try simp only [Bool.not_eq_true', Bool.not_eq_false'] at h); (try simp only [h]); (try simp only [decide_eq_true_eq, decide_eq_false_iff_not, bne_iff_ne, bne_eq_false_iff_eq, beq_iff_eq, beq_eq_false_iff_ne, ne_eq, Int.not_lt, Int.not_le, Bool.and_eq_true, Bool.and_eq_false_iff, Bool.or_eq_true, Bool.or_eq_false_iff] at h)) <;> (try (exfalso; omega))))
theorem d_nil_spec_CanGrow (c : D) (d : Int) : Den PA f_spec_CanGrow [.d (.agg [nil]), .d c, .d (di d)] [.any, .any, .any] (.tup [.d (db false), .d (di 1)]) := by
  refine den_go [] l_spec_CanGrow ?_
  repeat' (first | simp -implicitDefEqProofs (maxSteps := 1000000) (disch := (first | omega | (simp only [go_sem] <;> omega) | fail)) only [go_sem, ints, bools, mat, c_spec_CanGrow] | ((first | apply goIf_b | apply goG_b | apply goTG_b | apply goOG_b) <;> intro h <;> ((try simp only [Bool.not_eq_true', Bool.not_eq_false'] at h); (try simp only [h]); (try simp only [decide_eq_true_eq, decide_eq_false_iff_not, bne_iff_ne, bne_eq_false_iff_eq, beq_iff_eq, beq_eq_false_iff_ne, ne_eq, Int.not_lt, Int.not_le, Bool.and_eq_true, Bool.and_eq_false_iff, Bool.or_eq_true, Bool.or_eq_false_iff] at h)) <;> (try (exfalso; omega))))
  first | refine goC_call [.r, .r, .r] (d_nil_spec_l04Given c d) ?_ | refine goOC_call [.r, .r, .r] (d_nil_spec_l04Given c d) ?_
  repeat' (first | simp -implicitDefEqProofs (maxSteps := 1000000) (disch := (first | omega | (simp only [go_sem] <;> omega) | fail)) only [go_sem, ints, bools, mat] | ((first | apply goIf_b | apply goG_b | apply goTG_b | apply goOG_b) <;> intro h <;> ((try simp only [Bool.not_eq_true', Bool.not_eq_false'] at h); (try simp only [h]); (try simp only [decide_eq_true_eq, decide_eq_false_iff_not, bne_iff_ne, bne_eq_false_iff_eq, beq_iff_eq, beq_eq_false_iff_ne, ne_eq, Int.not_lt, Int.not_le, Bool.and_eq_true, Bool.and_eq_false_iff, Bool.or_eq_true, Bool.or_eq_false_iff] at h)) <;> (try (exfalso; omega))))
theorem d_nil_impl_AreApart (c : D) (d : Int) : Den PA f_impl_AreApart [.d (.agg [nil]), .d c, .d (di d)] [.any, .any, .any] (.tup [.d (db false), .d (di 1)]) := by
  refine den_go [] l_impl_AreApart ?_
  repeat' (first | simp -implicitDefEqProofs (maxSteps := 1000000) (disch := (first | omega | (simp only [go_sem] <;> omega) | fail)) only [go_sem, ints, bools, mat, c_impl_AreApart] | ((first | apply goIf_b | apply goG_b | apply goTG_b | apply goOG_b) <;> intro h <;> ((try simp only [Bool.not_eq_true', Bool.not_eq_false'] at h); (try simp only [h]); (try simp only [decide_eq_true_eq, decide_eq_false_iff_not, bne_iff_ne, bne_eq_false_iff_eq, beq_iff_eq, beq_eq_false_iff_ne, ne_eq, Int.not_lt, Int.not_le, Bool.and_eq_true, Bool.and_eq_false_iff, Bool.or_eq_true, Bool.or_eq_false_iff] at h)) <;> (try (exfalso; omega))))
  first | refine goC_call [.r, .r, .r] (d_nil_impl_apartCode c d) ?_ | refine goOC_call [.r, .r, .r] (d_nil_impl_apartCode c d) ?_
  repeat' (first | simp -implicitDefEqProofs (maxSteps := 1000000) (disch := (first | omega | (simp only [go_sem] <;> omega) | fail)) only [go_sem, ints, bools, mat] | ((first | apply goIf_b | apply goG_b | apply goTG_b | apply goOG_b) <;> intro h <;> ((try simp only [Bool.not_eq_true', Bool.not_eq_false'] at h); (try simp only [h]); (try simp only [decide_eq_true_eq, decide_eq_false_iff_not, bne_iff_ne, bne_eq_false_iff_eq, beq_iff_eq, beq_eq_false_iff_ne, ne_eq, Int.not_lt, Int.not_le, Bool.and_eq_true, Bool.and_eq_false_iff, Bool.or_eq_true, Bool.or_eq_false_iff] at h)) <;> (try (exfalso; omega))))
theorem d_nil_spec_AreApart (c : D) (d : Int) : Den PA f_spec_AreApart [.d (.agg [nil]), .d c, .d (di d)] [.any, .any, .any] (.tup [.d (db false), .d (di 1)]) := by
  refine den_go [] l_spec_AreApart ?_
  repeat' (first | simp -implicitDefEqProofs (maxSteps := 1000000) (disch := (first | omega | (simp only [go_sem] <;> omega) | fail)) only [go_sem, ints, bools, mat, c_spec_AreApart] | ((first | apply goIf_b | apply goG_b | apply goTG_b | apply goOG_b) <;> intro h <;> ((try simp only [Bool.not_eq_true', Bool.not_eq_false'] at h); (try simp only [h]); (try simp only [decide_eq_true_eq, decide_eq_false_iff_not, bne_iff_ne, bne_eq_false_iff_eq, beq_iff_eq, beq_eq_false_iff_ne, ne_eq, Int.not_lt, Int.not_le, Bool.and_eq_true, Bool.and_eq_false_iff, Bool.or_eq_true, Bool.or_eq_false_iff] at h)) <;> (try (exfalso; omega))))
  first | refine goC_call [.r, .r, .r] (d_nil_spec_l04Given c d) ?_ | refine goOC_call [.r, .r, .r] (d_nil_spec_l04Given c d) ?_
  repeat' (first | simp -implicitDefEqProofs (maxSteps := 1000000) (disch := (first | omega | (simp only [go_sem] <;> omega) | fail)) only [go_sem, ints, bools, mat] | ((first | apply goIf_b | apply goG_b | apply goTG_b | apply goOG_b) <;> intro h <;> ((try simp only [Bool.not_eq_true', Bool.not_eq_false'] at h); (try simp only [h]); (try simp only [decide_eq_true_eq, decide_eq_false_iff_not, bne_iff_ne, bne_eq_false_iff_eq, beq_iff_eq, beq_eq_false_iff_ne, ne_eq, Int.not_lt, Int.not_le, Bool.and_eq_true, Bool.and_eq_false_iff, Bool.or_eq_true, Bool.or_eq_false_iff] at h)) <;> (try (exfalso; omega))))
structure FaF (X : D) (d : Int) (F G : List Int) (a b : Int) : Prop where
  fl : F.length < 1048577
  fa : DenG PA f_impl_FirstApart 2 [.d (.agg [X]), .d (di d), tabR] [.any, .any, .any] (.tup [.own 1 (F.map di), .d (di 0)])
  fs : Den PA f_spec_FirstApart [.d (.agg [X]), .d (di d)] [.any, .any] (.tup [.d (ints F), .d (di 0)])
  ga : DenG PA f_impl_GreatestNumber 2 [.d (.agg [X]), .d (di d), tabR] [.any, .any, .any] (.tup [.d (di F.length), .d (di 0)])
  gs : Den PA f_spec_GreatestNumber [.d (.agg [X]), .d (di d)] [.any, .any] (.tup [.d (di F.length), .d (di 0)])
  ap : Den PA f_impl_AreApart [.d (.agg [X]), .d (ints F), .d (di d)] [.any, .any, .any] (.tup [.d (db true), .d (di 0)])
  gr : Den PA f_impl_GreedyApart [.d (.agg [X]), .d (di d)] [.any, .any] (.tup [.own 1 (G.map di), .d (di 0)])
  pk : Den PA f_impl_PackingBound [.d (.agg [X]), .d (di d)] [.any, .any] (.tup [.d (di a), .d (di 0)])
  pl : Den PA f_impl_PlaceBound [.d (.agg [X]), .d (di d)] [.any, .any] (.tup [.d (di b), .d (di 0)])
  le : G.length ≤ F.length
  la : (F.length : Int) ≤ a
  lb : (F.length : Int) ≤ b
structure FaN (X : D) (d e : Int) : Prop where
  fa : DenG PA f_impl_FirstApart 2 [.d (.agg [X]), .d (di d), tabR] [.any, .any, .any] (.tup [.d nil, .d (di e)])
  fs : Den PA f_spec_FirstApart [.d (.agg [X]), .d (di d)] [.any, .any] (.tup [.d nil, .d (di e)])
  ga : DenG PA f_impl_GreatestNumber 2 [.d (.agg [X]), .d (di d), tabR] [.any, .any, .any] (.tup [.d (di 0), .d (di e)])
  gs : Den PA f_spec_GreatestNumber [.d (.agg [X]), .d (di d)] [.any, .any] (.tup [.d (di 0), .d (di e)])
theorem fa_facts {X : D} {o : List Int} (d : Int) (hX : drL X o) : (∃ F G a b, FaF X d F G a b) ∨ ∃ e, e ≠ 0 ∧ FaN X d e := by
  obtain ⟨hX1, hX2, hX3⟩ := hX
  rcases hX1 with rfl | ⟨rfl, rfl⟩
  · have h1 := d_impl_FirstApart o d hX2
    have h2 := d_spec_FirstApart o d hX2
    have h3 := d_impl_GreatestNumber o d hX2
    have h4 := d_spec_GreatestNumber o d hX2
    by_cases h : scE o d 2 9 = 0
    · obtain ⟨hb, hac, hap, ha, hbb, hl, hg⟩ := best_facts h
      have h5 := d_impl_AreApart o (bsX o d (allW o)) d hX2 (by omega)
      have h6 := d_impl_GreedyApart o d hX2
      have h7 := d_impl_PackingBound o d hX2
      have h8 := d_impl_PlaceBound o d hX2
      rw [lstR_ok h] at h1
      rw [lstF, if_pos h] at h2
      rw [gnR, if_pos h, h] at h3 h4
      rw [apartR, hac, hap] at h5
      rw [lstR_ok hb] at h6
      rw [pkR, if_pos hb, hb] at h7
      rw [pbR, if_pos hb, hb] at h8
      exact .inl ⟨_, _, _, _, ⟨by omega, h1, h2, h3, h4, h5, h6, h7, h8, hg, ha, hbb⟩⟩
    · rw [lstR_no h] at h1
      rw [lstF, if_neg h] at h2
      rw [gnR, if_neg h] at h3 h4
      exact .inr ⟨_, h, ⟨h1, h2, h3, h4⟩⟩
  · exact .inr ⟨1, by decide, ⟨d_nil_impl_FirstApart d, d_nil_spec_FirstApart d, d_nil_impl_GreatestNumber d, d_nil_spec_GreatestNumber d⟩⟩
structure GaF (X : D) (d : Int) (G : List Int) (a b : Int) : Prop where
  gl : G.length < 1048577
  g1 : Den PA f_impl_GreedyApart [.d (.agg [X]), .d (di d)] [.any, .any] (.tup [.own 1 (G.map di), .d (di 0)])
  g2 : Den PA f_spec_GreedyApart [.d (.agg [X]), .d (di d)] [.any, .any] (.tup [.own 1 (G.map di), .d (di 0)])
  p1 : Den PA f_impl_PackingBound [.d (.agg [X]), .d (di d)] [.any, .any] (.tup [.d (di a), .d (di 0)])
  p2 : Den PA f_spec_PackingBound [.d (.agg [X]), .d (di d)] [.any, .any] (.tup [.d (di a), .d (di 0)])
  q1 : Den PA f_impl_PlaceBound [.d (.agg [X]), .d (di d)] [.any, .any] (.tup [.d (di b), .d (di 0)])
  q2 : Den PA f_spec_PlaceBound [.d (.agg [X]), .d (di d)] [.any, .any] (.tup [.d (di b), .d (di 0)])
  ap : Den PA f_impl_AreApart [.d (.agg [X]), .d (ints G), .d (di d)] [.any, .any, .any] (.tup [.d (db true), .d (di 0)])
  gr : Den PA f_impl_CanGrow [.d (.agg [X]), .d (ints G), .d (di d)] [.any, .any, .any] (.tup [.d (db false), .d (di 0)])
  la : (G.length : Int) ≤ a
  lb : (G.length : Int) ≤ b
structure GaN (X : D) (d e : Int) : Prop where
  g1 : Den PA f_impl_GreedyApart [.d (.agg [X]), .d (di d)] [.any, .any] (.tup [.d nil, .d (di e)])
  g2 : Den PA f_spec_GreedyApart [.d (.agg [X]), .d (di d)] [.any, .any] (.tup [.d nil, .d (di e)])
  p1 : Den PA f_impl_PackingBound [.d (.agg [X]), .d (di d)] [.any, .any] (.tup [.d (di 0), .d (di e)])
  p2 : Den PA f_spec_PackingBound [.d (.agg [X]), .d (di d)] [.any, .any] (.tup [.d (di 0), .d (di e)])
  q1 : Den PA f_impl_PlaceBound [.d (.agg [X]), .d (di d)] [.any, .any] (.tup [.d (di 0), .d (di e)])
  q2 : Den PA f_spec_PlaceBound [.d (.agg [X]), .d (di d)] [.any, .any] (.tup [.d (di 0), .d (di e)])
theorem ga_facts {X : D} {o : List Int} (d : Int) (hX : drL X o) : (∃ G a b, GaF X d G a b) ∨ ∃ e, e ≠ 0 ∧ GaN X d e := by
  obtain ⟨hX1, hX2, hX3⟩ := hX
  rcases hX1 with rfl | ⟨rfl, rfl⟩
  · have h1 := d_impl_GreedyApart o d hX2
    have h2 := d_spec_GreedyApart o d hX2
    have h3 := d_impl_PackingBound o d hX2
    have h4 := d_spec_PackingBound o d hX2
    have h5 := d_impl_PlaceBound o d hX2
    have h6 := d_spec_PlaceBound o d hX2
    by_cases h : bcM o d = 0
    · obtain ⟨hac, hap, hgr, ha, hb, hl, _⟩ := greed_facts h
      have h7 := d_impl_AreApart o (greedM o d) d hX2 (by omega)
      have h8 := d_impl_CanGrow o (greedM o d) d hX2 (by omega)
      rw [lstR_ok h] at h1 h2
      rw [pkR, if_pos h, h] at h3 h4
      rw [pbR, if_pos h, h] at h5 h6
      rw [apartR, hac, hap] at h7
      rw [growR, hac, hgr] at h8
      exact .inl ⟨_, _, _, ⟨by omega, h1, h2, h3, h4, h5, h6, h7, h8, ha, hb⟩⟩
    · rw [lstR_no h] at h1 h2
      rw [pkR, if_neg h] at h3 h4
      rw [pbR, if_neg h] at h5 h6
      exact .inr ⟨_, h, ⟨h1, h2, h3, h4, h5, h6⟩⟩
  · exact .inr ⟨1, by decide, ⟨d_nil_impl_GreedyApart d, d_nil_spec_GreedyApart d, d_nil_impl_PackingBound d, d_nil_spec_PackingBound d, d_nil_impl_PlaceBound d, d_nil_spec_PlaceBound d⟩⟩
structure GrF (X : D) (c : List Int) (d e : Int) (g p : Bool) : Prop where
  g1 : Den PA f_impl_CanGrow [.d (.agg [X]), .d (ints c), .d (di d)] [.any, .any, .any] (.tup [.d (db g), .d (di e)])
  g2 : Den PA f_spec_CanGrow [.d (.agg [X]), .d (ints c), .d (di d)] [.any, .any, .any] (.tup [.d (db g), .d (di e)])
  p1 : Den PA f_impl_AreApart [.d (.agg [X]), .d (ints c), .d (di d)] [.any, .any, .any] (.tup [.d (db p), .d (di e)])
  p2 : Den PA f_spec_AreApart [.d (.agg [X]), .d (ints c), .d (di d)] [.any, .any, .any] (.tup [.d (db p), .d (di e)])
theorem wrap_small {d : Int} (h1 : 1 ≤ d) (h9 : d ≤ 9) : IntKind.wrap .i64 (d - 1) = d - 1 := wrap64 (by omega) (by omega)
theorem gr_facts {X : D} {o c : List Int} (d : Int) (hX : drL X o) (hc : c.length < 1048577) : ∃ (e : Int) (g p : Bool), GrF X c d e g p ∧ (e = 0 → g = false →
    Den PA f_impl_CoversSpace [.d (.agg [X]), .d (ints c), .d (.v (.int .i64 (IntKind.wrap .i64 (d - 1))))] [.any, .any, .any] (.tup [.d (db true), .d (di 0)])) := by
  obtain ⟨hX1, hX2, hX3⟩ := hX
  rcases hX1 with rfl | ⟨rfl, rfl⟩
  · have h1 := d_impl_CanGrow o c d hX2 hc
    have h2 := d_spec_CanGrow o c d hX2 hc
    have h3 := d_impl_AreApart o c d hX2 hc
    have h4 := d_spec_AreApart o c d hX2 hc
    refine ⟨_, _, _, ⟨h1, h2, h3, h4⟩, fun h hg => ?_⟩
    rw [decide_eq_true h, Bool.true_and] at hg
    obtain ⟨hcc, hcv⟩ := grow_covers h hg
    obtain ⟨_, _, h1, h9⟩ := acM_ok h
    have h5 := d_impl_CoversSpace o c (d - 1) hX2 hc
    rw [cvsR, if_pos hcc, hcc, hcv] at h5
    rw [wrap_small h1 h9]
    exact h5
  · exact ⟨1, false, false, ⟨d_nil_impl_CanGrow _ d, d_nil_spec_CanGrow _ d, d_nil_impl_AreApart _ d, d_nil_spec_AreApart _ d⟩, fun h => by cases h⟩
end Go.Proofs.YtgmocipfgfnolaaGreatDoor.Va
