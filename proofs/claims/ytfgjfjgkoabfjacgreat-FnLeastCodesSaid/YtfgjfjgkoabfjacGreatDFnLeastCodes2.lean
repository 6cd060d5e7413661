/- Contracts of the functions that FnLeastCodes reaches (part 2). Condition: none. -/
import Derived.Test.YtfgjfjgkoabfjacGreatDFnLeastCodes1
set_option linter.all false
set_option linter.unusedSimpArgs false
set_option linter.unusedVariables false
namespace Go.Proofs.YtfgjfjgkoabfjacGreat.Va
open Go
set_option maxHeartbeats 4000000
set_option maxRecDepth 100000
theorem d_impl_GreedyCode (l : List Int) (r : Int) (hl : l.length < 1048577) : Den PA f_impl_GreedyCode [.d (.agg [ints l]), .d (di r)] [.any, .any] (lstR (rcM l r) (grM l r)) := by
  refine den_go [] l_impl_GreedyCode ?_
  repeat' (first | simp -implicitDefEqProofs (maxSteps := 1000000) (disch := (first | omega | (simp only [go_sem] <;> omega) | fail)) only [go_sem, ints, bools, mat, c_impl_GreedyCode] | ((first | apply goIf_b | apply goG_b | apply goTG_b | apply goOG_b) <;> intro h <;> ((try simp only [hnq] at h); (try simp only [h]); (try simp only [hnr] at h)) <;> (try (exfalso; omega))))
  first | refine goC_call [.r, .r, .r] (d_impl_ballCode0 l r hl) ?_ | refine goOC_call [.r, .r, .r] (d_impl_ballCode0 l r hl) ?_
  by_cases h : rcM l r = 0
  · rw [lstR_ok h, h]
    obtain ⟨hs, hr0, hr8⟩ := rcM_ok' h
    have hp1 := prodM_pos (isSpaceM_szs hs)
    have hpr := isSpaceM_prod hs
    have hn8 := isSpaceM_n hs
    have hbl := ball_len hs 0 hr0
    have hbz := bz_pos hs hr0
    have hN : ((prodM l).toNat : Int) = prodM l := by omega
    have ga : ∀ i : Nat, i < (prodM l).toNat → (digsM l (allW l)).getD i [] = digM l i := fun i hi => by rw [digsM_get l (allW l) (by rw [allW_len]; exact hi), allW_get l hi]
    obtain ⟨X, hX⟩ : ∃ X, X = grd l r ((prodM l).toNat + 1) (List.replicate (prodM l).toNat false) [] := ⟨_, rfl⟩
    have hgr : grM l r = setI X := by rw [hX]; rfl
    repeat' (first | simp -implicitDefEqProofs (maxSteps := 1000000) (disch := (first | omega | (simp only [go_sem] <;> omega) | fail)) only [go_sem, ints, bools, mat] | ((first | apply goIf_b | apply goG_b | apply goTG_b | apply goOG_b) <;> intro h <;> ((try simp only [hnq] at h); (try simp only [h]); (try simp only [hnr] at h)) <;> (try (exfalso; omega))))
    first | refine goC_call [.r] (d_impl_allDigits l hs) ?_ | refine goOC_call [.r] (d_impl_allDigits l hs) ?_
    repeat' (first | simp -implicitDefEqProofs (maxSteps := 1000000) (disch := (first | omega | (simp only [go_sem] <;> omega) | fail)) only [go_sem, ints, bools, mat] | ((first | apply goIf_b | apply goG_b | apply goTG_b | apply goOG_b) <;> intro h <;> ((try simp only [hnq] at h); (try simp only [h]); (try simp only [hnr] at h)) <;> (try (exfalso; omega))))
    first | refine goC_call [.r, .r, .r] (d_impl_ball l hs 0 r (by omega) (by omega)) ?_ | refine goOC_call [.r, .r, .r] (d_impl_ball l hs 0 r (by omega) (by omega)) ?_
    repeat' (first | simp -implicitDefEqProofs (maxSteps := 1000000) (disch := (first | omega | (simp only [go_sem] <;> omega) | fail)) only [go_sem, ints, bools, mat, hbl] | ((first | apply goIf_b | apply goG_b | apply goTG_b | apply goOG_b) <;> intro h <;> ((try simp only [hnq] at h); (try simp only [h]); (try simp only [hnr] at h)) <;> (try (exfalso; omega))))
    first | refine goC_call [.f, .r] (d_slices_Repeat (bzM l r) (prodM l).toNat (by omega) (by omega)) ?_ | refine goOC_call [.f, .r] (d_slices_Repeat (bzM l r) (prodM l).toNat (by omega) (by omega)) ?_
    repeat' (first | simp -implicitDefEqProofs (maxSteps := 1000000) (disch := (first | omega | (simp only [go_sem] <;> omega) | fail)) only [go_sem, ints, bools, mat] | ((first | apply goIf_b | apply goG_b | apply goTG_b | apply goOG_b) <;> intro h <;> ((try simp only [hnq] at h); (try simp only [h]); (try simp only [hnr] at h)) <;> (try (exfalso; omega))))
    refine go_loop (fun (p : List Bool × List Int) => ⟨[(1, .d (di r)), (7, .sl 0 0 (prodM l).toNat 8), (8, .sl 1 0 (p.2).length 1), (9, .sl 2 0 (prodM l).toNat 1), (10, .sl 3 0 (prodM l).toNat 1)], [some (.dat 8 (digs (digsM l (allW l)))), some (.dat 1 ((p.2).map di)), some (.dat 1 ((gnL l r p.1).map di)), some (.dat 1 ((p.1).map db))]⟩) (fun p => GrJ l r p.1 p.2 ∧ grd l r ((prodM l).toNat + 1 - p.2.length) p.1 p.2 = X) (fun p => (prodM l).toNat + 1 - p.2.length) (List.replicate (prodM l).toNat false, []) ?_ ?_ ?_
    · simp -implicitDefEqProofs (maxSteps := 1000000) (disch := (first | omega | (simp only [go_sem] <;> omega) | fail)) only [go_sem, ints, bools, mat, gn_first hs hr0]
    · exact ⟨GrJ.start r, hX.symm⟩
    · rintro ⟨cv, K⟩ ⟨g, gX⟩ J hJ
      dsimp only at g gX ⊢
      have hKl := g.small hs
      have hcl := g.len
      rw [show (prodM l).toNat + 1 - K.length = ((prodM l).toNat - K.length) + 1 by omega, grd] at gX
      have hb : bsx (gnL l r cv) (prodM l).toNat < (prodM l).toNat := bst_lt hs r cv
      repeat' (first | simp -implicitDefEqProofs (maxSteps := 1000000) (disch := (first | omega | (simp only [go_sem] <;> omega) | fail)) only [go_sem, ints, bools, mat] | ((first | apply goIf_b | apply goG_b | apply goTG_b | apply goOG_b) <;> intro h <;> ((try simp only [hnq] at h); (try simp only [h]); (try simp only [hnr] at h)) <;> (try (exfalso; omega))))
      refine go_loop (fun (j : Nat) => ⟨[(1, .d (di r)), (7, .sl 0 0 (prodM l).toNat 8), (8, .sl 1 0 (K).length 1), (9, .sl 2 0 (prodM l).toNat 1), (10, .sl 3 0 (prodM l).toNat 1), (11, .d (di (bsx (gnL l r cv) j : Nat))), (36, .sl 2 0 (prodM l).toNat 1), (37, .d (di (prodM l).toNat)), (38, .d (di j))], [some (.dat 8 (digs (digsM l (allW l)))), some (.dat 1 ((K).map di)), some (.dat 1 ((gnL l r cv).map di)), some (.dat 1 ((cv).map db))]⟩) (fun j => j ≤ (prodM l).toNat) (fun j => (prodM l).toNat - j) 0 ?_ ?_ ?_
      · simp -implicitDefEqProofs (maxSteps := 1000000) (disch := (first | omega | (simp only [go_sem] <;> omega) | fail)) only [go_sem, ints, bools, mat]
        all_goals rfl
      · exact Nat.zero_le _
      · intro j hj J2 hJ2
        have hbj := bsx_lt (gnL l r cv) j
        by_cases hjl : j < (prodM l).toNat
        · by_cases hgt : (gnL l r cv).getD (bsx (gnL l r cv) j) 0 < (gnL l r cv).getD j 0
          · have e : bsx (gnL l r cv) (j + 1) = j := by rw [bsx, if_pos hgt]
            repeat' (first | simp -implicitDefEqProofs (maxSteps := 1000000) (disch := (first | omega | (simp only [go_sem] <;> omega) | fail)) only [go_sem, ints, bools, mat] | ((first | apply goIf_b | apply goG_b | apply goTG_b | apply goOG_b) <;> intro h <;> ((try simp only [hnq] at h); (try simp only [h]); (try simp only [hnr] at h)) <;> (try (exfalso; omega))))
            refine hJ2 (j + 1) (by omega) (by omega) _ ?_
            simp -implicitDefEqProofs (maxSteps := 1000000) (disch := (first | omega | (simp only [go_sem] <;> omega) | fail)) only [go_sem, ints, bools, mat, e]
            all_goals rfl
          · have e : bsx (gnL l r cv) (j + 1) = bsx (gnL l r cv) j := by rw [bsx, if_neg hgt]
            repeat' (first | simp -implicitDefEqProofs (maxSteps := 1000000) (disch := (first | omega | (simp only [go_sem] <;> omega) | fail)) only [go_sem, ints, bools, mat] | ((first | apply goIf_b | apply goG_b | apply goTG_b | apply goOG_b) <;> intro h <;> ((try simp only [hnq] at h); (try simp only [h]); (try simp only [hnr] at h)) <;> (try (exfalso; omega))))
            refine hJ2 (j + 1) (by omega) (by omega) _ ?_
            simp -implicitDefEqProofs (maxSteps := 1000000) (disch := (first | omega | (simp only [go_sem] <;> omega) | fail)) only [go_sem, ints, bools, mat, e]
            all_goals rfl
        · have hje : j = (prodM l).toNat := by omega
          subst hje
          by_cases hz : (gnL l r cv).getD (bsx (gnL l r cv) (prodM l).toNat) 0 = 0
          · rw [if_pos hz] at gX
            have hso := sortI_nodup g.nod
            repeat' (first | simp -implicitDefEqProofs (maxSteps := 1000000) (disch := (first | omega | (simp only [go_sem] <;> omega) | fail)) only [go_sem, ints, bools, mat] | ((first | apply goIf_b | apply goG_b | apply goTG_b | apply goOG_b) <;> intro h <;> ((try simp only [hnq] at h); (try simp only [h]); (try simp only [hnr] at h)) <;> (try (exfalso; omega))))
            first | refine goC_call [.o] (d_slices_Sort K (by omega)) ?_ | refine goOC_call [.o] (d_slices_Sort K (by omega)) ?_
            repeat' (first | simp -implicitDefEqProofs (maxSteps := 1000000) (disch := (first | omega | (simp only [go_sem] <;> omega) | fail)) only [go_sem, ints, bools, mat] | ((first | apply goIf_b | apply goG_b | apply goTG_b | apply goOG_b) <;> intro h <;> ((try simp only [hnq] at h); (try simp only [h]); (try simp only [hnr] at h)) <;> (try (exfalso; omega))))
            rw [hso, hgr, ← gX]
          · rw [if_neg hz] at gX
            have gn := g.next hs hz
            repeat' (first | simp -implicitDefEqProofs (maxSteps := 1000000) (disch := (first | omega | (simp only [go_sem] <;> omega) | fail)) only [go_sem, ints, bools, mat] | ((first | apply goIf_b | apply goG_b | apply goTG_b | apply goOG_b) <;> intro h <;> ((try simp only [hnq] at h); (try simp only [h]); (try simp only [hnr] at h)) <;> (try (exfalso; omega))))
            refine go_loop (fun (j : Nat) => ⟨[(1, .d (di r)), (7, .sl 0 0 (prodM l).toNat 8), (8, .sl 1 0 (K ++ [((bsx (gnL l r cv) (prodM l).toNat : Nat) : Int)]).length 1), (9, .sl 2 0 (prodM l).toNat 1), (10, .sl 3 0 (prodM l).toNat 1), (11, .d (di (bsx (gnL l r cv) (prodM l).toNat : Nat))), (64, .d (di (prodM l).toNat)), (65, .d (di j))], [some (.dat 8 (digs (digsM l (allW l)))), some (.dat 1 ((K ++ [((bsx (gnL l r cv) (prodM l).toNat : Nat) : Int)]).map di)), some (.dat 1 ((gnL l r (gcB l r cv (bsx (gnL l r cv) (prodM l).toNat) j)).map di)), some (.dat 1 ((gcB l r cv (bsx (gnL l r cv) (prodM l).toNat) j).map db))]⟩) (fun j => j ≤ (prodM l).toNat) (fun j => (prodM l).toNat - j) 0 ?_ ?_ ?_
            · simp -implicitDefEqProofs (maxSteps := 1000000) (disch := (first | omega | (simp only [go_sem] <;> omega) | fail)) only [go_sem, ints, bools, mat, gcB_zero]
              all_goals rfl
            · exact Nat.zero_le _
            · intro j hj J3 hJ3
              have hcj := gcB_len l r cv (bsx (gnL l r cv) (prodM l).toNat) j
              by_cases hjl : j < (prodM l).toNat
              · cases hc : (gcB l r cv (bsx (gnL l r cv) (prodM l).toNat) j).getD j false with
                | true =>
                  have e := gcB_old hcl hjl hc
                  repeat' (first | simp -implicitDefEqProofs (maxSteps := 1000000) (disch := (first | omega | (simp only [go_sem] <;> omega) | fail)) only [go_sem, ints, bools, mat, hc] | ((first | apply goIf_b | apply goG_b | apply goTG_b | apply goOG_b) <;> intro h <;> ((try simp only [hnq] at h); (try simp only [h]); (try simp only [hnr] at h)) <;> (try (exfalso; omega))))
                  refine hJ3 (j + 1) (by omega) (by omega) _ ?_
                  simp -implicitDefEqProofs (maxSteps := 1000000) (disch := (first | omega | (simp only [go_sem] <;> omega) | fail)) only [go_sem, ints, bools, mat, e]
                  all_goals rfl
                | false =>
                  have hse := gnC_set (r := r) (hcj.trans hcl) hjl hc
                  repeat' (first | simp -implicitDefEqProofs (maxSteps := 1000000) (disch := (first | omega | (simp only [go_sem] <;> omega) | fail)) only [go_sem, ints, bools, mat, hc] | ((first | apply goIf_b | apply goG_b | apply goTG_b | apply goOG_b) <;> intro h <;> ((try simp only [hnq] at h); (try simp only [h]); (try simp only [hnr] at h)) <;> (try (exfalso; omega))))
                  rw [ga _ hb, ga _ hjl]
                  first | refine goC_call [.r, .r] (d_impl_far (digM l (bsx (gnL l r cv) (prodM l).toNat : Nat)) (digM l j) (by rw [digM_len, digM_len]) (by rw [digM_len]; omega)) ?_ | refine goOC_call [.r, .r] (d_impl_far (digM l (bsx (gnL l r cv) (prodM l).toNat : Nat)) (digM l j) (by rw [digM_len, digM_len]) (by rw [digM_len]; omega)) ?_
                  by_cases hd : distM l (bsx (gnL l r cv) (prodM l).toNat : Nat) j ≤ r
                  · have hd' : farM (digM l (bsx (gnL l r cv) (prodM l).toNat : Nat)) (digM l j) ≤ r := hd
                    have e := gcB_yes cv hjl hd
                    repeat' (first | simp -implicitDefEqProofs (maxSteps := 1000000) (disch := (first | omega | (simp only [go_sem] <;> omega) | fail)) only [go_sem, ints, bools, mat] | ((first | apply goIf_b | apply goG_b | apply goTG_b | apply goOG_b) <;> intro h <;> ((try simp only [hnq] at h); (try simp only [h]); (try simp only [hnr] at h)) <;> (try (exfalso; omega))))
                    refine go_loop (fun (k : Nat) => ⟨[(1, .d (di r)), (7, .sl 0 0 (prodM l).toNat 8), (8, .sl 1 0 (K ++ [((bsx (gnL l r cv) (prodM l).toNat : Nat) : Int)]).length 1), (9, .sl 2 0 (prodM l).toNat 1), (10, .sl 3 0 (prodM l).toNat 1), (11, .d (di (bsx (gnL l r cv) (prodM l).toNat : Nat))), (14, .d (di j)), (64, .d (di (prodM l).toNat)), (65, .d (di j)), (89, .d (di (prodM l).toNat)), (90, .d (di k))], [some (.dat 8 (digs (digsM l (allW l)))), some (.dat 1 ((K ++ [((bsx (gnL l r cv) (prodM l).toNat : Nat) : Int)]).map di)), some (.dat 1 ((mxG l (gnC l r ((gcB l r cv (bsx (gnL l r cv) (prodM l).toNat) j).set j true)) (gnC l r (gcB l r cv (bsx (gnL l r cv) (prodM l).toNat) j)) (fun w => decide (w < (k : Nat)))).map di)), some (.dat 1 (((gcB l r cv (bsx (gnL l r cv) (prodM l).toNat) j).set j true).map db))]⟩) (fun k => k ≤ (prodM l).toNat) (fun k => (prodM l).toNat - k) 0 ?_ ?_ ?_
                    · rw [gn_none _ r _ fun i _ => decide_eq_false (by omega)]
                      simp -implicitDefEqProofs (maxSteps := 1000000) (disch := (first | omega | (simp only [go_sem] <;> omega) | fail)) only [go_sem, ints, bools, mat]
                      all_goals rfl
                    · exact Nat.zero_le _
                    · intro k hk J4 hJ4
                      by_cases hkl : k < (prodM l).toNat
                      · have hgk := mxG_get (l := l) (gnC l r ((gcB l r cv (bsx (gnL l r cv) (prodM l).toNat) j).set j true)) (gnC l r (gcB l r cv (bsx (gnL l r cv) (prodM l).toNat) j)) (fun w => decide (w < (k : Nat))) hkl
                        rw [if_neg (by simp)] at hgk
                        have hbk := gnC_bnd l r (gcB l r cv (bsx (gnL l r cv) (prodM l).toNat) j) k
                        have hsk := hse k
                        repeat' (first | simp -implicitDefEqProofs (maxSteps := 1000000) (disch := (first | omega | (simp only [go_sem] <;> omega) | fail)) only [go_sem, ints, bools, mat] | ((first | apply goIf_b | apply goG_b | apply goTG_b | apply goOG_b) <;> intro h <;> ((try simp only [hnq] at h); (try simp only [h]); (try simp only [hnr] at h)) <;> (try (exfalso; omega))))
                        rw [ga _ hkl, ga _ hjl]
                        first | refine goC_call [.r, .r] (d_impl_far (digM l k) (digM l j) (by rw [digM_len, digM_len]) (by rw [digM_len]; omega)) ?_ | refine goOC_call [.r, .r] (d_impl_far (digM l k) (digM l j) (by rw [digM_len, digM_len]) (by rw [digM_len]; omega)) ?_
                        by_cases hdk : distM l k j ≤ r
                        · have hdk' : farM (digM l k) (digM l j) ≤ r := hdk
                          rw [if_pos hdk] at hsk
                          repeat' (first | simp -implicitDefEqProofs (maxSteps := 1000000) (disch := (first | omega | (simp only [go_sem] <;> omega) | fail)) only [go_sem, ints, bools, mat, hgk] | ((first | apply goIf_b | apply goG_b | apply goTG_b | apply goOG_b) <;> intro h <;> ((try simp only [hnq] at h); (try simp only [h]); (try simp only [hnr] at h)) <;> (try (exfalso; omega))))
                          refine hJ4 (k + 1) (by omega) (by omega) _ ?_
                          simp -implicitDefEqProofs (maxSteps := 1000000) (disch := (first | omega | (simp only [go_sem] <;> omega) | fail)) only [go_sem, ints, bools, mat, hgk]
                          rw [mxG_set (q := fun w => decide (w < ((k + 1 : Nat) : Int))) hkl hsk.symm fun i _ => by by_cases h1 : i < k <;> by_cases h2 : i = k <;> simp [h1, h2] <;> omega]
                          all_goals rfl
                        · have hdk' : ¬ farM (digM l k) (digM l j) ≤ r := hdk
                          rw [if_neg hdk] at hsk
                          repeat' (first | simp -implicitDefEqProofs (maxSteps := 1000000) (disch := (first | omega | (simp only [go_sem] <;> omega) | fail)) only [go_sem, ints, bools, mat] | ((first | apply goIf_b | apply goG_b | apply goTG_b | apply goOG_b) <;> intro h <;> ((try simp only [hnq] at h); (try simp only [h]); (try simp only [hnr] at h)) <;> (try (exfalso; omega))))
                          refine hJ4 (k + 1) (by omega) (by omega) _ ?_
                          have ee : mxG l (gnC l r ((gcB l r cv (bsx (gnL l r cv) (prodM l).toNat) j).set j true)) (gnC l r (gcB l r cv (bsx (gnL l r cv) (prodM l).toNat) j)) (fun w => decide (w < (k : Nat))) = mxG l (gnC l r ((gcB l r cv (bsx (gnL l r cv) (prodM l).toNat) j).set j true)) (gnC l r (gcB l r cv (bsx (gnL l r cv) (prodM l).toNat) j)) (fun w => decide (w < (k + 1 : Nat))) := mxG_ext fun i _ => by
                            by_cases h1 : i < k
                            · rw [if_pos (decide_eq_true (by omega)), if_pos (decide_eq_true (by omega))]
                            · by_cases h2 : i = k
                              · subst h2; rw [if_neg (by simp), if_pos (decide_eq_true (by omega)), hsk]; omega
                              · rw [if_neg (by simp; omega), if_neg (by simp; omega)]
                          simp -implicitDefEqProofs (maxSteps := 1000000) (disch := (first | omega | (simp only [go_sem] <;> omega) | fail)) only [go_sem, ints, bools, mat, ee]
                          all_goals rfl
                      · have hke : k = (prodM l).toNat := by omega
                        subst hke
                        repeat' (first | simp -implicitDefEqProofs (maxSteps := 1000000) (disch := (first | omega | (simp only [go_sem] <;> omega) | fail)) only [go_sem, ints, bools, mat] | ((first | apply goIf_b | apply goG_b | apply goTG_b | apply goOG_b) <;> intro h <;> ((try simp only [hnq] at h); (try simp only [h]); (try simp only [hnr] at h)) <;> (try (exfalso; omega))))
                        refine hJ3 (j + 1) (by omega) (by omega) _ ?_
                        rw [gn_full r _ _ fun i hi => .inl (decide_eq_true (by omega))]
                        simp -implicitDefEqProofs (maxSteps := 1000000) (disch := (first | omega | (simp only [go_sem] <;> omega) | fail)) only [go_sem, ints, bools, mat, e]
                        all_goals rfl
                  · have hd' : ¬ farM (digM l (bsx (gnL l r cv) (prodM l).toNat : Nat)) (digM l j) ≤ r := hd
                    have e := gcB_no cv hjl hd
                    repeat' (first | simp -implicitDefEqProofs (maxSteps := 1000000) (disch := (first | omega | (simp only [go_sem] <;> omega) | fail)) only [go_sem, ints, bools, mat] | ((first | apply goIf_b | apply goG_b | apply goTG_b | apply goOG_b) <;> intro h <;> ((try simp only [hnq] at h); (try simp only [h]); (try simp only [hnr] at h)) <;> (try (exfalso; omega))))
                    refine hJ3 (j + 1) (by omega) (by omega) _ ?_
                    simp -implicitDefEqProofs (maxSteps := 1000000) (disch := (first | omega | (simp only [go_sem] <;> omega) | fail)) only [go_sem, ints, bools, mat, e]
                    all_goals rfl
              · have hje : j = (prodM l).toNat := by omega
                subst hje
                repeat' (first | simp -implicitDefEqProofs (maxSteps := 1000000) (disch := (first | omega | (simp only [go_sem] <;> omega) | fail)) only [go_sem, ints, bools, mat] | ((first | apply goIf_b | apply goG_b | apply goTG_b | apply goOG_b) <;> intro h <;> ((try simp only [hnq] at h); (try simp only [h]); (try simp only [hnr] at h)) <;> (try (exfalso; omega))))
                refine hJ (gcL cv (ballM l (bsx (gnL l r cv) (prodM l).toNat : Nat) r), K ++ [((bsx (gnL l r cv) (prodM l).toNat : Nat) : Int)]) ⟨gn, ?_⟩ ?_ _ ?_
                · rw [← gX]; congr 1; simp
                · dsimp only; simp; omega
                · simp -implicitDefEqProofs (maxSteps := 1000000) (disch := (first | omega | (simp only [go_sem] <;> omega) | fail)) only [go_sem, ints, bools, mat, gcB_all]
                  all_goals rfl
  · rw [lstR_no h]
    generalize rcM l r = b at h
    repeat' (first | simp -implicitDefEqProofs (maxSteps := 1000000) (disch := (first | omega | (simp only [go_sem] <;> omega) | fail)) only [go_sem, ints, bools, mat] | ((first | apply goIf_b | apply goG_b | apply goTG_b | apply goOG_b) <;> intro h <;> ((try simp only [hnq] at h); (try simp only [h]); (try simp only [hnr] at h)) <;> (try (exfalso; omega))))
def nB (cv : List Bool) : List Bool := cv.map Bool.not
@[go_sem] theorem nB_len (cv : List Bool) : (nB cv).length = cv.length := by simp [nB]
def gcK (l : List Int) (r : Int) (cv : List Bool) (b k : Nat) : List Bool := gcL cv ((ballM l b r).take k)
@[go_sem] theorem gcK_len (l : List Int) (r : Int) (cv : List Bool) (b k : Nat) : (gcK l r cv b k).length = cv.length := gcL_len _ _
theorem tm_sum {l c : List Int} {r : Int} (hs : isSpaceM l = true) (hr : 0 ≤ r) : sgS (fun i => (timesM l c r).getD i 0) (prodM l).toNat = c.length * bzM l r := by
  rw [← cnt_sum hs c hr c.length]
  exact sgS_congr fun i hi => timesN_get c r c.length hi
theorem cov_bound {l c : List Int} {r : Int} (hs : isSpaceM l = true) (hr : 0 ≤ r) (hcv : cvB l c r = true) : bbM l r ≤ c.length := by
  have hbz := bz_pos hs hr
  have hp1 := prodM_pos (isSpaceM_szs hs)
  have h1 := sgS_ge (f := fun i => (timesM l c r).getD i 0) (n := (prodM l).toNat) fun i hi => by
    have h0 := tm_bnd (c := c) (r := r) hi
    have hn : (timesM l c r).getD i 0 ≠ 0 := fun e => by
      have hm : 0 ∈ timesM l c r := by rw [← e]; exact getD_mem (by rw [timesN_len]; exact hi)
      have : decide (0 ∈ timesM l c r) = true := decide_eq_true hm
      simp only [cvB, this] at hcv
      cases hcv
    omega
  rw [tm_sum hs hr] at h1
  unfold bbM
  have : (prodM l + bzM l r - 1) / bzM l r < (c.length : Int) + 1 := by
    rw [Int.ediv_lt_iff_lt_mul (by omega), Int.add_mul]
    omega
  omega
def plB (l c : List Int) : Bool := (c.all fun k => decide (0 ≤ k) && decide (k < l.length)) && (List.range (c.length - 1)).all fun j => decide (c.getD j 0 < c.getD (j + 1) 0)
theorem plB_ok (l c : List Int) : plB l c = true ↔ (∀ j, j < c.length → 0 ≤ c.getD j 0 ∧ c.getD j 0 < l.length) ∧ ∀ j, j + 1 < c.length → c.getD j 0 < c.getD (j + 1) 0 := by
  have e : (c.all fun k => decide (0 ≤ k) && decide (k < l.length)) = true ↔ ∀ j, j < c.length → 0 ≤ c.getD j 0 ∧ c.getD j 0 < l.length := by
    rw [List.all_eq_true]
    constructor
    · intro h j hj
      have := h _ (getD_mem hj)
      rw [Bool.and_eq_true, decide_eq_true_eq, decide_eq_true_eq] at this
      exact this
    · intro h x hx
      obtain ⟨j, hj, rfl⟩ := List.mem_iff_getElem.1 hx
      have := h j hj
      rw [Bool.and_eq_true, decide_eq_true_eq, decide_eq_true_eq]
      simpa [hj] using this
  rw [plB, Bool.and_eq_true, e, List.all_eq_true]
  simp only [List.mem_range, decide_eq_true_eq]
  constructor
  · rintro ⟨h1, h2⟩; exact ⟨h1, fun j hj => h2 j (by omega)⟩
  · rintro ⟨h1, h2⟩; exact ⟨h1, fun j hj => h2 j (by omega)⟩
def frP (c a : List Int) : Bool := !(c.any fun k => a.getD k.toNat 0 != 0)
abbrev frE (l c : List Int) : Int := if isSpaceM l then (if plB l c then 0 else 2) else 1
abbrev frM (l c : List Int) : List Int := thoseM l (frP c)
theorem d_impl_FreeCode_1_1 (a : List Int) (k : Int) (h8 : a.length ≤ 8) (hk : 0 ≤ k ∧ k < a.length) : Den PA f_impl_FreeCode_1_1 [.d (di k), .box ((pad8 a).map dy)] [.any, .any] (.d (db (a.getD k.toNat 0 != 0))) := by
  have ea := pad8_len a
  have hg := pad8_get h8 k.toNat
  refine den_go [] l_impl_FreeCode_1_1 ?_
  repeat' (first | simp -implicitDefEqProofs (maxSteps := 1000000) (disch := (first | omega | (simp only [go_sem] <;> omega) | fail)) only [go_sem, ints, bools, mat, c_impl_FreeCode_1_1, hg] | ((first | apply goIf_b | apply goG_b | apply goTG_b | apply goOG_b) <;> intro h <;> ((try simp only [hnq] at h); (try simp only [h]); (try simp only [hnr] at h)) <;> (try (exfalso; omega))))
theorem d_impl_FreeCode_1 (l a c : List Int) (h8 : a.length = l.length) (hn : 1 ≤ l.length ∧ l.length ≤ 8) (hc : ∀ j, j < c.length → 0 ≤ c.getD j 0 ∧ c.getD j 0 < l.length) (hcl : c.length < 1048577) : Den PA f_impl_FreeCode_1 [.d (dig a), .box [ints c]] [.any, .any] (.d (db (frP c a))) := by
  have ea := pad8_len a
  refine den_go [] l_impl_FreeCode_1 ?_
  repeat' (first | simp -implicitDefEqProofs (maxSteps := 1000000) (disch := (first | omega | (simp only [go_sem] <;> omega) | fail)) only [go_sem, ints, bools, mat, c_impl_FreeCode_1] | ((first | apply goIf_b | apply goG_b | apply goTG_b | apply goOG_b) <;> intro h <;> ((try simp only [hnq] at h); (try simp only [h]); (try simp only [hnr] at h)) <;> (try (exfalso; omega))))
  first | refine goC_call [.r, .g (fnI (fun u => 0 ≤ u ∧ u < l.length) fun k => a.getD k.toNat 0 != 0)] (d_slices_ContainsFunc_in c (fun k => a.getD k.toNat 0 != 0) (fnI (fun u => 0 ≤ u ∧ u < l.length) fun k => a.getD k.toNat 0 != 0) (fun i hi => ⟨_, hc i hi, rfl, rfl⟩) (by omega)) ?_ | refine goOC_call [.r, .g (fnI (fun u => 0 ≤ u ∧ u < l.length) fun k => a.getD k.toNat 0 != 0)] (d_slices_ContainsFunc_in c (fun k => a.getD k.toNat 0 != 0) (fnI (fun u => 0 ≤ u ∧ u < l.length) fun k => a.getD k.toNat 0 != 0) (fun i hi => ⟨_, hc i hi, rfl, rfl⟩) (by omega)) ?_
  repeat' (first | simp -implicitDefEqProofs (maxSteps := 1000000) (disch := (first | omega | (simp only [go_sem] <;> omega) | fail)) only [go_sem, ints, bools, mat] | ((first | apply goIf_b | apply goG_b | apply goTG_b | apply goOG_b) <;> intro h <;> ((try simp only [hnq] at h); (try simp only [h]); (try simp only [hnr] at h)) <;> (try (exfalso; omega))))
  refine chk_intro (fnOK_mk (d_impl_FreeCode_1_1 a 0 (by omega) (by omega)).1 [(pad8 a).map dy] (by simp -implicitDefEqProofs (maxSteps := 1000000) (disch := (first | omega | (simp only [go_sem] <;> omega) | fail)) only [go_sem, ints, bools, mat]) fun ds r hgg => ?_) ?_
  · obtain ⟨u, hu, rfl, rfl⟩ := hgg
    exact ⟨_, d_impl_FreeCode_1_1 a u (by omega) (by omega)⟩
  repeat' (first | simp -implicitDefEqProofs (maxSteps := 1000000) (disch := (first | omega | (simp only [go_sem] <;> omega) | fail)) only [go_sem, ints, bools, mat, frP] | ((first | apply goIf_b | apply goG_b | apply goTG_b | apply goOG_b) <;> intro h <;> ((try simp only [hnq] at h); (try simp only [h]); (try simp only [hnr] at h)) <;> (try (exfalso; omega))))
theorem d_impl_FreeCode (l c : List Int) (hl : l.length < 1048577) (hc : c.length < 1048577) : Den PA f_impl_FreeCode [.d (.agg [ints l]), .d (ints c)] [.any, .any] (lstR (frE l c) (frM l c)) := by
  have hok := plB_ok l c
  refine den_go [] l_impl_FreeCode ?_
  repeat' (first | simp -implicitDefEqProofs (maxSteps := 1000000) (disch := (first | omega | (simp only [go_sem] <;> omega) | fail)) only [go_sem, ints, bools, mat, c_impl_FreeCode] | ((first | apply goIf_b | apply goG_b | apply goTG_b | apply goOG_b) <;> intro h <;> ((try simp only [hnq] at h); (try simp only [h]); (try simp only [hnr] at h)) <;> (try (exfalso; omega))))
  first | refine goC_call [.r] (d_impl_IsSpace l hl) ?_ | refine goOC_call [.r] (d_impl_IsSpace l hl) ?_
  by_cases hs : isSpaceM l = true
  · have hn := isSpaceM_n hs
    rw [hs]
    repeat' (first | simp -implicitDefEqProofs (maxSteps := 1000000) (disch := (first | omega | (simp only [go_sem] <;> omega) | fail)) only [go_sem, ints, bools, mat] | ((first | apply goIf_b | apply goG_b | apply goTG_b | apply goOG_b) <;> intro h <;> ((try simp only [hnq] at h); (try simp only [h]); (try simp only [hnr] at h)) <;> (try (exfalso; omega))))
    refine go_loop (fun (j : Nat) => ⟨[(2, .ref 0 0), (3, .ref 1 0), (11, .d (ints c)), (12, .d (di c.length)), (13, .d (di j))], [some (.var [ints l]), some (.var [ints c])]⟩) (fun j => j ≤ c.length ∧ (∀ i, i < j → 0 ≤ c.getD i 0 ∧ c.getD i 0 < l.length) ∧ ∀ i, i + 1 < j → c.getD i 0 < c.getD (i + 1) 0) (fun j => c.length - j) 0 ?_ ?_ ?_
    · (simp -implicitDefEqProofs (maxSteps := 1000000) (disch := (first | omega | (simp only [go_sem] <;> omega) | fail)) only [go_sem, ints, bools, mat] <;> rfl)
    · exact ⟨Nat.zero_le _, fun i hi => by omega, fun i hi => by omega⟩
    · rintro j ⟨hj, h1, h2⟩ J hJ
      by_cases hjl : j < c.length
      · have hip := d_impl_isPlace l (c.getD j 0) hl
        by_cases hp : 0 ≤ c.getD j 0 ∧ c.getD j 0 < l.length
        · rw [decide_eq_true hp] at hip
          have h1' := all_ext h1 hp
          rcases j with _ | j
          · repeat' (first | simp -implicitDefEqProofs (maxSteps := 1000000) (disch := (first | omega | (simp only [go_sem] <;> omega) | fail)) only [go_sem, ints, bools, mat] | ((first | apply goIf_b | apply goG_b | apply goTG_b | apply goOG_b) <;> intro h <;> ((try simp only [hnq] at h); (try simp only [h]); (try simp only [hnr] at h)) <;> (try (exfalso; omega))))
            first | refine goC_call [.r, .r] (hip) ?_ | refine goOC_call [.r, .r] (hip) ?_
            repeat' (first | simp -implicitDefEqProofs (maxSteps := 1000000) (disch := (first | omega | (simp only [go_sem] <;> omega) | fail)) only [go_sem, ints, bools, mat] | ((first | apply goIf_b | apply goG_b | apply goTG_b | apply goOG_b) <;> intro h <;> ((try simp only [hnq] at h); (try simp only [h]); (try simp only [hnr] at h)) <;> (try (exfalso; omega))))
            refine hJ 1 ⟨by omega, h1', fun i hi => by omega⟩ (by omega) _ (by (simp -implicitDefEqProofs (maxSteps := 1000000) (disch := (first | omega | (simp only [go_sem] <;> omega) | fail)) only [go_sem, ints, bools, mat] <;> rfl))
          · by_cases hlt : c.getD j 0 < c.getD (j + 1) 0
            · repeat' (first | simp -implicitDefEqProofs (maxSteps := 1000000) (disch := (first | omega | (simp only [go_sem] <;> omega) | fail)) only [go_sem, ints, bools, mat] | ((first | apply goIf_b | apply goG_b | apply goTG_b | apply goOG_b) <;> intro h <;> ((try simp only [hnq] at h); (try simp only [h]); (try simp only [hnr] at h)) <;> (try (exfalso; omega))))
              first | refine goC_call [.r, .r] (hip) ?_ | refine goOC_call [.r, .r] (hip) ?_
              repeat' (first | simp -implicitDefEqProofs (maxSteps := 1000000) (disch := (first | omega | (simp only [go_sem] <;> omega) | fail)) only [go_sem, ints, bools, mat] | ((first | apply goIf_b | apply goG_b | apply goTG_b | apply goOG_b) <;> intro h <;> ((try simp only [hnq] at h); (try simp only [h]); (try simp only [hnr] at h)) <;> (try (exfalso; omega))))
              refine hJ (j + 2) ⟨by omega, h1', fun i hi => ?_⟩ (by omega) _ (by (simp -implicitDefEqProofs (maxSteps := 1000000) (disch := (first | omega | (simp only [go_sem] <;> omega) | fail)) only [go_sem, ints, bools, mat] <;> rfl))
              rcases Nat.lt_or_ge (i + 1) (j + 1) with h3 | h3
              · exact h2 i h3
              · have : i = j := by omega
                subst this; exact hlt
            · have e : frE l c = 2 := by unfold frE; rw [if_pos hs, if_neg fun h => hlt ((hok.1 h).2 j (by omega))]
              rw [lstR_no (by rw [e]; decide), e]
              repeat' (first | simp -implicitDefEqProofs (maxSteps := 1000000) (disch := (first | omega | (simp only [go_sem] <;> omega) | fail)) only [go_sem, ints, bools, mat] | ((first | apply goIf_b | apply goG_b | apply goTG_b | apply goOG_b) <;> intro h <;> ((try simp only [hnq] at h); (try simp only [h]); (try simp only [hnr] at h)) <;> (try (exfalso; omega))))
              first | refine goC_call [.r, .r] (hip) ?_ | refine goOC_call [.r, .r] (hip) ?_
              repeat' (first | simp -implicitDefEqProofs (maxSteps := 1000000) (disch := (first | omega | (simp only [go_sem] <;> omega) | fail)) only [go_sem, ints, bools, mat] | ((first | apply goIf_b | apply goG_b | apply goTG_b | apply goOG_b) <;> intro h <;> ((try simp only [hnq] at h); (try simp only [h]); (try simp only [hnr] at h)) <;> (try (exfalso; omega))))
        · rw [decide_eq_false hp] at hip
          have e : frE l c = 2 := by unfold frE; rw [if_pos hs, if_neg fun h => hp ((hok.1 h).1 j hjl)]
          rw [lstR_no (by rw [e]; decide), e]
          repeat' (first | simp -implicitDefEqProofs (maxSteps := 1000000) (disch := (first | omega | (simp only [go_sem] <;> omega) | fail)) only [go_sem, ints, bools, mat] | ((first | apply goIf_b | apply goG_b | apply goTG_b | apply goOG_b) <;> intro h <;> ((try simp only [hnq] at h); (try simp only [h]); (try simp only [hnr] at h)) <;> (try (exfalso; omega))))
          first | refine goC_call [.r, .r] (hip) ?_ | refine goOC_call [.r, .r] (hip) ?_
          repeat' (first | simp -implicitDefEqProofs (maxSteps := 1000000) (disch := (first | omega | (simp only [go_sem] <;> omega) | fail)) only [go_sem, ints, bools, mat] | ((first | apply goIf_b | apply goG_b | apply goTG_b | apply goOG_b) <;> intro h <;> ((try simp only [hnq] at h); (try simp only [h]); (try simp only [hnr] at h)) <;> (try (exfalso; omega))))
      · have hje : j = c.length := by omega
        subst hje
        have e : frE l c = 0 := by unfold frE; rw [if_pos hs, if_pos (hok.2 ⟨h1, h2⟩)]
        rw [lstR_ok e]
        repeat' (first | simp -implicitDefEqProofs (maxSteps := 1000000) (disch := (first | omega | (simp only [go_sem] <;> omega) | fail)) only [go_sem, ints, bools, mat] | ((first | apply goIf_b | apply goG_b | apply goTG_b | apply goOG_b) <;> intro h <;> ((try simp only [hnq] at h); (try simp only [h]); (try simp only [hnr] at h)) <;> (try (exfalso; omega))))
        first | refine goC_call [.r, .g (fnD l.length (frP c))] (d_impl_those l hs (frP c) _ (fnD_mk hs (frP c))) ?_ | refine goOC_call [.r, .g (fnD l.length (frP c))] (d_impl_those l hs (frP c) _ (fnD_mk hs (frP c))) ?_
        repeat' (first | simp -implicitDefEqProofs (maxSteps := 1000000) (disch := (first | omega | (simp only [go_sem] <;> omega) | fail)) only [go_sem, ints, bools, mat] | ((first | apply goIf_b | apply goG_b | apply goTG_b | apply goOG_b) <;> intro h <;> ((try simp only [hnq] at h); (try simp only [h]); (try simp only [hnr] at h)) <;> (try (exfalso; omega))))
        refine chk_intro (fnOK_mk (d_impl_FreeCode_1 l (digM l 0) c (digM_len l 0) hn h1 hc).1 [[ints c]] (by simp -implicitDefEqProofs (maxSteps := 1000000) (disch := (first | omega | (simp only [go_sem] <;> omega) | fail)) only [go_sem, ints, bools, mat]) fun ds r hgg => ?_) ?_
        · obtain ⟨a, ha, ha4, rfl, rfl⟩ := hgg
          exact ⟨_, d_impl_FreeCode_1 l a c ha hn h1 hc⟩
        repeat' (first | simp -implicitDefEqProofs (maxSteps := 1000000) (disch := (first | omega | (simp only [go_sem] <;> omega) | fail)) only [go_sem, ints, bools, mat] | ((first | apply goIf_b | apply goG_b | apply goTG_b | apply goOG_b) <;> intro h <;> ((try simp only [hnq] at h); (try simp only [h]); (try simp only [hnr] at h)) <;> (try (exfalso; omega))))
  · have e : frE l c = 1 := by unfold frE; rw [if_neg hs]
    rw [lstR_no (by rw [e]; decide), e, Bool.eq_false_iff.2 hs]
    repeat' (first | simp -implicitDefEqProofs (maxSteps := 1000000) (disch := (first | omega | (simp only [go_sem] <;> omega) | fail)) only [go_sem, ints, bools, mat] | ((first | apply goIf_b | apply goG_b | apply goTG_b | apply goOG_b) <;> intro h <;> ((try simp only [hnq] at h); (try simp only [h]); (try simp only [hnr] at h)) <;> (try (exfalso; omega))))
def frN (c a : List Int) (j : Nat) : Bool := (List.range j).all fun i => a.getD (c.getD i 0).toNat 0 == 0
theorem frN_step (c a : List Int) (j : Nat) : frN c a (j + 1) = (frN c a j && (a.getD (c.getD j 0).toNat 0 == 0)) := by
  rw [frN, frN, List.range_succ, List.all_append]; simp [-List.getD_eq_getElem?_getD]
theorem frN_end (c a : List Int) : frN c a c.length = frP c a := by
  rw [Bool.eq_iff_iff, frN, frP, List.all_eq_true, Bool.not_eq_true', List.any_eq_false]
  constructor
  · intro h x hx
    obtain ⟨i, hi, rfl⟩ := List.mem_iff_getElem.1 hx
    have := h i (List.mem_range.2 hi)
    have e : c.getD i 0 = c[i] := by simp [hi]
    rw [e] at this
    simpa [-List.getD_eq_getElem?_getD] using this
  · intro h i hi
    have := h _ (getD_mem (List.mem_range.1 hi))
    simpa [-List.getD_eq_getElem?_getD] using this
theorem d_spec_FreeCode (l c : List Int) (hl : l.length < 1048577) (hc : c.length < 1048577) : Den PA f_spec_FreeCode [.d (.agg [ints l]), .d (ints c)] [.any, .any] (lstR (frE l c) (frM l c)) := by
  have hok := plB_ok l c
  refine den_go [] l_spec_FreeCode ?_
  repeat' (first | simp -implicitDefEqProofs (maxSteps := 1000000) (disch := (first | omega | (simp only [go_sem] <;> omega) | fail)) only [go_sem, ints, bools, mat, c_spec_FreeCode] | ((first | apply goIf_b | apply goG_b | apply goTG_b | apply goOG_b) <;> intro h <;> ((try simp only [hnq] at h); (try simp only [h]); (try simp only [hnr] at h)) <;> (try (exfalso; omega))))
  first | refine goC_call [.r] (d_spec_l01Is l hl) ?_ | refine goOC_call [.r] (d_spec_l01Is l hl) ?_
  by_cases hs : isSpaceM l = true
  · have hn := isSpaceM_n hs
    have hp1 := prodM_pos (isSpaceM_szs hs)
    have hpr := isSpaceM_prod hs
    rw [hs]
    repeat' (first | simp -implicitDefEqProofs (maxSteps := 1000000) (disch := (first | omega | (simp only [go_sem] <;> omega) | fail)) only [go_sem, ints, bools, mat] | ((first | apply goIf_b | apply goG_b | apply goTG_b | apply goOG_b) <;> intro h <;> ((try simp only [hnq] at h); (try simp only [h]); (try simp only [hnr] at h)) <;> (try (exfalso; omega))))
    refine go_loop (fun (j : Nat) => ⟨[(1, .d (ints c)), (2, .ref 0 0), (6, .d (di j))], [some (.var [ints l])]⟩) (fun j => j ≤ c.length ∧ (∀ i, i < j → 0 ≤ c.getD i 0 ∧ c.getD i 0 < l.length) ∧ ∀ i, i + 1 < j → c.getD i 0 < c.getD (i + 1) 0) (fun j => c.length - j) 0 ?_ ?_ ?_
    · (simp -implicitDefEqProofs (maxSteps := 1000000) (disch := (first | omega | (simp only [go_sem] <;> omega) | fail)) only [go_sem, ints, bools, mat] <;> rfl)
    · exact ⟨Nat.zero_le _, fun i hi => by omega, fun i hi => by omega⟩
    · rintro j ⟨hj, h1, h2⟩ J hJ
      by_cases hjl : j < c.length
      · have hip := d_spec_l01In (c.getD j 0) 0 (l.length - 1)
        by_cases hp : 0 ≤ c.getD j 0 ∧ c.getD j 0 < l.length
        · have h1' := all_ext h1 hp
          rcases j with _ | j
          · repeat' (first | simp -implicitDefEqProofs (maxSteps := 1000000) (disch := (first | omega | (simp only [go_sem] <;> omega) | fail)) only [go_sem, ints, bools, mat] | ((first | apply goIf_b | apply goG_b | apply goTG_b | apply goOG_b) <;> intro h <;> ((try simp only [hnq] at h); (try simp only [h]); (try simp only [hnr] at h)) <;> (try (exfalso; omega))))
            first | refine goC_call [.r, .r, .r] (hip) ?_ | refine goOC_call [.r, .r, .r] (hip) ?_
            repeat' (first | simp -implicitDefEqProofs (maxSteps := 1000000) (disch := (first | omega | (simp only [go_sem] <;> omega) | fail)) only [go_sem, ints, bools, mat] | ((first | apply goIf_b | apply goG_b | apply goTG_b | apply goOG_b) <;> intro h <;> ((try simp only [hnq] at h); (try simp only [h]); (try simp only [hnr] at h)) <;> (try (exfalso; omega))))
            refine hJ 1 ⟨by omega, h1', fun i hi => by omega⟩ (by omega) _ (by (simp -implicitDefEqProofs (maxSteps := 1000000) (disch := (first | omega | (simp only [go_sem] <;> omega) | fail)) only [go_sem, ints, bools, mat] <;> rfl))
          · by_cases hlt : c.getD j 0 < c.getD (j + 1) 0
            · repeat' (first | simp -implicitDefEqProofs (maxSteps := 1000000) (disch := (first | omega | (simp only [go_sem] <;> omega) | fail)) only [go_sem, ints, bools, mat] | ((first | apply goIf_b | apply goG_b | apply goTG_b | apply goOG_b) <;> intro h <;> ((try simp only [hnq] at h); (try simp only [h]); (try simp only [hnr] at h)) <;> (try (exfalso; omega))))
              first | refine goC_call [.r, .r, .r] (hip) ?_ | refine goOC_call [.r, .r, .r] (hip) ?_
              repeat' (first | simp -implicitDefEqProofs (maxSteps := 1000000) (disch := (first | omega | (simp only [go_sem] <;> omega) | fail)) only [go_sem, ints, bools, mat] | ((first | apply goIf_b | apply goG_b | apply goTG_b | apply goOG_b) <;> intro h <;> ((try simp only [hnq] at h); (try simp only [h]); (try simp only [hnr] at h)) <;> (try (exfalso; omega))))
              refine hJ (j + 2) ⟨by omega, h1', fun i hi => ?_⟩ (by omega) _ (by (simp -implicitDefEqProofs (maxSteps := 1000000) (disch := (first | omega | (simp only [go_sem] <;> omega) | fail)) only [go_sem, ints, bools, mat] <;> rfl))
              rcases Nat.lt_or_ge (i + 1) (j + 1) with h3 | h3
              · exact h2 i h3
              · have : i = j := by omega
                subst this; exact hlt
            · have e : frE l c = 2 := by unfold frE; rw [if_pos hs, if_neg fun h => hlt ((hok.1 h).2 j (by omega))]
              rw [lstR_no (by rw [e]; decide), e]
              repeat' (first | simp -implicitDefEqProofs (maxSteps := 1000000) (disch := (first | omega | (simp only [go_sem] <;> omega) | fail)) only [go_sem, ints, bools, mat] | ((first | apply goIf_b | apply goG_b | apply goTG_b | apply goOG_b) <;> intro h <;> ((try simp only [hnq] at h); (try simp only [h]); (try simp only [hnr] at h)) <;> (try (exfalso; omega))))
              first | refine goC_call [.r, .r, .r] (hip) ?_ | refine goOC_call [.r, .r, .r] (hip) ?_
              repeat' (first | simp -implicitDefEqProofs (maxSteps := 1000000) (disch := (first | omega | (simp only [go_sem] <;> omega) | fail)) only [go_sem, ints, bools, mat] | ((first | apply goIf_b | apply goG_b | apply goTG_b | apply goOG_b) <;> intro h <;> ((try simp only [hnq] at h); (try simp only [h]); (try simp only [hnr] at h)) <;> (try (exfalso; omega))))
        · have e : frE l c = 2 := by unfold frE; rw [if_pos hs, if_neg fun h => hp ((hok.1 h).1 j hjl)]
          rw [lstR_no (by rw [e]; decide), e]
          repeat' (first | simp -implicitDefEqProofs (maxSteps := 1000000) (disch := (first | omega | (simp only [go_sem] <;> omega) | fail)) only [go_sem, ints, bools, mat] | ((first | apply goIf_b | apply goG_b | apply goTG_b | apply goOG_b) <;> intro h <;> ((try simp only [hnq] at h); (try simp only [h]); (try simp only [hnr] at h)) <;> (try (exfalso; omega))))
          first | refine goC_call [.r, .r, .r] (hip) ?_ | refine goOC_call [.r, .r, .r] (hip) ?_
          repeat' (first | simp -implicitDefEqProofs (maxSteps := 1000000) (disch := (first | omega | (simp only [go_sem] <;> omega) | fail)) only [go_sem, ints, bools, mat] | ((first | apply goIf_b | apply goG_b | apply goTG_b | apply goOG_b) <;> intro h <;> ((try simp only [hnq] at h); (try simp only [h]); (try simp only [hnr] at h)) <;> (try (exfalso; omega))))
      · have hje : j = c.length := by omega
        subst hje
        have e : frE l c = 0 := by unfold frE; rw [if_pos hs, if_pos (hok.2 ⟨h1, h2⟩)]
        rw [lstR_ok e]
        repeat' (first | simp -implicitDefEqProofs (maxSteps := 1000000) (disch := (first | omega | (simp only [go_sem] <;> omega) | fail)) only [go_sem, ints, bools, mat] | ((first | apply goIf_b | apply goG_b | apply goTG_b | apply goOG_b) <;> intro h <;> ((try simp only [hnq] at h); (try simp only [h]); (try simp only [hnr] at h)) <;> (try (exfalso; omega))))
        refine go_loop (fun (w : Nat) => ⟨[(1, .d (ints c)), (2, .ref 0 0), (7, .sl 1 0 (((allW l).take w).filter fun u => frP c (digM l u)).length 1), (8, .d (di w))], [some (.var [ints l]), some (.dat 1 ((((allW l).take w).filter fun u => frP c (digM l u)).map di))]⟩) (fun w => w ≤ (prodM l).toNat) (fun w => (prodM l).toNat - w) 0 ?_ ?_ ?_
        · (simp -implicitDefEqProofs (maxSteps := 1000000) (disch := (first | omega | (simp only [go_sem] <;> omega) | fail)) only [go_sem, ints, bools, mat] <;> rfl)
        · exact Nat.zero_le _
        · rintro w hw J2 hJ2
          have hfl := filter_len_le (fun u => frP c (digM l u)) ((allW l).take w) w (by simp; omega)
          by_cases hwl : w < (prodM l).toNat
          · have htk : ((allW l).take (w + 1)).filter (fun u => frP c (digM l u)) = ((allW l).take w).filter (fun u => frP c (digM l u)) ++ (if frP c (digM l w) = true then [(w : Int)] else []) := by
              rw [take_allW l hwl, List.filter_append]
              by_cases h : frP c (digM l w) = true
              · rw [if_pos h]; simp [h]
              · rw [if_neg h]; simp [h]
            have hdl := digM_len l w
            repeat' (first | simp -implicitDefEqProofs (maxSteps := 1000000) (disch := (first | omega | (simp only [go_sem] <;> omega) | fail)) only [go_sem, ints, bools, mat] | ((first | apply goIf_b | apply goG_b | apply goTG_b | apply goOG_b) <;> intro h <;> ((try simp only [hnq] at h); (try simp only [h]); (try simp only [hnr] at h)) <;> (try (exfalso; omega))))
            first | refine goC_call [.r] (d_spec_l01N l (by omega) (isSpaceM_q hs)) ?_ | refine goOC_call [.r] (d_spec_l01N l (by omega) (isSpaceM_q hs)) ?_
            repeat' (first | simp -implicitDefEqProofs (maxSteps := 1000000) (disch := (first | omega | (simp only [go_sem] <;> omega) | fail)) only [go_sem, ints, bools, mat] | ((first | apply goIf_b | apply goG_b | apply goTG_b | apply goOG_b) <;> intro h <;> ((try simp only [hnq] at h); (try simp only [h]); (try simp only [hnr] at h)) <;> (try (exfalso; omega))))
            first | refine goC_call [.r, .r] (d_spec_l01Digits l hs w (by omega) (by omega)) ?_ | refine goOC_call [.r, .r] (d_spec_l01Digits l hs w (by omega) (by omega)) ?_
            repeat' (first | simp -implicitDefEqProofs (maxSteps := 1000000) (disch := (first | omega | (simp only [go_sem] <;> omega) | fail)) only [go_sem, ints, bools, mat] | ((first | apply goIf_b | apply goG_b | apply goTG_b | apply goOG_b) <;> intro h <;> ((try simp only [hnq] at h); (try simp only [h]); (try simp only [hnr] at h)) <;> (try (exfalso; omega))))
            refine go_loop (fun (j : Nat) => ⟨[(1, .d (ints c)), (2, .ref 0 0), (7, .sl 1 0 (((allW l).take w).filter fun u => frP c (digM l u)).length 1), (8, .d (di w)), (9, .sl 2 0 (digM l w).length 1), (10, .d (db (frN c (digM l w) j))), (11, .d (di j))], [some (.var [ints l]), some (.dat 1 ((((allW l).take w).filter fun u => frP c (digM l u)).map di)), some (.dat 1 ((digM l w).map di))]⟩) (fun j => j ≤ c.length) (fun j => c.length - j) 0 ?_ ?_ ?_
            · simp -implicitDefEqProofs (maxSteps := 1000000) (disch := (first | omega | (simp only [go_sem] <;> omega) | fail)) only [go_sem, ints, bools, mat]
              all_goals rfl
            · exact Nat.zero_le _
            · rintro j hj J3 hJ3
              by_cases hjl : j < c.length
              · have hcj := h1 j hjl
                have hst := frN_step c (digM l w) j
                cases hf : frN c (digM l w) j with
                | true =>
                  rw [hf, Bool.true_and] at hst
                  repeat' (first | simp -implicitDefEqProofs (maxSteps := 1000000) (disch := (first | omega | (simp only [go_sem] <;> omega) | fail)) only [go_sem, ints, bools, mat, hf] | ((first | apply goIf_b | apply goG_b | apply goTG_b | apply goOG_b) <;> intro h <;> ((try simp only [hnq] at h); (try simp only [h]); (try simp only [hnr] at h)) <;> (try (exfalso; omega))))
                  refine hJ3 (j + 1) (by omega) (by omega) _ ?_
                  simp -implicitDefEqProofs (maxSteps := 1000000) (disch := (first | omega | (simp only [go_sem] <;> omega) | fail)) only [go_sem, ints, bools, mat, hst]
                  all_goals rfl
                | false =>
                  rw [hf, Bool.false_and] at hst
                  repeat' (first | simp -implicitDefEqProofs (maxSteps := 1000000) (disch := (first | omega | (simp only [go_sem] <;> omega) | fail)) only [go_sem, ints, bools, mat, hf] | ((first | apply goIf_b | apply goG_b | apply goTG_b | apply goOG_b) <;> intro h <;> ((try simp only [hnq] at h); (try simp only [h]); (try simp only [hnr] at h)) <;> (try (exfalso; omega))))
                  refine hJ3 (j + 1) (by omega) (by omega) _ ?_
                  simp -implicitDefEqProofs (maxSteps := 1000000) (disch := (first | omega | (simp only [go_sem] <;> omega) | fail)) only [go_sem, ints, bools, mat, hst]
                  all_goals rfl
              · have hje : j = c.length := by omega
                subst hje
                rw [frN_end]
                cases hf : frP c (digM l w) with
                | true =>
                  rw [if_pos hf] at htk
                  repeat' (first | simp -implicitDefEqProofs (maxSteps := 1000000) (disch := (first | omega | (simp only [go_sem] <;> omega) | fail)) only [go_sem, ints, bools, mat] | ((first | apply goIf_b | apply goG_b | apply goTG_b | apply goOG_b) <;> intro h <;> ((try simp only [hnq] at h); (try simp only [h]); (try simp only [hnr] at h)) <;> (try (exfalso; omega))))
                  refine hJ2 (w + 1) (by omega) (by omega) _ ?_
                  simp -implicitDefEqProofs (maxSteps := 1000000) (disch := (first | omega | (simp only [go_sem] <;> omega) | fail)) only [go_sem, ints, bools, mat, htk]
                  all_goals rfl
                | false =>
                  rw [if_neg (by rw [hf]; decide), List.append_nil] at htk
                  repeat' (first | simp -implicitDefEqProofs (maxSteps := 1000000) (disch := (first | omega | (simp only [go_sem] <;> omega) | fail)) only [go_sem, ints, bools, mat] | ((first | apply goIf_b | apply goG_b | apply goTG_b | apply goOG_b) <;> intro h <;> ((try simp only [hnq] at h); (try simp only [h]); (try simp only [hnr] at h)) <;> (try (exfalso; omega))))
                  refine hJ2 (w + 1) (by omega) (by omega) _ ?_
                  simp -implicitDefEqProofs (maxSteps := 1000000) (disch := (first | omega | (simp only [go_sem] <;> omega) | fail)) only [go_sem, ints, bools, mat, htk]
                  all_goals rfl
          · have hwe : w = (prodM l).toNat := by omega
            subst hwe
            have et : (allW l).take (prodM l).toNat = allW l := by rw [← allW_len l, List.take_length]
            rw [et]
            repeat' (first | simp -implicitDefEqProofs (maxSteps := 1000000) (disch := (first | omega | (simp only [go_sem] <;> omega) | fail)) only [go_sem, ints, bools, mat] | ((first | apply goIf_b | apply goG_b | apply goTG_b | apply goOG_b) <;> intro h <;> ((try simp only [hnq] at h); (try simp only [h]); (try simp only [hnr] at h)) <;> (try (exfalso; omega))))
            first | refine goC_call [.r] (d_spec_l01N l (by omega) (isSpaceM_q hs)) ?_ | refine goOC_call [.r] (d_spec_l01N l (by omega) (isSpaceM_q hs)) ?_
            repeat' (first | simp -implicitDefEqProofs (maxSteps := 1000000) (disch := (first | omega | (simp only [go_sem] <;> omega) | fail)) only [go_sem, ints, bools, mat] | ((first | apply goIf_b | apply goG_b | apply goTG_b | apply goOG_b) <;> intro h <;> ((try simp only [hnq] at h); (try simp only [h]); (try simp only [hnr] at h)) <;> (try (exfalso; omega))))
            all_goals rfl
  · have e : frE l c = 1 := by unfold frE; rw [if_neg hs]
    rw [lstR_no (by rw [e]; decide), e, Bool.eq_false_iff.2 hs]
    repeat' (first | simp -implicitDefEqProofs (maxSteps := 1000000) (disch := (first | omega | (simp only [go_sem] <;> omega) | fail)) only [go_sem, ints, bools, mat] | ((first | apply goIf_b | apply goG_b | apply goTG_b | apply goOG_b) <;> intro h <;> ((try simp only [hnq] at h); (try simp only [h]); (try simp only [hnr] at h)) <;> (try (exfalso; omega))))
def mkB : List Bool → List Int → Bool
  | true :: m, a :: r => a == 0 && mkB m r
  | false :: m, _ :: r => mkB m r
  | _, _ => true
def mkZ : List Bool → List Int → List Int
  | true :: m, _ :: r => 0 :: mkZ m r
  | false :: m, a :: r => a :: mkZ m r
  | _, r => r
def mkP : List Bool → List Int → Int
  | true :: m, _ :: r => mkP m r
  | false :: m, a :: r => a * mkP m r
  | _, _ => 1
def mkN : List Bool → Int
  | [] => 0
  | true :: m => 1 + mkN m
  | false :: m => mkN m
theorem sum_c (c : Nat) : ∀ n, ((List.range n).map fun _ => c).sum = n * c
  | 0 => by simp
  | n + 1 => by rw [List.range_succ, List.map_append, List.sum_append, sum_c c n]; simp [Nat.add_mul]
theorem sum_z (c : Nat) : ∀ n, ((List.range (n + 1)).map fun d => if d = 0 then c else 0).sum = c
  | 0 => by simp
  | n + 1 => by rw [List.range_succ, List.map_append, List.sum_append, sum_z c n]; simp
theorem mk_cnt : ∀ {l : List Int} {m : List Bool}, szs l → m.length = l.length → (((vecs l).filter (mkB m)).length : Int) = mkP m l
  | [], [], _, _ => by simp [vecs, mkB, mkP]
  | [], _ :: _, _, h => by simp at h
  | _ :: _, [], _, h => by simp at h
  | q :: r, b :: m, hz, h => by
    have hq := hz 0 (by simp)
    simp only [List.getD_cons_zero] at hq
    have ih := mk_cnt (l := r) (m := m) (szs_tail hz) (by simpa using h)
    rw [vecs, List.filter_flatMap, List.length_flatMap]
    cases b with
    | false =>
      have e : ((List.range q.toNat).map fun (d : Nat) => (((vecs r).map fun v => (d : Int) :: v).filter (mkB (false :: m))).length) = (List.range q.toNat).map fun _ => ((vecs r).filter (mkB m)).length := List.map_congr_left fun d _ => by
        rw [List.filter_map, List.length_map]
        rfl
      have e2 := sum_c ((vecs r).filter (mkB m)).length q.toNat
      rw [← e] at e2
      rw [show mkP (false :: m) (q :: r) = q * mkP m r from rfl, ← ih]
      have e3 := congrArg (fun n : Nat => (n : Int)) e2
      simp only [Int.natCast_mul] at e3
      rw [show ((q.toNat : Nat) : Int) = q by omega] at e3
      exact e3
    | true =>
      obtain ⟨k, hk⟩ : ∃ k, q.toNat = k + 1 := ⟨q.toNat - 1, by omega⟩
      have e : ((List.range q.toNat).map fun (d : Nat) => (((vecs r).map fun v => (d : Int) :: v).filter (mkB (true :: m))).length) = (List.range q.toNat).map fun d => if d = 0 then ((vecs r).filter (mkB m)).length else 0 := List.map_congr_left fun d _ => by
        rw [List.filter_map, List.length_map]
        by_cases hd : d = 0
        · subst hd
          rw [if_pos rfl]
          congr 1
        · rw [if_neg hd, List.filter_eq_nil_iff.2]
          · rfl
          · intro v _
            have h1 : ((d : Int) == 0) = false := beq_eq_false_iff_ne.2 (by omega)
            show ¬ (((d : Int) == 0) && mkB m v) = true
            rw [h1, Bool.false_and]
            exact Bool.false_ne_true
      have e2 := sum_z ((vecs r).filter (mkB m)).length k
      rw [← hk, ← e] at e2
      rw [show mkP (true :: m) (q :: r) = mkP m r from rfl, ← ih]
      exact congrArg (fun n : Nat => (n : Int)) e2
abbrev mkW (l : List Int) (m : List Bool) : List Int := (allW l).filter fun w => mkB m (digM l w)
theorem mkW_len {l : List Int} {m : List Bool} (hz : szs l) (h : m.length = l.length) : ((mkW l m).length : Int) = mkP m l := by
  rw [← mk_cnt hz h, ← vecs_ok hz, List.filter_map, List.length_map]
  rfl
theorem mkZ_get : ∀ (m : List Bool) (a : List Int), (mkZ m a).length = a.length ∧ ∀ i, (mkZ m a).getD i 0 = 0 ∨ (mkZ m a).getD i 0 = a.getD i 0
  | [], a => ⟨rfl, fun i => .inr rfl⟩
  | true :: m, [] => ⟨rfl, fun i => .inr rfl⟩
  | false :: m, [] => ⟨rfl, fun i => .inr rfl⟩
  | true :: m, a :: r => by
    obtain ⟨h1, h2⟩ := mkZ_get m r
    refine ⟨by simp [mkZ, h1], fun i => ?_⟩
    cases i with
    | zero => exact .inl rfl
    | succ i => simpa [mkZ] using h2 i
  | false :: m, a :: r => by
    obtain ⟨h1, h2⟩ := mkZ_get m r
    refine ⟨by simp [mkZ, h1], fun i => ?_⟩
    cases i with
    | zero => exact .inr rfl
    | succ i => simpa [mkZ] using h2 i
theorem mkB_mkZ : ∀ (m : List Bool) (a : List Int), mkB m (mkZ m a) = true
  | [], a => by simp [mkB]
  | true :: m, [] => by simp [mkB, mkZ]
  | false :: m, [] => by simp [mkB, mkZ]
  | true :: m, a :: r => by simp [mkB, mkZ, mkB_mkZ m r]
  | false :: m, a :: r => by simp [mkB, mkZ, mkB_mkZ m r]
theorem mkN_nn : ∀ m : List Bool, 0 ≤ mkN m ∧ mkN m ≤ m.length
  | [] => by simp [mkN]
  | true :: m => by have := mkN_nn m; simp only [mkN, List.length_cons]; omega
  | false :: m => by have := mkN_nn m; simp only [mkN, List.length_cons]; omega
theorem far_self : ∀ a : List Int, farM a a = 0
  | [] => rfl
  | a :: r => by rw [farM, if_pos rfl, far_self r]; rfl
theorem far_mkZ : ∀ (m : List Bool) (a : List Int), farM (mkZ m a) a ≤ mkN m
  | [], a => by rw [show mkZ [] a = a from rfl, far_self]; exact Int.le_refl _
  | true :: m, [] => by have := mkN_nn (true :: m); simp only [mkZ, farM]; omega
  | false :: m, [] => by have := mkN_nn (false :: m); simp only [mkZ, farM]; omega
  | true :: m, a :: r => by have := far_mkZ m r; simp only [mkZ, farM, mkN]; split <;> omega
  | false :: m, a :: r => by have := far_mkZ m r; simp only [mkZ, farM, mkN, if_true]; omega
theorem far_ones : ∀ {m : List Bool} {a : List Int}, m.length = a.length → mkB m a = true → mkN m ≤ farM a (List.replicate a.length 1)
  | [], [], _, _ => by simp [mkN, farM]
  | [], _ :: _, h, _ => by simp at h
  | _ :: _, [], h, _ => by simp at h
  | true :: m, a :: r, h, hb => by
    simp only [mkB, Bool.and_eq_true, beq_iff_eq] at hb
    have ih := far_ones (m := m) (a := r) (by simpa using h) hb.2
    rw [List.length_cons, List.replicate_succ]
    simp only [farM, mkN]
    rw [if_neg (by omega)]; omega
  | false :: m, a :: r, h, hb => by
    have ih := far_ones (m := m) (a := r) (by simpa using h) (by simpa [mkB] using hb)
    rw [List.length_cons, List.replicate_succ]
    simp only [farM, mkN]
    split <;> omega
theorem mkW_near {l : List Int} {m : List Bool} (hs : isSpaceM l = true) {w : Int} (hw : 0 ≤ w ∧ w < prodM l) : ∃ u, u ∈ mkW l m ∧ distM l u w ≤ mkN m := by
  have hz := isSpaceM_szs hs
  obtain ⟨h1, h2⟩ := mkZ_get m (digM l w)
  rw [digM_len] at h1
  have hd : ∀ i, i < l.length → 0 ≤ (mkZ m (digM l w)).getD i 0 ∧ (mkZ m (digM l w)).getD i 0 < l.getD i 0 := fun i hi => by
    have h3 := dig_lt hz w hi
    have h4 := hz i hi
    rcases h2 i with e | e
    · rw [e]; omega
    · rw [e]; exact h3
  have he := digM_word hz h1 hd
  have hb := wordN_bnd hz hd l.length (Nat.le_refl _)
  refine ⟨wordN l (mkZ m (digM l w)) l.length, List.mem_filter.2 ⟨(allW_mem' hs _).2 ?_, ?_⟩, ?_⟩
  · rw [List.take_length] at hb; exact hb
  · rw [he]; exact mkB_mkZ _ _
  · show farM _ _ ≤ _
    rw [he]; exact far_mkZ _ _
theorem mk_ex : ∀ (l A B : List Int), l.Perm (A ++ B) → ∃ m : List Bool, m.length = l.length ∧ mkP m l = prodM A ∧ mkN m = B.length
  | [], A, B, h => by
    have := h.symm.eq_nil
    obtain ⟨rfl, rfl⟩ := List.append_eq_nil_iff.1 this
    exact ⟨[], rfl, rfl, rfl⟩
  | x :: l, A, B, h => by
    have hx : x ∈ A ++ B := h.mem_iff.1 List.mem_cons_self
    by_cases hA : x ∈ A
    · have p1 := List.perm_cons_erase hA
      have p2 : l.Perm (A.erase x ++ B) := (h.trans (p1.append_right B)).cons_inv
      obtain ⟨m, m1, m2, m3⟩ := mk_ex l _ _ p2
      refine ⟨false :: m, by simp [m1], ?_, m3⟩
      rw [mkP, m2, prodM_perm p1, prodM_cons]
    · have hB : x ∈ B := by
        rcases List.mem_append.1 hx with h | h
        · exact absurd h hA
        · exact h
      have p1 := List.perm_cons_erase hB
      have p2 : l.Perm (A ++ B.erase x) := ((h.trans (p1.append_left A)).trans List.perm_middle).cons_inv
      obtain ⟨m, m1, m2, m3⟩ := mk_ex l _ _ p2
      refine ⟨true :: m, by simp [m1], by rw [mkP, m2], ?_⟩
      rw [mkN, m3]
      have := p1.length_eq
      rw [List.length_cons] at this
      omega
theorem free_cover {l : List Int} {r : Int} (hs : isSpaceM l = true) (hr : 0 ≤ r) : ∃ c, isCodeM l c = true ∧ cvB l c r = true ∧ (c.length : Int) = divM l r.toNat := by
  have hz := isSpaceM_szs hs
  have hp : l.Perm ((sortI l).take (l.length - r.toNat) ++ (sortI l).drop (l.length - r.toNat)) := by
    rw [List.take_append_drop]; exact (List.mergeSort_perm l _).symm
  obtain ⟨m, m1, m2, m3⟩ := mk_ex l _ _ hp
  rw [List.length_drop, sortI_len] at m3
  have hcc : isCodeM l (mkW l m) = true := code_sub List.filter_sublist
  refine ⟨mkW l m, hcc, cvB_yes fun w hw => ?_, ?_⟩
  · have hp1 := prodM_pos hz
    obtain ⟨u, hu, hd⟩ := mkW_near (m := m) hs (w := w) (by omega)
    obtain ⟨k, hk, e⟩ := List.mem_iff_getElem.1 hu
    refine ⟨k, hk, ?_⟩
    rw [List.getD_eq_getElem?_getD, List.getElem?_eq_getElem hk, Option.getD_some, e]
    omega
  · rw [mkW_len hz m1, m2]; rfl
theorem cvB_no {l c : List Int} {r : Int} (h : cvB l c r = true) {w : Nat} (hw : w < (prodM l).toNat) : ∃ k, k < c.length ∧ distM l (c.getD k 0) w ≤ r := by
  refine Classical.byContradiction fun hn => ?_
  have h0 : ∀ j, j ≤ c.length → cntN l c r w j = 0 := fun j => by
    induction j with
    | zero => intro _; rfl
    | succ j ih =>
      intro hj
      rw [cntN, ih (by omega), if_neg fun hd => hn ⟨j, by omega, hd⟩]; rfl
  have h1 := timesN_get c r c.length hw
  rw [h0 _ (Nat.le_refl _)] at h1
  have hm : 0 ∈ timesM l c r := by rw [← h1]; exact getD_mem (by rw [timesN_len]; exact hw)
  have : decide (0 ∈ timesM l c r) = true := decide_eq_true hm
  simp only [cvB, this] at h
  cases h
theorem cvB_cov {l c : List Int} {r : Int} (hs : isSpaceM l = true) : cvB l c r = true ↔ Cov l r [] c := by
  have hp1 := prodM_pos (isSpaceM_szs hs)
  constructor
  · intro h u h0 h1
    obtain ⟨k, hk, hd⟩ := cvB_no h (w := u.toNat) (by omega)
    rw [show ((u.toNat : Nat) : Int) = u by omega] at hd
    exact .inr ⟨_, getD_mem hk, (ballM_mem l _ r u).2 ⟨by omega, by rw [distM_comm]; exact hd⟩⟩
  · intro h
    refine cvB_yes fun w hw => ?_
    rcases h w (by omega) (by omega) with h | ⟨v, hv, hu⟩
    · cases h
    · obtain ⟨k, hk, e⟩ := List.mem_iff_getElem.1 hv
      refine ⟨k, hk, ?_⟩
      rw [List.getD_eq_getElem?_getD, List.getElem?_eq_getElem hk, Option.getD_some, e, distM_comm]
      exact ((ballM_mem l _ r _).1 hu).2
theorem fc_facts {l : List Int} {r : Int} (hs : isSpaceM l = true) (hr : 0 ≤ r) : isCodeM l (fcM l r) = true ∧ cvB l (fcM l r) r = true ∧ ∀ c, isCodeM l c = true → cvB l c r = true → (fcM l r).length ≤ c.length := by
  obtain ⟨k, k1, k2, k3, k4⟩ := fcM_ok hs hr
  obtain ⟨n1, n2, n3⟩ := nv_sound k3
  refine ⟨?_, (cvB_cov hs).2 n3, fun c hcc hcv => ?_⟩
  · rw [isCodeM_ok]
    exact ⟨fun j hj => by have := n2.bnd _ (getD_mem hj); omega, fun j hj => asc_lt n2.asc (by omega) hj⟩
  · refine Nat.le_of_not_lt fun hlt => ?_
    have hA : AscF l 0 c := ⟨code_asc hcc, fun w hw => by have := inC_code hcc w hw; omega⟩
    exact nv_compl hA ((cvB_cov hs).1 hcv) (k4 _ (by omega))
theorem mkB_ok : ∀ {m : List Bool} {a : List Int}, m.length = a.length → (mkB m a = true ↔ ∀ i, i < a.length → m.getD i false = true → a.getD i 0 = 0)
  | [], [], _ => by simp [mkB]
  | [], _ :: _, h => by simp at h
  | _ :: _, [], h => by simp at h
  | b :: m, a :: r, h => by
    have ih := mkB_ok (m := m) (a := r) (by simpa using h)
    constructor
    · intro hb i hi hm
      cases b with
      | true =>
        simp only [mkB, Bool.and_eq_true, beq_iff_eq] at hb
        cases i with
        | zero => simpa using hb.1
        | succ i => simpa using ih.1 hb.2 i (by simpa using hi) (by simpa using hm)
      | false =>
        cases i with
        | zero => simp at hm
        | succ i => simpa using ih.1 (by simpa [mkB] using hb) i (by simpa using hi) (by simpa using hm)
    · intro hh
      have h2 := ih.2 fun i hi hm => by simpa using hh (i + 1) (by simpa using hi) (by simpa using hm)
      cases b with
      | true =>
        have h0 := hh 0 (by simp) (by simp)
        simp only [List.getD_cons_zero] at h0
        simp [mkB, h0, h2]
      | false => simpa [mkB] using h2
abbrev mskP (n : Nat) (c : List Int) : List Bool := (List.range n).map fun (i : Nat) => decide ((i : Int) ∈ c)
theorem msk_frP {l c : List Int} (hc : ∀ j, j < c.length → 0 ≤ c.getD j 0 ∧ c.getD j 0 < l.length) {a : List Int} (ha : a.length = l.length) : frP c a = mkB (mskP l.length c) a := by
  rw [Bool.eq_iff_iff, mkB_ok (by simp [ha]), frP, Bool.not_eq_true', List.any_eq_false]
  constructor
  · intro h i hi hm
    have hm' : (i : Int) ∈ c := by
      have e : (mskP l.length c).getD i false = decide ((i : Int) ∈ c) := by simp [show i < l.length by omega]
      rw [e] at hm
      exact of_decide_eq_true hm
    have := h _ hm'
    simpa [-List.getD_eq_getElem?_getD] using this
  · intro h x hx
    obtain ⟨j, hj, e⟩ := List.mem_iff_getElem.1 hx
    have hb := hc j hj
    rw [show c.getD j 0 = x by simp [hj, e]] at hb
    have hi : x.toNat < l.length := by omega
    have := h x.toNat (by omega) (by simp [hi, show ((x.toNat : Nat) : Int) = x by omega, hx])
    simpa [-List.getD_eq_getElem?_getD] using this
theorem mkN_map (p : Nat → Bool) (n : Nat) : mkN ((List.range n).map p) = (((List.range n).filter p).length : Int) := by
  have key : ∀ L : List Nat, mkN (L.map p) = ((L.filter p).length : Int) := fun L => by
    induction L with
    | nil => rfl
    | cons x L ih =>
      rw [List.map_cons, List.filter_cons]
      cases hp : p x with
      | true => simp only [mkN, if_true, List.length_cons, ih]; omega
      | false => simp only [mkN, Bool.false_eq_true, if_false, ih]
  exact key _
theorem msk_cnt {n : Nat} {c : List Int} (ha : Asc c) (hc : ∀ u, u ∈ c → 0 ≤ u ∧ u < n) : mkN (mskP n c) = c.length := by
  rw [mkN_map]
  have e : ((List.range n).filter fun (i : Nat) => decide ((i : Int) ∈ c)).map (fun (i : Nat) => (i : Int)) = c := by
    refine asc_ext ?_ ha fun x => ?_
    · refine List.Pairwise.map _ (fun a b h => ?_) ((List.pairwise_lt_range (n := n)).filter _)
      omega
    · rw [List.mem_map]
      constructor
      · rintro ⟨i, hi, rfl⟩
        exact of_decide_eq_true (List.mem_filter.1 hi).2
      · intro hx
        have := hc x hx
        exact ⟨x.toNat, List.mem_filter.2 ⟨List.mem_range.2 (by omega), decide_eq_true (by rw [show ((x.toNat : Nat) : Int) = x by omega]; exact hx)⟩, by omega⟩
  have := congrArg List.length e
  rw [List.length_map] at this
  rw [this]
theorem pl_asc {l c : List Int} (h : plB l c = true) : Asc c ∧ ∀ u, u ∈ c → 0 ≤ u ∧ u < l.length := by
  obtain ⟨h1, h2⟩ := (plB_ok l c).1 h
  have h3 : ∀ k i, i + k + 1 < c.length → c.getD i 0 < c.getD (i + k + 1) 0 := fun k => by
    induction k with
    | zero => intro i hi; exact h2 i hi
    | succ k ih => intro i hi; have h5 := ih i (by omega); have h6 := h2 (i + k + 1) (by omega); rw [show i + (k + 1) + 1 = i + k + 1 + 1 by omega]; omega
  refine ⟨List.pairwise_iff_getElem.2 fun i j hi hj hij => ?_, fun u hu => ?_⟩
  · have := h3 (j - i - 1) i (by omega)
    rw [show i + (j - i - 1) + 1 = j by omega] at this
    simpa [hi, hj] using this
  · obtain ⟨j, hj, e⟩ := List.mem_iff_getElem.1 hu
    have := h1 j hj
    rw [show c.getD j 0 = u by simp [hj, e]] at this
    exact this
theorem fr_facts {l c : List Int} (h : frE l c = 0) : isSpaceM l = true ∧ isCodeM l (frM l c) = true ∧ 0 < (frM l c).length ∧ mxL (faL l (frM l c)) (faL l (frM l c)).length = c.length := by
  have hs : isSpaceM l = true := by
    unfold frE at h; split at h
    · assumption
    · cases h
  have hpl : plB l c = true := by
    unfold frE at h; rw [if_pos hs] at h; split at h
    · assumption
    · cases h
  have hz := isSpaceM_szs hs
  have hn := isSpaceM_n hs
  have hp1 := prodM_pos hz
  obtain ⟨ha, hc⟩ := pl_asc hpl
  have hc' := ((plB_ok l c).1 hpl).1
  have hml : (mskP l.length c).length = l.length := by simp
  have hk := msk_cnt ha hc
  have he : frM l c = mkW l (mskP l.length c) := List.filter_congr fun w _ => msk_frP hc' (digM_len l w)
  have hkl := mkN_nn (mskP l.length c)
  rw [hml, hk] at hkl
  obtain ⟨u0, hu0, _⟩ := mkW_near (m := mskP l.length c) hs (w := 0) (by omega)
  rw [he]
  generalize hm : mskP l.length c = m at *
  have hpos : 0 < (mkW l m).length := List.length_pos_of_mem hu0
  refine ⟨hs, code_sub List.filter_sublist, hpos, ?_⟩
  have hfl : (faL l (mkW l m)).length = (prodM l).toNat := by simp [faL, allW_len]
  have hfg : ∀ i : Nat, i < (prodM l).toNat → (faL l (mkW l m)).getD i 0 = minD l (mkW l m) i 8 (mkW l m).length := fun i hi => by
    have h1 : i < (allW l).length := by rw [allW_len]; exact hi
    have h2 := allW_get l hi
    have h3 : (allW l)[i] = (i : Int) := by simpa [h1] using h2
    simp [faL, List.getD_eq_getElem?_getD, h1, h3]
  have hup : ∀ i : Nat, i < (prodM l).toNat → (faL l (mkW l m)).getD i 0 ≤ c.length := fun i hi => by
    rw [hfg i hi, minD_le_iff]
    obtain ⟨u, hu, hd⟩ := mkW_near (m := m) hs (w := i) (by omega)
    obtain ⟨j, hj, e⟩ := List.mem_iff_getElem.1 hu
    refine .inr ⟨j, hj, ?_⟩
    rw [List.getD_eq_getElem?_getD, List.getElem?_eq_getElem hj, Option.getD_some, e, distM_comm]
    omega
  have hd1 : ∀ i, i < l.length → 0 ≤ (List.replicate l.length (1 : Int)).getD i 0 ∧ (List.replicate l.length (1 : Int)).getD i 0 < l.getD i 0 := fun i hi => by
    have := hz i hi
    rw [show (List.replicate l.length (1 : Int)).getD i 0 = 1 by simp [hi]]; omega
  have hwd := digM_word hz (d := List.replicate l.length 1) (by simp) hd1
  have hwb := wordN_bnd hz hd1 l.length (Nat.le_refl _)
  rw [List.take_length] at hwb
  generalize wordN l (List.replicate l.length 1) l.length = w1 at hwd hwb
  have hlo : (c.length : Int) ≤ (faL l (mkW l m)).getD w1.toNat 0 := by
    rw [hfg _ (by omega), le_minD]
    refine ⟨by omega, fun i hi => ?_⟩
    have hmem := (List.mem_filter.1 (getD_mem hi)).2
    have h1 := far_ones (m := m) (a := digM l ((mkW l m).getD i 0)) (by rw [digM_len, hml]) hmem
    rw [digM_len, ← hwd, hk] at h1
    rw [show ((w1.toNat : Nat) : Int) = w1 by omega, distM_comm]
    exact h1
  have a1 : w1.toNat < (faL l (mkW l m)).length := by rw [hfl]; omega
  have a2 : (c.length : Int) - 1 < (faL l (mkW l m)).getD w1.toNat 0 := by omega
  have g1 := mxL_gt (faL l (mkW l m)) (c.length : Int) (faL l (mkW l m)).length
  have g2 := mxL_gt (faL l (mkW l m)) ((c.length : Int) - 1) (faL l (mkW l m)).length
  have n1 : ¬ (c.length : Int) < mxL (faL l (mkW l m)) (faL l (mkW l m)).length := fun hh => by
    rcases g1.1 hh with h | ⟨i, hi, h⟩
    · have := hup 0 (by omega); omega
    · have := hup i (by omega); omega
  have n2 := g2.2 (.inr ⟨w1.toNat, a1, a2⟩)
  clear g1 g2
  generalize mxL (faL l (mkW l m)) (faL l (mkW l m)).length = M at n1 n2 ⊢
  exact Int.le_antisymm (Int.not_lt.1 n1) (Int.le_of_sub_one_lt n2)
def dfN (l : List Int) (s : Src) : Nat → List Int × Src
  | 0 => ([], s)
  | i + 1 => (if (nxt l (dfN l s i).2 2).1 = 0 then (dfN l s i).1 ++ [(i : Int)] else (dfN l s i).1, (nxt l (dfN l s i).2 2).2)
theorem dfN_ok {l : List Int} {s : Src} (hs : okS l s) : ∀ i, okS l (dfN l s i).2 ∧ (dfN l s i).1.length ≤ i
  | 0 => ⟨hs, Nat.zero_le _⟩
  | i + 1 => by
    obtain ⟨h1, h2⟩ := dfN_ok hs i
    refine ⟨nxt_ok h1 _, ?_⟩
    rw [dfN]; dsimp only
    split
    · simp; omega
    · omega
theorem ex_freeCode {cd : D} {l : List Int} (H : SrcH cd l) : ∃ (X : D) (o c : List Int), drL X o ∧ c.length < 1048577 ∧ Den PA f_spec_DrawFreeCode [.d cd] [.any] (.tup [.d (.agg [X]), .own 1 (c.map di)]) := by
  obtain ⟨s0, hs0, d0⟩ := ex_from H
  obtain ⟨x, s1, hs1, hx, d1⟩ := ex_draw H hs0
  have hd1 := d1.le .frzA
  have hn := isSpaceM_n hx
  have hk := dfN_ok hs1
  obtain ⟨K, hK⟩ : ∃ K, K = dfN l s1 x.length := ⟨_, rfl⟩
  have hkx := hk x.length
  rw [← hK] at hkx
  obtain ⟨v, s3, hs3, v1, v2, d3⟩ := ex_nxt H hkx.1 (q := 16) (by omega)
  by_cases hv : v = 0
  · subst hv
    obtain ⟨u, s4, hs4, hu, d4⟩ := ex_pik H hs3 [-1, 0, 8] (by simp) (by simp)
    obtain ⟨X, o, s5, hs5, hX, d5⟩ := ex_bad H hs4 hx
    refine ⟨X, o, K.1 ++ [u], hX, by simp; omega, den_go [] l_spec_DrawFreeCode ?_⟩
    repeat' (first | simp -implicitDefEqProofs (maxSteps := 1000000) (disch := (first | omega | (simp only [go_sem] <;> omega) | fail)) only [go_sem, ints, bools, mat, c_spec_DrawFreeCode, srcR] | ((first | apply goIf_b | apply goG_b | apply goTG_b | apply goOG_b) <;> intro h <;> ((try simp only [hnq] at h); (try simp only [h]); (try simp only [hnr] at h)) <;> (try (exfalso; omega))))
    first | refine goC_call [.r] (d0) ?_ | refine goOC_call [.r] (d0) ?_
    repeat' (first | simp -implicitDefEqProofs (maxSteps := 1000000) (disch := (first | omega | (simp only [go_sem] <;> omega) | fail)) only [go_sem, ints, bools, mat] | ((first | apply goIf_b | apply goG_b | apply goTG_b | apply goOG_b) <;> intro h <;> ((try simp only [hnq] at h); (try simp only [h]); (try simp only [hnr] at h)) <;> (try (exfalso; omega))))
    first | refine goC_call [.bm] (hd1) ?_ | refine goOC_call [.bm] (hd1) ?_
    repeat' (first | simp -implicitDefEqProofs (maxSteps := 1000000) (disch := (first | omega | (simp only [go_sem] <;> omega) | fail)) only [go_sem, ints, bools, mat] | ((first | apply goIf_b | apply goG_b | apply goTG_b | apply goOG_b) <;> intro h <;> ((try simp only [hnq] at h); (try simp only [h]); (try simp only [hnr] at h)) <;> (try (exfalso; omega))))
    refine go_loop (fun (i : Nat) => ⟨[(2, .ref 0 0), (4, .ref 1 0), (5, .ref 2 0), (6, .sl 3 0 (dfN l s1 i).1.length 1), (7, .d (di i))], [some (.var [nil]), some (.var [cd, di (dfN l s1 i).2.1, du (dfN l s1 i).2.2]), some (.var [ints x]), some (.dat 1 ((dfN l s1 i).1.map di))]⟩) (fun i => i ≤ x.length) (fun i => x.length - i) 0 ?_ ?_ ?_
    · simp -implicitDefEqProofs (maxSteps := 1000000) (disch := (first | omega | (simp only [go_sem] <;> omega) | fail)) only [go_sem, ints, bools, mat]
      all_goals rfl
    · exact Nat.zero_le _
    · rintro i hi J hJ
      have hki := hk i
      by_cases hil : i < x.length
      · have dn := d_nxt H hki.1 2
        by_cases hz : (nxt l (dfN l s1 i).2 2).1 = 0
        · have e : dfN l s1 (i + 1) = ((dfN l s1 i).1 ++ [(i : Int)], (nxt l (dfN l s1 i).2 2).2) := by rw [dfN, if_pos hz]
          rw [hz] at dn
          repeat' (first | simp -implicitDefEqProofs (maxSteps := 1000000) (disch := (first | omega | (simp only [go_sem] <;> omega) | fail)) only [go_sem, ints, bools, mat] | ((first | apply goIf_b | apply goG_b | apply goTG_b | apply goOG_b) <;> intro h <;> ((try simp only [hnq] at h); (try simp only [h]); (try simp only [hnr] at h)) <;> (try (exfalso; omega))))
          first | refine goC_call [.bm, .r] (dn) ?_ | refine goOC_call [.bm, .r] (dn) ?_
          repeat' (first | simp -implicitDefEqProofs (maxSteps := 1000000) (disch := (first | omega | (simp only [go_sem] <;> omega) | fail)) only [go_sem, ints, bools, mat] | ((first | apply goIf_b | apply goG_b | apply goTG_b | apply goOG_b) <;> intro h <;> ((try simp only [hnq] at h); (try simp only [h]); (try simp only [hnr] at h)) <;> (try (exfalso; omega))))
          refine hJ (i + 1) (by omega) (by omega) _ ?_
          rw [e]
          simp -implicitDefEqProofs (maxSteps := 1000000) (disch := (first | omega | (simp only [go_sem] <;> omega) | fail)) only [go_sem, ints, bools, mat]
          all_goals rfl
        · have e : dfN l s1 (i + 1) = ((dfN l s1 i).1, (nxt l (dfN l s1 i).2 2).2) := by rw [dfN, if_neg hz]
          repeat' (first | simp -implicitDefEqProofs (maxSteps := 1000000) (disch := (first | omega | (simp only [go_sem] <;> omega) | fail)) only [go_sem, ints, bools, mat] | ((first | apply goIf_b | apply goG_b | apply goTG_b | apply goOG_b) <;> intro h <;> ((try simp only [hnq] at h); (try simp only [h]); (try simp only [hnr] at h)) <;> (try (exfalso; omega))))
          first | refine goC_call [.bm, .r] (dn) ?_ | refine goOC_call [.bm, .r] (dn) ?_
          repeat' (first | simp -implicitDefEqProofs (maxSteps := 1000000) (disch := (first | omega | (simp only [go_sem] <;> omega) | fail)) only [go_sem, ints, bools, mat] | ((first | apply goIf_b | apply goG_b | apply goTG_b | apply goOG_b) <;> intro h <;> ((try simp only [hnq] at h); (try simp only [h]); (try simp only [hnr] at h)) <;> (try (exfalso; omega))))
          refine hJ (i + 1) (by omega) (by omega) _ ?_
          rw [e]
          simp -implicitDefEqProofs (maxSteps := 1000000) (disch := (first | omega | (simp only [go_sem] <;> omega) | fail)) only [go_sem, ints, bools, mat]
          all_goals rfl
      · have hie : i = x.length := by omega
        subst hie
        rw [← hK]
        repeat' (first | simp -implicitDefEqProofs (maxSteps := 1000000) (disch := (first | omega | (simp only [go_sem] <;> omega) | fail)) only [go_sem, ints, bools, mat] | ((first | apply goIf_b | apply goG_b | apply goTG_b | apply goOG_b) <;> intro h <;> ((try simp only [hnq] at h); (try simp only [h]); (try simp only [hnr] at h)) <;> (try (exfalso; omega))))
        first | refine goC_call [.bm, .r] (d3) ?_ | refine goOC_call [.bm, .r] (d3) ?_
        repeat' (first | simp -implicitDefEqProofs (maxSteps := 1000000) (disch := (first | omega | (simp only [go_sem] <;> omega) | fail)) only [go_sem, ints, bools, mat] | ((first | apply goIf_b | apply goG_b | apply goTG_b | apply goOG_b) <;> intro h <;> ((try simp only [hnq] at h); (try simp only [h]); (try simp only [hnr] at h)) <;> (try (exfalso; omega))))
        first | refine goC_call [.bm, .f] (d4) ?_ | refine goOC_call [.bm, .f] (d4) ?_
        repeat' (first | simp -implicitDefEqProofs (maxSteps := 1000000) (disch := (first | omega | (simp only [go_sem] <;> omega) | fail)) only [go_sem, ints, bools, mat] | ((first | apply goIf_b | apply goG_b | apply goTG_b | apply goOG_b) <;> intro h <;> ((try simp only [hnq] at h); (try simp only [h]); (try simp only [hnr] at h)) <;> (try (exfalso; omega))))
        first | refine goC_call [.bm, .r] (d5) ?_ | refine goOC_call [.bm, .r] (d5) ?_
        repeat' (first | simp -implicitDefEqProofs (maxSteps := 1000000) (disch := (first | omega | (simp only [go_sem] <;> omega) | fail)) only [go_sem, ints, bools, mat] | ((first | apply goIf_b | apply goG_b | apply goTG_b | apply goOG_b) <;> intro h <;> ((try simp only [hnq] at h); (try simp only [h]); (try simp only [hnr] at h)) <;> (try (exfalso; omega))))
  · skip
    obtain ⟨X, o, s5, hs5, hX, d5⟩ := ex_bad H hs3 hx
    refine ⟨X, o, K.1, hX, by omega, den_go [] l_spec_DrawFreeCode ?_⟩
    repeat' (first | simp -implicitDefEqProofs (maxSteps := 1000000) (disch := (first | omega | (simp only [go_sem] <;> omega) | fail)) only [go_sem, ints, bools, mat, c_spec_DrawFreeCode, srcR] | ((first | apply goIf_b | apply goG_b | apply goTG_b | apply goOG_b) <;> intro h <;> ((try simp only [hnq] at h); (try simp only [h]); (try simp only [hnr] at h)) <;> (try (exfalso; omega))))
    first | refine goC_call [.r] (d0) ?_ | refine goOC_call [.r] (d0) ?_
    repeat' (first | simp -implicitDefEqProofs (maxSteps := 1000000) (disch := (first | omega | (simp only [go_sem] <;> omega) | fail)) only [go_sem, ints, bools, mat] | ((first | apply goIf_b | apply goG_b | apply goTG_b | apply goOG_b) <;> intro h <;> ((try simp only [hnq] at h); (try simp only [h]); (try simp only [hnr] at h)) <;> (try (exfalso; omega))))
    first | refine goC_call [.bm] (hd1) ?_ | refine goOC_call [.bm] (hd1) ?_
    repeat' (first | simp -implicitDefEqProofs (maxSteps := 1000000) (disch := (first | omega | (simp only [go_sem] <;> omega) | fail)) only [go_sem, ints, bools, mat] | ((first | apply goIf_b | apply goG_b | apply goTG_b | apply goOG_b) <;> intro h <;> ((try simp only [hnq] at h); (try simp only [h]); (try simp only [hnr] at h)) <;> (try (exfalso; omega))))
    refine go_loop (fun (i : Nat) => ⟨[(2, .ref 0 0), (4, .ref 1 0), (5, .ref 2 0), (6, .sl 3 0 (dfN l s1 i).1.length 1), (7, .d (di i))], [some (.var [nil]), some (.var [cd, di (dfN l s1 i).2.1, du (dfN l s1 i).2.2]), some (.var [ints x]), some (.dat 1 ((dfN l s1 i).1.map di))]⟩) (fun i => i ≤ x.length) (fun i => x.length - i) 0 ?_ ?_ ?_
    · simp -implicitDefEqProofs (maxSteps := 1000000) (disch := (first | omega | (simp only [go_sem] <;> omega) | fail)) only [go_sem, ints, bools, mat]
      all_goals rfl
    · exact Nat.zero_le _
    · rintro i hi J hJ
      have hki := hk i
      by_cases hil : i < x.length
      · have dn := d_nxt H hki.1 2
        by_cases hz : (nxt l (dfN l s1 i).2 2).1 = 0
        · have e : dfN l s1 (i + 1) = ((dfN l s1 i).1 ++ [(i : Int)], (nxt l (dfN l s1 i).2 2).2) := by rw [dfN, if_pos hz]
          rw [hz] at dn
          repeat' (first | simp -implicitDefEqProofs (maxSteps := 1000000) (disch := (first | omega | (simp only [go_sem] <;> omega) | fail)) only [go_sem, ints, bools, mat] | ((first | apply goIf_b | apply goG_b | apply goTG_b | apply goOG_b) <;> intro h <;> ((try simp only [hnq] at h); (try simp only [h]); (try simp only [hnr] at h)) <;> (try (exfalso; omega))))
          first | refine goC_call [.bm, .r] (dn) ?_ | refine goOC_call [.bm, .r] (dn) ?_
          repeat' (first | simp -implicitDefEqProofs (maxSteps := 1000000) (disch := (first | omega | (simp only [go_sem] <;> omega) | fail)) only [go_sem, ints, bools, mat] | ((first | apply goIf_b | apply goG_b | apply goTG_b | apply goOG_b) <;> intro h <;> ((try simp only [hnq] at h); (try simp only [h]); (try simp only [hnr] at h)) <;> (try (exfalso; omega))))
          refine hJ (i + 1) (by omega) (by omega) _ ?_
          rw [e]
          simp -implicitDefEqProofs (maxSteps := 1000000) (disch := (first | omega | (simp only [go_sem] <;> omega) | fail)) only [go_sem, ints, bools, mat]
          all_goals rfl
        · have e : dfN l s1 (i + 1) = ((dfN l s1 i).1, (nxt l (dfN l s1 i).2 2).2) := by rw [dfN, if_neg hz]
          repeat' (first | simp -implicitDefEqProofs (maxSteps := 1000000) (disch := (first | omega | (simp only [go_sem] <;> omega) | fail)) only [go_sem, ints, bools, mat] | ((first | apply goIf_b | apply goG_b | apply goTG_b | apply goOG_b) <;> intro h <;> ((try simp only [hnq] at h); (try simp only [h]); (try simp only [hnr] at h)) <;> (try (exfalso; omega))))
          first | refine goC_call [.bm, .r] (dn) ?_ | refine goOC_call [.bm, .r] (dn) ?_
          repeat' (first | simp -implicitDefEqProofs (maxSteps := 1000000) (disch := (first | omega | (simp only [go_sem] <;> omega) | fail)) only [go_sem, ints, bools, mat] | ((first | apply goIf_b | apply goG_b | apply goTG_b | apply goOG_b) <;> intro h <;> ((try simp only [hnq] at h); (try simp only [h]); (try simp only [hnr] at h)) <;> (try (exfalso; omega))))
          refine hJ (i + 1) (by omega) (by omega) _ ?_
          rw [e]
          simp -implicitDefEqProofs (maxSteps := 1000000) (disch := (first | omega | (simp only [go_sem] <;> omega) | fail)) only [go_sem, ints, bools, mat]
          all_goals rfl
      · have hie : i = x.length := by omega
        subst hie
        rw [← hK]
        repeat' (first | simp -implicitDefEqProofs (maxSteps := 1000000) (disch := (first | omega | (simp only [go_sem] <;> omega) | fail)) only [go_sem, ints, bools, mat] | ((first | apply goIf_b | apply goG_b | apply goTG_b | apply goOG_b) <;> intro h <;> ((try simp only [hnq] at h); (try simp only [h]); (try simp only [hnr] at h)) <;> (try (exfalso; omega))))
        first | refine goC_call [.bm, .r] (d3) ?_ | refine goOC_call [.bm, .r] (d3) ?_
        repeat' (first | simp -implicitDefEqProofs (maxSteps := 1000000) (disch := (first | omega | (simp only [go_sem] <;> omega) | fail)) only [go_sem, ints, bools, mat] | ((first | apply goIf_b | apply goG_b | apply goTG_b | apply goOG_b) <;> intro h <;> ((try simp only [hnq] at h); (try simp only [h]); (try simp only [hnr] at h)) <;> (try (exfalso; omega))))
        first | refine goC_call [.bm, .r] (d5) ?_ | refine goOC_call [.bm, .r] (d5) ?_
        repeat' (first | simp -implicitDefEqProofs (maxSteps := 1000000) (disch := (first | omega | (simp only [go_sem] <;> omega) | fail)) only [go_sem, ints, bools, mat] | ((first | apply goIf_b | apply goG_b | apply goTG_b | apply goOG_b) <;> intro h <;> ((try simp only [hnq] at h); (try simp only [h]); (try simp only [hnr] at h)) <;> (try (exfalso; omega))))
structure FcF (X : D) (r : Int) (F G : List Int) (lo hi : Int) : Prop where
  fl : F.length < 1048577
  la : lo ≤ F.length
  lb : (F.length : Int) ≤ hi
  lg : F.length ≤ G.length
  f1 : Den PA f_impl_FirstCover [.d (.agg [X]), .d (di r)] [.any, .any] (.tup [.own 1 (F.map di), .d (di 0)])
  f2 : Den PA f_spec_FirstCover [.d (.agg [X]), .d (di r)] [.any, .any] (.tup [.d (ints F), .d (di 0)])
  n1 : Den PA f_impl_LeastNumber [.d (.agg [X]), .d (di r)] [.any, .any] (.tup [.d (di F.length), .d (di 0)])
  n2 : Den PA f_spec_LeastNumber [.d (.agg [X]), .d (di r)] [.any, .any] (.tup [.d (di F.length), .d (di 0)])
  cv : Den PA f_impl_CoversSpace [.d (.agg [X]), .d (ints F), .d (di r)] [.any, .any, .any] (.tup [.d (db true), .d (di 0)])
  bb : Den PA f_impl_BallBound [.d (.agg [X]), .d (di r)] [.any, .any] (.tup [.d (di lo), .d (di 0)])
  fb : Den PA f_impl_FreeBound [.d (.agg [X]), .d (di r)] [.any, .any] (.tup [.d (di hi), .d (di 0)])
  gc : Den PA f_impl_GreedyCode [.d (.agg [X]), .d (di r)] [.any, .any] (.tup [.own 1 (G.map di), .d (di 0)])
structure FcN (X : D) (r e : Int) : Prop where
  f1 : Den PA f_impl_FirstCover [.d (.agg [X]), .d (di r)] [.any, .any] (.tup [.d nil, .d (di e)])
  f2 : Den PA f_spec_FirstCover [.d (.agg [X]), .d (di r)] [.any, .any] (.tup [.d nil, .d (di e)])
  n1 : Den PA f_impl_LeastNumber [.d (.agg [X]), .d (di r)] [.any, .any] (.tup [.d (di 0), .d (di e)])
  n2 : Den PA f_spec_LeastNumber [.d (.agg [X]), .d (di r)] [.any, .any] (.tup [.d (di 0), .d (di e)])
structure BfF (X : D) (r b f e : Int) : Prop where
  le : e = 0 → b ≤ f
  b1 : Den PA f_impl_BallBound [.d (.agg [X]), .d (di r)] [.any, .any] (.tup [.d (di b), .d (di e)])
  b2 : Den PA f_spec_BallBound [.d (.agg [X]), .d (di r)] [.any, .any] (.tup [.d (di b), .d (di e)])
  f1 : Den PA f_impl_FreeBound [.d (.agg [X]), .d (di r)] [.any, .any] (.tup [.d (di f), .d (di e)])
  f2 : Den PA f_spec_FreeBound [.d (.agg [X]), .d (di r)] [.any, .any] (.tup [.d (di f), .d (di e)])
structure FrF (X : D) (c W : List Int) : Prop where
  wl : W.length < 1048577
  w1 : Den PA f_impl_FreeCode [.d (.agg [X]), .d (ints c)] [.any, .any] (.tup [.own 1 (W.map di), .d (di 0)])
  w2 : Den PA f_spec_FreeCode [.d (.agg [X]), .d (ints c)] [.any, .any] (.tup [.own 1 (W.map di), .d (di 0)])
  ra : Den PA f_impl_RadiusOf [.d (.agg [X]), .d (ints W)] [.any, .any] (.tup [.d (di c.length), .d (di 0)])
structure FrN (X : D) (c : List Int) (e : Int) : Prop where
  w1 : Den PA f_impl_FreeCode [.d (.agg [X]), .d (ints c)] [.any, .any] (.tup [.d nil, .d (di e)])
  w2 : Den PA f_spec_FreeCode [.d (.agg [X]), .d (ints c)] [.any, .any] (.tup [.d nil, .d (di e)])
theorem d_nil_impl_BallBound (r : Int) : Den PA f_impl_BallBound [.d (.agg [nil]), .d (di r)] [.any, .any] (.tup [.d (di 0), .d (di 1)]) := by
  refine den_go [] l_impl_BallBound ?_
  repeat' (first | simp -implicitDefEqProofs (maxSteps := 1000000) (disch := (first | omega | (simp only [go_sem] <;> omega) | fail)) only [go_sem, ints, bools, mat, c_impl_BallBound] | ((first | apply goIf_b | apply goG_b | apply goTG_b | apply goOG_b) <;> intro h <;> ((try simp only [hnq] at h); (try simp only [h]); (try simp only [hnr] at h)) <;> (try (exfalso; omega))))
  first | refine goC_call [.r, .r, .r] (d_nil_impl_ballCode 0 r) ?_ | refine goOC_call [.r, .r, .r] (d_nil_impl_ballCode 0 r) ?_
  repeat' (first | simp -implicitDefEqProofs (maxSteps := 1000000) (disch := (first | omega | (simp only [go_sem] <;> omega) | fail)) only [go_sem, ints, bools, mat] | ((first | apply goIf_b | apply goG_b | apply goTG_b | apply goOG_b) <;> intro h <;> ((try simp only [hnq] at h); (try simp only [h]); (try simp only [hnr] at h)) <;> (try (exfalso; omega))))
theorem d_nil_spec_BallBound (r : Int) : Den PA f_spec_BallBound [.d (.agg [nil]), .d (di r)] [.any, .any] (.tup [.d (di 0), .d (di 1)]) := by
  refine den_go [] l_spec_BallBound ?_
  repeat' (first | simp -implicitDefEqProofs (maxSteps := 1000000) (disch := (first | omega | (simp only [go_sem] <;> omega) | fail)) only [go_sem, ints, bools, mat, c_spec_BallBound] | ((first | apply goIf_b | apply goG_b | apply goTG_b | apply goOG_b) <;> intro h <;> ((try simp only [hnq] at h); (try simp only [h]); (try simp only [hnr] at h)) <;> (try (exfalso; omega))))
  first | refine goC_call [.r, .r, .r, .r] (d_nil_spec_l04Code r 0 8) ?_ | refine goOC_call [.r, .r, .r, .r] (d_nil_spec_l04Code r 0 8) ?_
  repeat' (first | simp -implicitDefEqProofs (maxSteps := 1000000) (disch := (first | omega | (simp only [go_sem] <;> omega) | fail)) only [go_sem, ints, bools, mat] | ((first | apply goIf_b | apply goG_b | apply goTG_b | apply goOG_b) <;> intro h <;> ((try simp only [hnq] at h); (try simp only [h]); (try simp only [hnr] at h)) <;> (try (exfalso; omega))))
theorem d_nil_impl_FreeBound (r : Int) : Den PA f_impl_FreeBound [.d (.agg [nil]), .d (di r)] [.any, .any] (.tup [.d (di 0), .d (di 1)]) := by
  refine den_go [] l_impl_FreeBound ?_
  repeat' (first | simp -implicitDefEqProofs (maxSteps := 1000000) (disch := (first | omega | (simp only [go_sem] <;> omega) | fail)) only [go_sem, ints, bools, mat, c_impl_FreeBound] | ((first | apply goIf_b | apply goG_b | apply goTG_b | apply goOG_b) <;> intro h <;> ((try simp only [hnq] at h); (try simp only [h]); (try simp only [hnr] at h)) <;> (try (exfalso; omega))))
  first | refine goC_call [.r, .r, .r] (d_nil_impl_ballCode 0 r) ?_ | refine goOC_call [.r, .r, .r] (d_nil_impl_ballCode 0 r) ?_
  repeat' (first | simp -implicitDefEqProofs (maxSteps := 1000000) (disch := (first | omega | (simp only [go_sem] <;> omega) | fail)) only [go_sem, ints, bools, mat] | ((first | apply goIf_b | apply goG_b | apply goTG_b | apply goOG_b) <;> intro h <;> ((try simp only [hnq] at h); (try simp only [h]); (try simp only [hnr] at h)) <;> (try (exfalso; omega))))
theorem d_nil_spec_FreeBound (r : Int) : Den PA f_spec_FreeBound [.d (.agg [nil]), .d (di r)] [.any, .any] (.tup [.d (di 0), .d (di 1)]) := by
  refine den_go [] l_spec_FreeBound ?_
  repeat' (first | simp -implicitDefEqProofs (maxSteps := 1000000) (disch := (first | omega | (simp only [go_sem] <;> omega) | fail)) only [go_sem, ints, bools, mat, c_spec_FreeBound] | ((first | apply goIf_b | apply goG_b | apply goTG_b | apply goOG_b) <;> intro h <;> ((try simp only [hnq] at h); (try simp only [h]); (try simp only [hnr] at h)) <;> (try (exfalso; omega))))
  first | refine goC_call [.r, .r, .r, .r] (d_nil_spec_l04Code r 0 8) ?_ | refine goOC_call [.r, .r, .r, .r] (d_nil_spec_l04Code r 0 8) ?_
  repeat' (first | simp -implicitDefEqProofs (maxSteps := 1000000) (disch := (first | omega | (simp only [go_sem] <;> omega) | fail)) only [go_sem, ints, bools, mat] | ((first | apply goIf_b | apply goG_b | apply goTG_b | apply goOG_b) <;> intro h <;> ((try simp only [hnq] at h); (try simp only [h]); (try simp only [hnr] at h)) <;> (try (exfalso; omega))))
theorem d_nil_impl_FreeCode (c : List Int) : Den PA f_impl_FreeCode [.d (.agg [nil]), .d (ints c)] [.any, .any] (.tup [.d nil, .d (di 1)]) := by
  refine den_go [] l_impl_FreeCode ?_
  repeat' (first | simp -implicitDefEqProofs (maxSteps := 1000000) (disch := (first | omega | (simp only [go_sem] <;> omega) | fail)) only [go_sem, ints, bools, mat, c_impl_FreeCode] | ((first | apply goIf_b | apply goG_b | apply goTG_b | apply goOG_b) <;> intro h <;> ((try simp only [hnq] at h); (try simp only [h]); (try simp only [hnr] at h)) <;> (try (exfalso; omega))))
  first | refine goC_call [.r] (d_nil_impl_IsSpace) ?_ | refine goOC_call [.r] (d_nil_impl_IsSpace) ?_
  repeat' (first | simp -implicitDefEqProofs (maxSteps := 1000000) (disch := (first | omega | (simp only [go_sem] <;> omega) | fail)) only [go_sem, ints, bools, mat] | ((first | apply goIf_b | apply goG_b | apply goTG_b | apply goOG_b) <;> intro h <;> ((try simp only [hnq] at h); (try simp only [h]); (try simp only [hnr] at h)) <;> (try (exfalso; omega))))
theorem d_nil_spec_FreeCode (c : List Int) : Den PA f_spec_FreeCode [.d (.agg [nil]), .d (ints c)] [.any, .any] (.tup [.d nil, .d (di 1)]) := by
  refine den_go [] l_spec_FreeCode ?_
  repeat' (first | simp -implicitDefEqProofs (maxSteps := 1000000) (disch := (first | omega | (simp only [go_sem] <;> omega) | fail)) only [go_sem, ints, bools, mat, c_spec_FreeCode] | ((first | apply goIf_b | apply goG_b | apply goTG_b | apply goOG_b) <;> intro h <;> ((try simp only [hnq] at h); (try simp only [h]); (try simp only [hnr] at h)) <;> (try (exfalso; omega))))
  first | refine goC_call [.r] (d_nil_spec_l01Is) ?_ | refine goOC_call [.r] (d_nil_spec_l01Is) ?_
  repeat' (first | simp -implicitDefEqProofs (maxSteps := 1000000) (disch := (first | omega | (simp only [go_sem] <;> omega) | fail)) only [go_sem, ints, bools, mat] | ((first | apply goIf_b | apply goG_b | apply goTG_b | apply goOG_b) <;> intro h <;> ((try simp only [hnq] at h); (try simp only [h]); (try simp only [hnr] at h)) <;> (try (exfalso; omega))))
theorem lc_facts {X : D} {o : List Int} (r : Int) (hX : drL X o) : (∃ F G lo hi, FcF X r F G lo hi) ∨ ∃ e, e ≠ 0 ∧ FcN X r e := by
  obtain ⟨hX1, hX2, hX3⟩ := hX
  rcases hX1 with rfl | ⟨rfl, rfl⟩
  · have h1 := d_impl_FirstCover o r hX2
    have h2 := d_spec_FirstCover o r hX2
    have h3 := d_impl_LeastNumber o r hX2
    have h4 := d_spec_LeastNumber o r hX2
    by_cases h : scE o r 1 8 = 0
    · obtain ⟨hs, ⟨hr1, hr8⟩, _⟩ := scE_ok h
      have hr0 : 0 ≤ r := by omega
      have hpr := isSpaceM_prod hs
      obtain ⟨f1, f2, f3⟩ := fc_facts hs hr0
      obtain ⟨g1, g2, g3⟩ := grM_ok hs hr0
      obtain ⟨c, c1, c2, c3⟩ := free_cover hs hr0
      have hrc : rcM o r = 0 := by unfold rcM; rw [if_pos hs, if_pos ⟨hr0, hr8⟩]
      have hcc : ccM o (fcM o r) r = 0 := by rw [ccM, ggM, if_pos hs, if_pos f1, if_pos rfl, if_pos ⟨hr0, hr8⟩]
      have hfg := f3 _ g1 g3
      have hfc := f3 _ c1 c2
      have hlo := cov_bound hs hr0 f2
      have h5 := d_impl_CoversSpace o (fcM o r) r hX2 (by omega)
      have h6 := d_impl_BallBound o r hX2
      have h7 := d_impl_FreeBound o r hX2
      have h8 := d_impl_GreedyCode o r hX2
      rw [lstR_ok h] at h1
      rw [lstF, if_pos h] at h2
      rw [lnR, if_pos h, h] at h3 h4
      rw [cvsR, if_pos hcc, hcc, f2] at h5
      rw [bbR, if_pos hrc, hrc] at h6
      rw [fbR, if_pos hrc, hrc] at h7
      rw [lstR_ok hrc] at h8
      exact .inl ⟨_, _, _, _, ⟨by omega, hlo, by omega, hfg, h1, h2, h3, h4, h5, h6, h7, h8⟩⟩
    · rw [lstR_no h] at h1
      rw [lstF, if_neg h] at h2
      rw [lnR, if_neg h] at h3 h4
      exact .inr ⟨_, h, ⟨h1, h2, h3, h4⟩⟩
  · exact .inr ⟨1, by decide, ⟨d_nil_impl_FirstCover r, d_nil_spec_FirstCover r, d_nil_impl_LeastNumber r, d_nil_spec_LeastNumber r⟩⟩
theorem bf_facts {X : D} {o : List Int} (r : Int) (hX : drL X o) : ∃ b f e, BfF X r b f e := by
  obtain ⟨hX1, hX2, hX3⟩ := hX
  rcases hX1 with rfl | ⟨rfl, rfl⟩
  · refine ⟨_, _, _, ⟨fun h => ?_, d_impl_BallBound o r hX2, d_spec_BallBound o r hX2, d_impl_FreeBound o r hX2, d_spec_FreeBound o r hX2⟩⟩
    rw [if_pos h, if_pos h]
    obtain ⟨hs, hr0, hr8⟩ := rcM_ok' h
    obtain ⟨c, c1, c2, c3⟩ := free_cover hs hr0
    have := cov_bound hs hr0 c2
    omega
  · exact ⟨0, 0, 1, ⟨fun h => absurd h (by decide), d_nil_impl_BallBound r, d_nil_spec_BallBound r, d_nil_impl_FreeBound r, d_nil_spec_FreeBound r⟩⟩
theorem fr_pack {X : D} {o c : List Int} (hX : drL X o) (hc : c.length < 1048577) : (∃ W, FrF X c W) ∨ ∃ e, e ≠ 0 ∧ FrN X c e := by
  obtain ⟨hX1, hX2, hX3⟩ := hX
  rcases hX1 with rfl | ⟨rfl, rfl⟩
  · have h1 := d_impl_FreeCode o c hX2 hc
    have h2 := d_spec_FreeCode o c hX2 hc
    by_cases h : frE o c = 0
    · obtain ⟨hs, hcc, h0, hm⟩ := fr_facts h
      have hpr := isSpaceM_prod hs
      have hcl := isCodeM_len hcc
      have h3 := d_impl_RadiusOf o (frM o c) hs hcc h0 (by omega)
      rw [lstR_ok h] at h1 h2
      rw [hm] at h3
      exact .inl ⟨_, ⟨by omega, h1, h2, h3⟩⟩
    · rw [lstR_no h] at h1 h2
      exact .inr ⟨_, h, ⟨h1, h2⟩⟩
  · exact .inr ⟨1, by decide, ⟨d_nil_impl_FreeCode c, d_nil_spec_FreeCode c⟩⟩
end Go.Proofs.YtfgjfjgkoabfjacGreat.Va
